/- Own texts of this claim, joined. No conditions. -/
import Derived.Test.YtbnnmjfjibneaaaHShopProveda
import Derived.Test.YtbnnmjfjibneaaaHShopProvedb
import Derived.Test.YtbnnmjfjibneaaaHShopProvedc
import Derived.Test.YtbnnmjfjibneaaaHShopProvedd
import Derived.Test.YtbnnmjfjibneaaaHShopProvede
import Derived.Test.YtbnnmjfjibneaaaHShopProvedf
import Derived.Test.YtbnnmjfjibneaaaHShopProvedg
/- Walks of this seat, printed by gen.py over the engine: what each function returns, in whatever world. No conditions but those of each contract. -/
set_option linter.unusedVariables false
set_option linter.unusedSimpArgs false
set_option maxRecDepth 20000
namespace Go.Proofs
open Go.Rt Go.Rt.Sh
attribute [local irreducible] WL WC Con Yd At Ats Sl Agree DW
theorem Try_Ze_fb6 (x0 : Int) (w : World) : (Instr.buildSlice 30 1 [(0, .int .i64 x0)].toArray).run Try.prog w = .ok (.slice (some ⟨w.heap.size, 0, none⟩) 1 1) (w.alloc (Go.Rt.blk 3 [.int .i64 x0])) := by kernel_rfl
theorem Try_Ze_fb7  (w : World) : (Instr.buildSlice 30 0 [].toArray).run Try.prog w = .ok (.slice (some ⟨w.heap.size, 0, none⟩) 0 0) (w.alloc (Go.Rt.blk 3 [])) := by kernel_rfl
theorem own_set {n b cap r : Nat} {cs : List Value} {l : List Int} {z : Value} {x : Int} (hl : l.length = n) (h1 : n ≤ cap) (h2 : cap ≤ maxLen) (h3 : cs.length = cap * 1) (h5 : (cs.set r z).take (n * 1) = iv (subAt l r x)) : Rt.Own (.slice (some ⟨b, 0, none⟩) n cap) 3 1 n (iv (subAt l r x)) [(b, blk 3 (cs.set r z))] :=
  ⟨by simp [iv, subAt_len, hl], .inr ⟨b, cap, _, rfl, rfl, h1, h2, by rw [List.length_set]; exact h3, h5⟩⟩
theorem keep_mid {w0 w : World} {F : List (Nat × Obj)} {a b : Nat × Obj} (h : St w0 w (a :: b :: F)) : St w0 w ([a] ++ F) := (h.perm (perm_mid [a] [b] F)).tail
theorem sl_u8 {w0 : World} {F : List (Nat × Obj)} {a : Option Addr} {l : List Int} {i : Nat} (h : Sl w0 F a 1 (l.map fun x => [Value.int .u8 x])) (hi : i < l.length) :
    ∃ b off, a = some ⟨b, off, none⟩ ∧ Ats w0 F b (off + i * 1) [.int .u8 l[i]] := by
  obtain ⟨b, off, ha, _, hat⟩ := h.at (i := i) (row := [.int .u8 l[i]]) (by simp [hi])
  exact ⟨b, off, ha, hat⟩
theorem c79 {w0 w : World} {F : List (Nat × Obj)} (ax : Option Addr) (cx : Nat) (x : List Int) (hxl : x.length ≤ 9223372036854775807) (hxs : Sl w0 F ax 1 (x.map fun n => [Value.int .u8 n])) (hxr : ∀ z ∈ x, 0 ≤ z ∧ z ≤ 255) (n : Nat) (hs : St w0 w F) : Con Try.prog 79 [.slice ax x.length cx, .int .i64 (n : Int)] w fun v w' => v = .int .i64 (turnOf x n) ∧ St w0 w' F := by
  refine con_of_wc (n := 16) Try.func79 rfl rfl (Nat.le_of_ble_eq_true rfl) ?_
  refine w_seq (fun K2 hK1 => ?_)
  refine w_region ?_
  refine w_pure want_none (y_assign (v := _) rfl rfl) rfl ?_
  refine w_nil ?_
  refine q_then (hK1 _ _ ?_)
  refine w_seq (fun K4 hK3 => ?_)
  refine w_seq (fun K6 hK5 => ?_)
  refine w_region ?_
  refine w_pure want_none (y_move (v := .slice _ _ _) rfl rfl) rfl ?_
  refine w_pure want_none (y_lenS Try.underlying45 rfl rfl) rfl ?_
  refine w_pure want_none (y_eql rfl rfl rfl rfl) rfl ?_
  refine w_nil ?_
  refine q_then (hK5 _ _ ?_)
  refine w_cond rfl rfl (fun h7 => ?_) (fun h7 => ?_)
  ·
   try simp only [Bool.not_eq_true', Bool.not_eq_false', decide_eq_true_eq, decide_eq_false_iff_not, Int.not_lt, Int.not_le] at h7
   refine w_seq (fun K9 hK8 => ?_)
   refine w_region ?_
   refine w_pure want_none (y_assign (v := _) rfl rfl) rfl ?_
   refine w_nil ?_
   refine q_then (hK8 _ _ ?_)
   refine w_ret ?_
   refine q_then_ret ?_
   refine q_ret (l := [.tmp 4]) (vs := [_]) rfl ⟨⟨rfl, show _ = (.int _ _ : Value) from rfl⟩, trivial⟩ ?_
   first
     | exact ⟨congrArg (Value.int .i64) (by unfold turnOf; rw [if_pos (by omega)]), hs⟩
     | exact ⟨congrArg (Value.int .i64) (turn_at hx0), hs⟩
  ·
   try simp only [Bool.not_eq_true', Bool.not_eq_false', decide_eq_true_eq, decide_eq_false_iff_not, Int.not_lt, Int.not_le] at h7
   refine w_skip ?_
   refine q_then (hK3 _ _ ?_)
   refine w_seq (fun K11 hK10 => ?_)
   have hx0 : 0 < x.length := by omega
   have hm := Nat.mod_lt n hx0
   obtain ⟨bx, ox, rfl, hx⟩ := sl_u8 hxs hm
   have hr := hxr _ (List.getElem_mem hm)
   refine w_region ?_
   refine w_pure want_none (y_move (v := .slice _ _ _) rfl rfl) rfl ?_
   refine w_pure want_none (y_move (v := .int _ _) rfl rfl) rfl ?_
   refine w_pure want_none (y_move (v := .slice _ _ _) rfl rfl) rfl ?_
   refine w_pure want_none (y_lenS Try.underlying45 rfl rfl) rfl ?_
   refine w_pure want_none (y_rem rfl rfl rfl rfl (by omega) (by omega)) rfl ?_
   refine w_pure want_none (y_indexS Try.underlying45 Try.sizeOf5 rfl rfl rfl rfl (i := n % x.length) (by simp) hm) rfl ?_
   refine w_pure want_none (y_load1 Try.isAgg5 hs rfl rfl hx) rfl ?_
   refine w_pure want_none (y_u8int (by rw [Try.underlying5]; rfl) Try.underlying3 rfl rfl (by omega) (by omega)) rfl ?_
   refine w_pure want_none (y_assign (v := .int _ _) rfl rfl) rfl ?_
   refine w_nil ?_
   refine q_then (hK10 _ _ ?_)
   refine w_ret ?_
   refine q_ret (l := [.tmp 4]) (vs := [_]) rfl ⟨⟨rfl, show _ = (.int _ _ : Value) from rfl⟩, trivial⟩ ?_
   first
     | exact ⟨congrArg (Value.int .i64) (by unfold turnOf; rw [if_pos (by omega)]), hs⟩
     | exact ⟨congrArg (Value.int .i64) (turn_at hx0), hs⟩

theorem c46 {w0 w : World} {F : List (Nat × Obj)} (b n : Nat) (hb : b ≤ 9223372036854775807) (hn : n ≤ 9223372036854775807) (hs : St w0 w F) : Con Try.prog 46 [.int .i64 (b : Int), .int .i64 (n : Int)] w fun v w' => v = .bool (decide ((((b >>> n : Nat) : Int)) % 2 = 1)) ∧ St w0 w' F := by
  refine con_of_wc (n := 16) Try.func46 rfl rfl (Nat.le_of_ble_eq_true rfl) ?_
  refine w_seq (fun K2 hK1 => ?_)
  refine w_region ?_
  refine w_pure want_none (y_assign (v := _) rfl rfl) rfl ?_
  refine w_nil ?_
  refine q_then (hK1 _ _ ?_)
  refine w_seq (fun K4 hK3 => ?_)
  refine w_seq (fun K6 hK5 => ?_)
  refine w_region ?_
  refine w_pure want_none (y_assign (v := _) rfl rfl) rfl ?_
  refine w_nil ?_
  refine q_then (hK5 _ _ ?_)
  refine w_block ?_
  refine w_loop [0, 5, 6, 7, 8, 9, 10, 11, 12] [0, 5] (fun k vs w => ∃ i : Nat, vs = [.int .i64 ((b >>> i : Nat) : Int), .int .i64 i] ∧ i ≤ n ∧ k = n - i ∧ St w0 w F) (n) ?_ ?_
  ·
   exact ⟨0, rfl, by omega, by omega, hs⟩
  ·
   intro k vs μ w9 hI K8 hN7
   obtain ⟨i, rfl, hia, rfl, hs⟩ := hI
   have hsl := shr_le b i
   have hsl0 : (0 : Int) ≤ ((b >>> i : Nat) : Int) := Int.natCast_nonneg _
   refine w_seq (fun K11 hK10 => ?_)
   refine w_seq (fun K13 hK12 => ?_)
   refine w_region ?_
   refine w_pure want_none (y_move (v := .int _ _) rfl rfl) rfl ?_
   refine w_pure want_none (y_move (v := .int _ _) rfl rfl) rfl ?_
   refine w_pure want_none (y_lss rfl rfl rfl rfl) rfl ?_
   refine w_nil ?_
   refine q_then (hK12 _ _ ?_)
   refine w_cond rfl rfl (fun h14 => ?_) (fun h14 => ?_)
   ·
    try simp only [Bool.not_eq_true', Bool.not_eq_false', decide_eq_true_eq, decide_eq_false_iff_not, Int.not_lt, Int.not_le] at h14
    refine w_skip ?_
    refine q_then (hK10 _ _ ?_)
    refine w_seq (fun K16 hK15 => ?_)
    refine w_block ?_
    refine w_region ?_
    refine w_pure want_none (y_move (v := .int _ _) rfl rfl) rfl ?_
    refine w_pure want_none (y_quo rfl rfl rfl rfl (by omega) (by omega) (by omega)) rfl ?_
    refine w_pure want_none (y_assign (v := .int _ _) rfl rfl) rfl ?_
    refine w_nil ?_
    refine q_blk_normal ?_
    refine q_then (hK15 _ _ ?_)
    refine w_region ?_
    refine w_pure want_none (y_move (v := .int _ _) rfl rfl) rfl ?_
    refine w_pure want_none (y_add rfl rfl rfl rfl (by omega) (by omega)) rfl ?_
    refine w_pure want_none (y_assign (v := .int _ _) rfl rfl) rfl ?_
    refine w_nil ?_
    refine q_then (hN7 _ _ (Nx.intro (n - (i + 1)) (by omega) (by repeat (first | exact agree_mix | refine agree_upd rfl ?_ | refine agree_updL rfl ?_ _ | refine agree_mixin rfl ?_)) ?_))
    exact ⟨i + 1, by rw [← shr_half]; rfl, by omega, rfl, hs⟩
   ·
    try simp only [Bool.not_eq_true', Bool.not_eq_false', decide_eq_true_eq, decide_eq_false_iff_not, Int.not_lt, Int.not_le] at h14
    refine w_exit ?_
    refine q_then_exit ?_
    refine q_then_exit ?_
    refine q_blk_this ?_
    refine q_then (hK3 _ _ ?_)
    refine w_seq (fun K18 hK17 => ?_)
    refine w_region ?_
    refine w_pure want_none (y_move (v := .int _ _) rfl rfl) rfl ?_
    refine w_pure want_none (y_rem rfl rfl rfl rfl (by omega) (by omega)) rfl ?_
    refine w_pure want_none (y_eql rfl rfl rfl rfl) rfl ?_
    refine w_pure want_none (y_assign (v := .bool _) rfl rfl) rfl ?_
    refine w_nil ?_
    refine q_then (hK17 _ _ ?_)
    refine w_ret ?_
    refine q_ret (l := [.tmp 4]) (vs := [_]) rfl ⟨⟨rfl, show _ = (.bool _ : Value) from rfl⟩, trivial⟩ ?_
    have hin : i = n := by omega
    subst hin
    exact ⟨rfl, hs⟩

theorem c45 {w0 w : World} {F : List (Nat × Obj)} (aa ab : Option Addr) (a b : List Int) (ca cb : Nat) (hla : a.length ≤ 9223372036854775807) (ha : Sl w0 F aa 1 (a.map fun x => [Value.int .i64 x])) (hb : Sl w0 F ab 1 (b.map fun x => [Value.int .i64 x])) (hs : St w0 w F) : Con Try.prog 45 [.slice aa a.length ca, .slice ab b.length cb] w fun v w' => v = .bool (if a.length = b.length then less a b else decide (a.length < b.length)) ∧ St w0 w' F := by
  refine con_of_wc (n := 18) Try.func45 rfl rfl (Nat.le_of_ble_eq_true rfl) ?_
  refine w_seq (fun K2 hK1 => ?_)
  refine w_region ?_
  refine w_pure want_none (y_assign (v := _) rfl rfl) rfl ?_
  refine w_nil ?_
  refine q_then (hK1 _ _ ?_)
  refine w_seq (fun K4 hK3 => ?_)
  refine w_seq (fun K6 hK5 => ?_)
  refine w_region ?_
  refine w_pure want_none (y_move (v := .slice _ _ _) rfl rfl) rfl ?_
  refine w_pure want_none (y_lenS Try.underlying30 rfl rfl) rfl ?_
  refine w_pure want_none (y_move (v := .slice _ _ _) rfl rfl) rfl ?_
  refine w_pure want_none (y_lenS Try.underlying30 rfl rfl) rfl ?_
  refine w_pure want_none (y_neq rfl rfl rfl rfl) rfl ?_
  refine w_nil ?_
  refine q_then (hK5 _ _ ?_)
  refine w_cond rfl rfl (fun h7 => ?_) (fun h7 => ?_)
  ·
   try simp only [Bool.not_eq_true', Bool.not_eq_false', decide_eq_true_eq, decide_eq_false_iff_not, Int.not_lt, Int.not_le] at h7
   refine w_seq (fun K9 hK8 => ?_)
   refine w_region ?_
   refine w_pure want_none (y_move (v := .slice _ _ _) rfl rfl) rfl ?_
   refine w_pure want_none (y_lenS Try.underlying30 rfl rfl) rfl ?_
   refine w_pure want_none (y_move (v := .slice _ _ _) rfl rfl) rfl ?_
   refine w_pure want_none (y_lenS Try.underlying30 rfl rfl) rfl ?_
   refine w_pure want_none (y_lss rfl rfl rfl rfl) rfl ?_
   refine w_pure want_none (y_assign (v := .bool _) rfl rfl) rfl ?_
   refine w_nil ?_
   refine q_then (hK8 _ _ ?_)
   refine w_ret ?_
   refine q_then_ret ?_
   refine q_ret (l := [.tmp 4]) (vs := [_]) rfl ⟨⟨rfl, show _ = (.bool _ : Value) from rfl⟩, trivial⟩ ?_
   first
     | exact ⟨congrArg Value.bool (by rw [if_neg (by omega)]; rw [Bool.eq_iff_iff]; simp), hs⟩
     | exact ⟨congrArg Value.bool (by rw [if_pos (by omega)]), hs⟩
  ·
   try simp only [Bool.not_eq_true', Bool.not_eq_false', decide_eq_true_eq, decide_eq_false_iff_not, Int.not_lt, Int.not_le] at h7
   refine w_skip ?_
   refine q_then (hK3 _ _ ?_)
   refine w_seq (fun K11 hK10 => ?_)
   refine w_region ?_
   refine w_pure want_none (y_move (v := .slice _ _ _) rfl rfl) rfl ?_
   refine w_pure want_none (y_move (v := .slice _ _ _) rfl rfl) rfl ?_
   refine w_call want_none Try.call42 rfl rfl rfl rfl (c42 _ _ _ _ _ _ (by omega) (by assumption) (by assumption) hs) ?_
   rintro _ w13 ⟨rfl, hs14⟩
   refine w_pure want_none (y_assign (v := .bool _) rfl rfl) rfl ?_
   refine w_nil ?_
   refine q_then (hK10 _ _ ?_)
   refine w_ret ?_
   refine q_ret (l := [.tmp 4]) (vs := [_]) rfl ⟨⟨rfl, show _ = (.bool _ : Value) from rfl⟩, trivial⟩ ?_
   first
     | exact ⟨congrArg Value.bool (by rw [if_neg (by omega)]; rw [Bool.eq_iff_iff]; simp), hs14⟩
     | exact ⟨congrArg Value.bool (by rw [if_pos (by omega)]), hs14⟩

theorem c35 {w0 w : World} {F : List (Nat × Obj)} (m : Market) (p : At3) (hm : MIn w0 F m p)  (hs : St w0 w F) :
  Con Try.prog 35 [.agg (m.cells p).toArray] w fun v w' => v = .bool (decide ((check m).2.2 = 0)) ∧ St w0 w' F := by
  refine con_of_wc (n := 14) Try.func35 rfl rfl (Nat.le_of_ble_eq_true rfl) ?_
  refine w_seq (fun K2 hK1 => ?_)
  refine w_region ?_
  refine w_box (v := .agg #[.slice _ _ _, .slice _ _ _, .slice _ _ _]) (cs := [_, _, _]) want_none rfl rfl rfl hs (fun b3 w4 hs5 => ?_)
  refine w_pure want_none (y_assign (v := _) rfl rfl) rfl ?_
  refine w_nil ?_
  refine q_then (hK1 _ _ ?_)
  refine w_seq (fun K7 hK6 => ?_)
  refine w_region ?_
  refine w_pure want_none (y_loadN (vs := [_, _, _]) Try.isAgg26 Try.sizeOf26 hs5 rfl rfl (ats_own (i := 0) (vs := [_, _, _]) rfl rfl)) rfl ?_
  refine w_call want_none Try.call17 rfl rfl rfl rfl (c17 m _ hm.cons hs5) ?_
  rintro _ w9 ⟨rfl, hs10⟩
  refine w_pure want_none (y_move (v := .tuple _) rfl rfl) rfl ?_
  refine w_pure want_none (y_extract (v := .int _ _) rfl rfl rfl) rfl ?_
  refine w_pure want_none (y_extract (v := .int _ _) rfl rfl rfl) rfl ?_
  refine w_pure want_none (y_extract (v := .int _ _) rfl rfl rfl) rfl ?_
  refine w_pure want_none (y_assign (v := .int _ _) rfl rfl) rfl ?_
  refine w_pure want_none (y_assign (v := .int _ _) rfl rfl) rfl ?_
  refine w_pure want_none (y_assign (v := .int _ _) rfl rfl) rfl ?_
  refine w_nil ?_
  refine q_then (hK6 _ _ ?_)
  refine w_seq (fun K12 hK11 => ?_)
  refine w_region ?_
  refine w_pure want_none (y_move (v := .int _ _) rfl rfl) rfl ?_
  refine w_pure want_none (y_eql rfl rfl rfl rfl) rfl ?_
  refine w_pure want_none (y_assign (v := .bool _) rfl rfl) rfl ?_
  refine w_nil ?_
  refine q_then (hK11 _ _ ?_)
  refine w_ret ?_
  refine q_ret (l := [.tmp 2]) (vs := [_]) rfl ⟨⟨rfl, show _ = (.bool _ : Value) from rfl⟩, trivial⟩ ?_
  exact ⟨rfl, hs10.tail⟩

theorem c43 {w0 w : World} {F : List (Nat × Obj)} (m : Market) (p : At3) (hm : MIn w0 F m p) (hok : m.Ok) (b : Nat) (hb : b ≤ 9223372036854775807) (hs : St w0 w F) :
  Con Try.prog 43 [.agg (m.cells p).toArray, .int .i64 (b : Int)] w fun v w' => ∃ B a c, v = .slice a (listL b m.shops.length).length c ∧ Sl w0 B a 1 ((listL b m.shops.length).map fun x => [Value.int .i64 x]) ∧ St w0 w' (B ++ F) := by
  refine con_of_wc (n := 22) Try.func43 rfl rfl (Nat.le_of_ble_eq_true rfl) ?_
  have hls := hok.ls
  refine w_seq (fun K2 hK1 => ?_)
  refine w_region ?_
  refine w_box (v := .agg #[.slice _ _ _, .slice _ _ _, .slice _ _ _]) (cs := [_, _, _]) want_none rfl rfl rfl hs (fun b3 w4 hs5 => ?_)
  refine w_pure want_none (y_assign (v := _) rfl rfl) rfl ?_
  refine w_nil ?_
  refine q_then (hK1 _ _ ?_)
  refine w_seq (fun K7 hK6 => ?_)
  have hbx : Ats w0 ((b3, blk 26 (m.cells p)) :: F) b3 0 (m.cells p) := ats_own (i := 0) (vs := m.cells p) rfl rfl
  refine w_region ?_
  refine w_pure want_none (y_assign (v := _) rfl rfl) rfl ?_
  refine w_nil ?_
  refine q_then (hK6 _ _ ?_)
  refine w_seq (fun K9 hK8 => ?_)
  refine w_seq (fun K11 hK10 => ?_)
  refine w_region ?_
  refine w_pure want_none (y_assign (v := _) rfl rfl) rfl ?_
  refine w_nil ?_
  refine q_then (hK10 _ _ ?_)
  refine w_block ?_
  refine w_loop [5, 6, 7, 8, 9, 10, 11, 12, 13, 14, 15, 16, 17, 18, 19, 20] [5, 6] (fun k vs w => ∃ (i : Nat) (v : Value) (B : List (Nat × Obj)), vs = [v, .int .i64 i] ∧ i ≤ m.shops.length ∧ k = m.shops.length - i ∧ Rt.Own v 3 1 (listL b i).length (iv (listL b i)) B ∧ St w0 w (B ++ ((b3, blk 26 (m.cells p)) :: F))) (m.shops.length) ?_ ?_
  ·
   exact ⟨0, _, [], rfl, by omega, by omega, own_nil 3 1, hs5⟩
  ·
   intro k vs μ w14 hI K13 hN12
   obtain ⟨i, v, B, rfl, hia, rfl, hown, hs⟩ := hI
   refine w_seq (fun K16 hK15 => ?_)
   refine w_seq (fun K18 hK17 => ?_)
   refine w_region ?_
   refine w_pure want_none (y_move (v := .int _ _) rfl rfl) rfl ?_
   refine w_pure want_none (y_fieldAddr (o := 1) (i := 1) Try.underlying26 rfl Try.sizeOf23 rfl rfl rfl) rfl ?_
   refine w_pure want_none (y_load1 Try.isAgg23 hs.drop rfl rfl (show Ats _ _ _ _ [_] from Ats.part hbx 1 1)) rfl ?_
   refine w_pure want_none (y_lenS Try.underlying23 rfl rfl) rfl ?_
   refine w_pure want_none (y_lss rfl rfl rfl rfl) rfl ?_
   refine w_nil ?_
   refine q_then (hK17 _ _ ?_)
   refine w_cond rfl rfl (fun h19 => ?_) (fun h19 => ?_)
   ·
    try simp only [Bool.not_eq_true', Bool.not_eq_false', decide_eq_true_eq, decide_eq_false_iff_not, Int.not_lt, Int.not_le] at h19
    refine w_skip ?_
    refine q_then (hK15 _ _ ?_)
    refine w_seq (fun K21 hK20 => ?_)
    refine w_block ?_
    refine w_seq (fun K23 hK22 => ?_)
    have hgl := listL_le b i
    refine w_region ?_
    refine w_pure want_none (y_move (v := .int _ _) rfl rfl) rfl ?_
    refine w_pure want_none (y_move (v := .int _ _) rfl rfl) rfl ?_
    refine w_call want_none Try.call46 rfl rfl rfl rfl (c46 b i hb (by omega) hs) ?_
    rintro _ w25 ⟨rfl, hs26⟩
    refine w_nil ?_
    refine q_then (hK22 _ _ ?_)
    refine w_cond rfl rfl (fun h27 => ?_) (fun h27 => ?_)
    ·
     try simp only [Bool.not_eq_true', Bool.not_eq_false', decide_eq_true_eq, decide_eq_false_iff_not, Int.not_lt, Int.not_le] at h27
     refine w_region ?_
     refine w_pure want_none (y_move (v := v) rfl rfl) rfl ?_
     refine w_pure want_none (y_move (v := .int _ _) rfl rfl) rfl ?_
     refine w_bslice (ps := [(0, _)]) (pv := [(0, .int _ _)]) (cs := [_]) want_none rfl rfl (fun w => Try_Ze_fb6 _ w) hs26 (fun b28 w29 hs30 => ?_)
     refine w_append (X := (_ :: [])) (B := B) (rows := [[_]]) (sz := 1) (bytes := 8) want_none Try.underlying30 Try_info3 rfl rfl rfl rfl rfl rfl rfl rfl rfl hs30 hown (sl_own (i := 0) rfl (by simp) rfl) rfl (by simp) (by simp [Value.oneCell']) (by simp only [maxLen]; omega) (by omega) (fun v31 w32 B33 ho34 hs35 => ?_)
     replace hs35 := (show St _ _ (_ :: B33 ++ (_ :: F)) from hs35)
     refine w_pure want_none (y_assign (v := v31) rfl rfl) rfl ?_
     refine w_nil ?_
     refine q_blk_normal ?_
     refine q_then (hK20 _ _ ?_)
     refine w_region ?_
     refine w_pure want_none (y_move (v := .int _ _) rfl rfl) rfl ?_
     refine w_pure want_none (y_add rfl rfl rfl rfl (by omega) (by omega)) rfl ?_
     refine w_pure want_none (y_assign (v := .int _ _) rfl rfl) rfl ?_
     refine w_nil ?_
     refine q_then (hN12 _ _ (Nx.intro (m.shops.length - (i + 1)) (by omega) (by repeat (first | exact agree_mix | refine agree_upd rfl ?_ | refine agree_updL rfl ?_ _ | refine agree_mixin rfl ?_)) ?_))
     exact ⟨i + 1, _, _, rfl, by omega, rfl, by rw [listL_yes ((bit_odd b i).1 (by assumption))]; exact own_snoc ho34, hs35.tail⟩
    ·
     try simp only [Bool.not_eq_true', Bool.not_eq_false', decide_eq_true_eq, decide_eq_false_iff_not, Int.not_lt, Int.not_le] at h27
     refine w_skip ?_
     refine q_blk_normal ?_
     refine q_then (hK20 _ _ ?_)
     refine w_region ?_
     refine w_pure want_none (y_move (v := .int _ _) rfl rfl) rfl ?_
     refine w_pure want_none (y_add rfl rfl rfl rfl (by omega) (by omega)) rfl ?_
     refine w_pure want_none (y_assign (v := .int _ _) rfl rfl) rfl ?_
     refine w_nil ?_
     refine q_then (hN12 _ _ (Nx.intro (m.shops.length - (i + 1)) (by omega) (by repeat (first | exact agree_mix | refine agree_upd rfl ?_ | refine agree_updL rfl ?_ _ | refine agree_mixin rfl ?_)) ?_))
     exact ⟨i + 1, v, B, rfl, by omega, rfl, by rw [listL_no (fun h => by have := (bit_odd b i).2 h; contradiction)]; exact hown, hs26⟩
   ·
    try simp only [Bool.not_eq_true', Bool.not_eq_false', decide_eq_true_eq, decide_eq_false_iff_not, Int.not_lt, Int.not_le] at h19
    refine w_exit ?_
    refine q_then_exit ?_
    refine q_then_exit ?_
    refine q_blk_this ?_
    refine q_then (hK8 _ _ ?_)
    refine w_seq (fun K37 hK36 => ?_)
    refine w_region ?_
    refine w_pure want_none (y_move (v := v) rfl rfl) rfl ?_
    refine w_pure want_none (y_assign (v := v) rfl rfl) rfl ?_
    refine w_nil ?_
    refine q_then (hK36 _ _ ?_)
    refine w_ret ?_
    refine q_ret (l := [.tmp 4]) (vs := [_]) rfl ⟨⟨rfl, show _ = (v : Value) from rfl⟩, trivial⟩ ?_
    have hil : i = m.shops.length := by omega
    subst hil
    obtain ⟨ag, cg, rfl, hsg, _, _⟩ := own_ints (w0 := w0) hown
    exact ⟨B ++ [_], ag, cg, rfl, hsg.top, by rw [List.append_assoc]; exact hs⟩

theorem c40 {w0 w : World} {F : List (Nat × Obj)} (m : Market) (p : At3) (hm : MIn w0 F m p) (hok : m.Ok) (al : Option Addr) (cl : Nat) (l : List Int) (hll : l.length ≤ 9223372036854775807) (hl : Sl w0 F al 1 (l.map fun x => [Value.int .i64 x])) (hlt2 : l.length ≤ m.trains.length) (hlb : ∀ z ∈ l, 0 ≤ z ∧ z ≤ 60) (hs : St w0 w F) :
  Con Try.prog 40 [.agg (m.cells p).toArray, .slice al l.length cl] w fun v w' => ∃ B a c, v = .slice a (gotTo m l l.length).length c ∧ Sl w0 B a 1 ((gotTo m l l.length).map fun x => [Value.int .i64 x]) ∧ St w0 w' (B ++ F) := by
  refine con_of_wc (n := 37) Try.func40 rfl rfl (Nat.le_of_ble_eq_true rfl) ?_
  have hls := hok.ls
  have hlt := hok.lt
  refine w_seq (fun K2 hK1 => ?_)
  refine w_region ?_
  refine w_box (v := .agg #[.slice _ _ _, .slice _ _ _, .slice _ _ _]) (cs := [_, _, _]) want_none rfl rfl rfl hs (fun b3 w4 hs5 => ?_)
  refine w_pure want_none (y_assign (v := _) rfl rfl) rfl ?_
  refine w_nil ?_
  refine q_then (hK1 _ _ ?_)
  refine w_seq (fun K7 hK6 => ?_)
  have hbx : Ats w0 ((b3, blk 26 (m.cells p)) :: F) b3 0 (m.cells p) := ats_own (i := 0) (vs := m.cells p) rfl rfl
  refine w_region ?_
  refine w_pure want_none (y_fieldAddr (o := 1) (i := 1) Try.underlying26 rfl Try.sizeOf23 rfl rfl rfl) rfl ?_
  refine w_pure want_none (y_load1 Try.isAgg23 hs5 rfl rfl (show Ats _ _ _ _ [_] from Ats.part hbx 1 1)) rfl ?_
  refine w_pure want_none (y_lenS Try.underlying23 rfl rfl) rfl ?_
  refine w_makeInts (k := m.shops.length) want_none Try.underlying30 Try_info3 rfl rfl (by omega) rfl rfl rfl rfl rfl hs5 (fun b8 w9 hs10 => ?_)
  refine w_pure want_none (y_assign (v := .slice _ _ _) rfl rfl) rfl ?_
  refine w_nil ?_
  refine q_then (hK6 _ _ ?_)
  refine w_seq (fun K12 hK11 => ?_)
  refine w_seq (fun K14 hK13 => ?_)
  refine w_region ?_
  refine w_pure want_none (y_assign (v := _) rfl rfl) rfl ?_
  refine w_nil ?_
  refine q_then (hK13 _ _ ?_)
  refine w_block ?_
  refine w_loop [6, 7, 12, 13, 14, 15, 16, 17, 18, 19, 20, 21, 22, 23, 24, 25, 26, 27, 28, 29, 30, 31, 32, 33, 34, 35] [6] (fun k vs w => ∃ i : Nat, vs = [.int .i64 i] ∧ i ≤ l.length ∧ k = l.length - i ∧ St w0 w ((b8, blk 3 (iv (gotTo m l i))) :: (b3, blk 26 (m.cells p)) :: F)) (l.length) ?_ ?_
  ·
   exact ⟨0, rfl, by omega, by omega, hs10⟩
  ·
   intro k vs μ w17 hI K16 hN15
   obtain ⟨i, rfl, hia, rfl, hs⟩ := hI
   refine w_seq (fun K19 hK18 => ?_)
   refine w_seq (fun K21 hK20 => ?_)
   refine w_region ?_
   refine w_pure want_none (y_move (v := .int _ _) rfl rfl) rfl ?_
   refine w_pure want_none (y_move (v := .slice _ _ _) rfl rfl) rfl ?_
   refine w_pure want_none (y_lenS Try.underlying30 rfl rfl) rfl ?_
   refine w_pure want_none (y_lss rfl rfl rfl rfl) rfl ?_
   refine w_nil ?_
   refine q_then (hK20 _ _ ?_)
   refine w_cond rfl rfl (fun h22 => ?_) (fun h22 => ?_)
   ·
    try simp only [Bool.not_eq_true', Bool.not_eq_false', decide_eq_true_eq, decide_eq_false_iff_not, Int.not_lt, Int.not_le] at h22
    refine w_skip ?_
    refine q_then (hK18 _ _ ?_)
    refine w_seq (fun K24 hK23 => ?_)
    refine w_block ?_
    refine w_seq (fun K26 hK25 => ?_)
    have hi1 : i < l.length := by omega
    have hi2 : i < m.trains.length := by omega
    obtain ⟨bt, ot, hbt, hxt⟩ := sl_trows hm.t hi2
    have htt := hok.train _ (List.getElem_mem hi2)
    have hgl := gotTo_len m l i
    have hs2 : (m.trains[i]'hi2).shop.toNat < (gotTo m l i).length := by omega
    have hg1 := gotTo_in (m := m) hlb i _ (List.getElem_mem hs2)
    have hl1 := hlb _ (List.getElem_mem hi1)
    obtain ⟨bx, ox, hbx2, hx⟩ := sl_ints (sl_own_ints (w0 := w0) (L := (b8, blk 3 (iv (gotTo m l i))) :: (b3, blk 26 (m.cells p)) :: F) (i := 0) rfl rfl (List.take_of_length_le (by simp))) hs2
    cases hbx2
    obtain ⟨by_, oy, hby2, hy⟩ := sl_ints hl hi1
    subst hby2
    refine w_region ?_
    refine w_pure want_none (y_fieldAddr (o := 2) (i := 2) Try.underlying26 rfl Try.sizeOf24 rfl rfl rfl) rfl ?_
    refine w_pure want_none (yd_slice hbt (y_load1 Try.isAgg24 hs.tail rfl rfl (show Ats _ _ _ _ [_] from Ats.part hbx 2 1))) rfl ?_
    refine w_pure want_none (y_move (v := .int _ _) rfl rfl) rfl ?_
    refine w_pure want_none (y_indexS Try.underlying24 Try.sizeOf63 rfl rfl rfl rfl (i := _) rfl (by omega)) rfl ?_
    refine w_pure want_none (y_fieldAddr (o := 1) (i := 1) Try.underlying63 rfl Try.sizeOf3 rfl rfl rfl) rfl ?_
    refine w_pure want_none (y_load1 Try.isAgg3 hs.tail.tail rfl rfl (show Ats _ _ _ _ [_] from Ats.part hxt 1 1)) rfl ?_
    refine w_pure want_none (y_assign (v := .int _ _) rfl rfl) rfl ?_
    refine w_nil ?_
    refine q_then (hK25 _ _ ?_)
    refine w_draw [12] [(0, 0), (1, 0), (2, 0), (3, 0), (4, 0), (5, 1), (6, 0), (7, 0), (8, 0), (9, 1), (10, 0), (11, 0), (12, 3)] Try_mo (by kernel_rfl) hs (fun w27 hs28 => ?_)
    refine d_any rfl want_none rfl (fun _ => (y_move (v := .slice _ _ _) rfl rfl)) ?_
    refine d_any rfl want_none rfl (fun _ => (y_move (v := .int _ _) rfl rfl)) ?_
    refine d_any rfl want_none rfl (fun _ => (y_move (v := .slice _ _ _) rfl rfl)) ?_
    refine d_any rfl want_none rfl (fun _ => (y_move (v := .int _ _) rfl rfl)) ?_
    refine d_any rfl want_none rfl (fun _ => (y_indexS Try.underlying30 Try.sizeOf3 rfl rfl rfl rfl (i := (m.trains[i]'hi2).shop.toNat) (by omega) (by omega))) ?_
    refine d_take rfl want_none rfl hs28 (fun _ hq => (y_load1 Try.isAgg3 hq rfl rfl hx)) ?_
    refine d_any rfl want_none rfl (fun _ => (y_move (v := .slice _ _ _) rfl rfl)) ?_
    refine d_any rfl want_none rfl (fun _ => (y_move (v := .int _ _) rfl rfl)) ?_
    refine d_any rfl want_none rfl (fun _ => (y_indexS Try.underlying30 Try.sizeOf3 rfl rfl rfl rfl (i := _) rfl (by omega))) ?_
    refine d_take rfl want_none rfl hs28 (fun _ hq => (y_load1 Try.isAgg3 hq.tail.tail rfl rfl hy)) ?_
    refine d_any rfl want_none rfl (fun _ => (y_add rfl rfl rfl rfl (by omega) (by omega))) ?_
    refine d_any rfl want_none rfl (fun _ => (y_indexS Try.underlying30 Try.sizeOf3 rfl rfl rfl rfl (i := (m.trains[i]'hi2).shop.toNat) (by omega) (by omega))) ?_
    refine d_late rfl ?_
    refine w_store (i := 0) (v := .int _ _) (vs := [_]) want_none Try.sizeOf3 rfl rfl rfl rfl rfl (by simp [Value.oneCell']) hs28 rfl (show 0 + (m.trains[i]'hi2).shop.toNat * 1 + 1 ≤ (iv (gotTo m l i)).length by simp [iv]; omega) (fun w29 hs30 => ?_)
    replace hs30 := (show St _ _ ((b8, blk 3 (iv ((gotTo m l i).set (m.trains[i]'hi2).shop.toNat ((gotTo m l i)[(m.trains[i]'hi2).shop.toNat]'hs2 + l[i]'hi1)))) :: _ :: F) from (by have h6 := hs30; simp only [setMany, Nat.zero_add, Nat.mul_one] at h6; exact (by rw [show iv ((gotTo m l i).set (m.trains[i]'hi2).shop.toNat ((gotTo m l i)[(m.trains[i]'hi2).shop.toNat]'hs2 + l[i]'hi1)) = (iv (gotTo m l i)).set (m.trains[i]'hi2).shop.toNat (.int .i64 ((gotTo m l i)[(m.trains[i]'hi2).shop.toNat]'hs2 + l[i]'hi1)) by simp [iv, List.map_set]]; exact h6)))
    refine w_nil ?_
    refine qn ?_
    refine d_nil ?_
    refine q_blk_normal ?_
    refine q_then (hK23 _ _ ?_)
    refine w_region ?_
    refine w_pure want_none (y_move (v := .int _ _) rfl rfl) rfl ?_
    refine w_pure want_none (y_add rfl rfl rfl rfl (by omega) (by omega)) rfl ?_
    refine w_pure want_none (y_assign (v := .int _ _) rfl rfl) rfl ?_
    refine w_nil ?_
    refine q_then (hN15 _ _ (Nx.intro (l.length - (i + 1)) (by omega) (by repeat (first | exact agree_mix | refine agree_upd rfl ?_ | refine agree_updL rfl ?_ _ | refine agree_mixin rfl ?_)) ?_))
    exact ⟨i + 1, rfl, by omega, rfl, by rw [← gotTo_succ hi2 hi1 hs2]; exact hs30⟩
   ·
    try simp only [Bool.not_eq_true', Bool.not_eq_false', decide_eq_true_eq, decide_eq_false_iff_not, Int.not_lt, Int.not_le] at h22
    refine w_exit ?_
    refine q_then_exit ?_
    refine q_then_exit ?_
    refine q_blk_this ?_
    refine q_then (hK11 _ _ ?_)
    refine w_seq (fun K32 hK31 => ?_)
    refine w_region ?_
    refine w_pure want_none (y_move (v := .slice _ _ _) rfl rfl) rfl ?_
    refine w_pure want_none (y_assign (v := .slice _ _ _) rfl rfl) rfl ?_
    refine w_nil ?_
    refine q_then (hK31 _ _ ?_)
    refine w_ret ?_
    refine q_ret (l := [.tmp 4]) (vs := [_]) rfl ⟨⟨rfl, show _ = (.slice _ _ _ : Value) from rfl⟩, trivial⟩ ?_
    have hil : i = l.length := by omega
    subst hil
    exact ⟨[(b8, _)], _, _, by rw [gotTo_len]; rfl, sl_own_ints (i := 0) rfl rfl (List.take_of_length_le (by simp)), keep_mid hs⟩

theorem c39 {w0 w : World} {F : List (Nat × Obj)} (m : Market) (p : At3) (hm : MIn w0 F m p) (hok : m.Ok) (ah : Option Addr) (ch : Nat) (hands : List Int) (hhl : hands.length = m.rooms.length) (hhs : Sl w0 F ah 1 (hands.map fun x => [Value.int .i64 x])) (hhb : ∀ z ∈ hands, 0 ≤ z ∧ z ≤ 200) (hhn : ah = none → ch = 0) (ax : Option Addr) (cx : Nat) (x : List Int) (hxl : x.length ≤ 9223372036854775807) (hxs : Sl w0 F ax 1 (x.map fun n => [Value.int .u8 n])) (hxr : ∀ z ∈ x, 0 ≤ z ∧ z ≤ 255) (hs : St w0 w F) :
  Con Try.prog 39 [.agg (m.cells p).toArray, .slice ah hands.length ch, .slice ax x.length cx] w fun v w' => ∃ B a c, v = .slice a (anyTo m hands x m.trains.length).1.length c ∧ Sl w0 B a 1 ((anyTo m hands x m.trains.length).1.map fun x => [Value.int .i64 x]) ∧ St w0 w' (B ++ F) := by
  refine con_of_wc (n := 59) Try.func39 rfl rfl (Nat.le_of_ble_eq_true rfl) ?_
  have hls := hok.ls
  have hlt := hok.lt
  have hlr := hok.lr
  refine w_seq (fun K2 hK1 => ?_)
  refine w_region ?_
  refine w_box (v := .agg #[.slice _ _ _, .slice _ _ _, .slice _ _ _]) (cs := [_, _, _]) want_none rfl rfl rfl hs (fun b3 w4 hs5 => ?_)
  refine w_pure want_none (y_assign (v := _) rfl rfl) rfl ?_
  refine w_nil ?_
  refine q_then (hK1 _ _ ?_)
  refine w_seq (fun K7 hK6 => ?_)
  have hbx : Ats w0 ((b3, blk 26 (m.cells p)) :: F) b3 0 (m.cells p) := ats_own (i := 0) (vs := m.cells p) rfl rfl
  refine w_region ?_
  refine w_bslice (ps := []) (pv := []) (cs := []) want_none rfl rfl (fun w => Try_Ze_fb7  w) hs5 (fun b8 w9 hs10 => ?_)
  refine w_pure want_none (y_move (v := .slice _ _ _) rfl rfl) rfl ?_
  refine w_append (X := ([])) (B := [_]) (rows := (hands.map fun x => [Value.int .i64 x])) (sz := 1) (bytes := 8) want_none Try.underlying30 Try_info3 rfl rfl rfl rfl rfl rfl rfl rfl rfl hs10 own_made hhs.cons.cons (List.length_map _) hhn (ints_one _) (by simp only [maxLen]; omega) (by omega) (fun v11 w12 B13 ho14 hs15 => ?_)
  replace hs15 := (show St _ _ (B13 ++ (_ :: F)) from hs15)
  refine w_pure want_none (y_assign (v := v11) rfl rfl) rfl ?_
  refine w_nil ?_
  refine q_then (hK6 _ _ ?_)
  refine w_seq (fun K17 hK16 => ?_)
  refine w_region ?_
  refine w_pure want_none (y_assign (v := _) rfl rfl) rfl ?_
  refine w_nil ?_
  refine q_then (hK16 _ _ ?_)
  refine w_seq (fun K19 hK18 => ?_)
  refine w_seq (fun K21 hK20 => ?_)
  refine w_region ?_
  refine w_pure want_none (y_assign (v := _) rfl rfl) rfl ?_
  refine w_nil ?_
  refine q_then (hK20 _ _ ?_)
  refine w_block ?_
  refine w_loop [8, 9, 10, 11, 15, 16, 17, 18, 19, 20, 21, 22, 23, 24, 25, 26, 27, 28, 29, 30, 31, 32, 33, 34, 35, 36, 37, 38, 39, 40, 41, 42, 43, 44, 45, 46, 47, 48, 49, 50, 51, 52, 53, 54, 55, 56, 57] [8, 9] (fun k vs w => ∃ (i : Nat) (vO : Value) (LB OB : List (Nat × Obj)), vs = [vO, .int .i64 i] ∧ i ≤ m.trains.length ∧ k = m.trains.length - i ∧ Rt.Own v11 3 1 m.rooms.length (iv (anyTo m hands x i).2) LB ∧ Rt.Own vO 3 1 (anyTo m hands x i).1.length (iv (anyTo m hands x i).1) OB ∧ St w0 w (LB ++ (OB ++ ((b3, blk 26 (m.cells p)) :: F)))) (m.trains.length) ?_ ?_
  ·
   rw [Nat.zero_add, List.nil_append, flat_ints, hhl] at ho14
   exact ⟨0, _, _, [], rfl, by omega, by omega, ho14, own_nil 3 1, hs15⟩
  ·
   intro k vs μ w24 hI K23 hN22
   obtain ⟨i, vO, LB, OB, rfl, hia, rfl, hownL, hown, hs⟩ := hI
   refine w_seq (fun K26 hK25 => ?_)
   refine w_seq (fun K28 hK27 => ?_)
   refine w_region ?_
   refine w_pure want_none (y_move (v := .int _ _) rfl rfl) rfl ?_
   refine w_pure want_none (y_fieldAddr (o := 2) (i := 2) Try.underlying26 rfl Try.sizeOf24 rfl rfl rfl) rfl ?_
   refine w_pure want_none (y_load1 Try.isAgg24 hs.drop.drop rfl rfl (show Ats _ _ _ _ [_] from Ats.part hbx 2 1)) rfl ?_
   refine w_pure want_none (y_lenS Try.underlying24 rfl rfl) rfl ?_
   refine w_pure want_none (y_lss rfl rfl rfl rfl) rfl ?_
   refine w_nil ?_
   refine q_then (hK27 _ _ ?_)
   refine w_cond rfl rfl (fun h29 => ?_) (fun h29 => ?_)
   ·
    try simp only [Bool.not_eq_true', Bool.not_eq_false', decide_eq_true_eq, decide_eq_false_iff_not, Int.not_lt, Int.not_le] at h29
    refine w_skip ?_
    refine q_then (hK25 _ _ ?_)
    refine w_seq (fun K31 hK30 => ?_)
    refine w_block ?_
    refine w_seq (fun K33 hK32 => ?_)
    have hi2 : i < m.trains.length := by omega
    obtain ⟨bt, ot, hbt, hxt⟩ := sl_trows hm.t hi2
    have htt := hok.train _ (List.getElem_mem hi2)
    obtain ⟨hf1, hf2, hf3, hf4⟩ := anyTo_fine hok hhl hhb (x := x) i hia
    have hr2 : (m.trains[i]'hi2).room.toNat < (anyTo m hands x i).2.length := by omega
    have hrb := hf3 _ (List.getElem_mem hr2)
    have hgd : (anyTo m hands x i).2.getD (m.trains[i]'hi2).room.toNat 0 = (anyTo m hands x i).2[(m.trains[i]'hi2).room.toNat]'hr2 := by simp [List.getD, hr2]
    have hn := anyN_in (m := m) (x := x) (t := (m.trains[i]'hi2)) hf3 ⟨htt.2.2.2.2.2.2.1, htt.2.2.2.2.2.2.2⟩ i
    rw [hgd] at hn
    have htr := turn_in hxr i
    obtain ⟨bl, capl, csl, rfl, hBl, hcl1, hcl2, hcl3, hcl4⟩ := own_some hownL (by omega)
    subst hBl
    replace hs := (show St _ _ ((bl, blk 3 csl) :: (OB ++ ((b3, blk 26 (m.cells p)) :: F))) from hs)
    obtain ⟨bx, ox, hbx2, hx⟩ := sl_ints (sl_own_ints (w0 := w0) (L := (bl, blk 3 csl) :: (OB ++ ((b3, blk 26 (m.cells p)) :: F))) (i := 0) rfl hf2 hcl4) hr2
    cases hbx2
    refine w_region ?_
    refine w_pure want_none (y_fieldAddr (o := 2) (i := 2) Try.underlying26 rfl Try.sizeOf24 rfl rfl rfl) rfl ?_
    refine w_pure want_none (yd_slice hbt (y_load1 Try.isAgg24 hs.tail.drop rfl rfl (show Ats _ _ _ _ [_] from Ats.part hbx 2 1))) rfl ?_
    refine w_pure want_none (y_move (v := .int _ _) rfl rfl) rfl ?_
    refine w_pure want_none (y_indexS Try.underlying24 Try.sizeOf63 rfl rfl rfl rfl (i := _) rfl (by omega)) rfl ?_
    refine w_pure want_none (y_loadN (vs := [_, _, _, _]) Try.isAgg63 Try.sizeOf63 hs.tail.drop.tail rfl rfl hxt) rfl ?_
    refine w_alloc (cs := [_, _, _, _]) want_none Try.zeroValue63 rfl hs (fun b34 w35 hs36 => ?_)
    refine w_store (i := 0) (v := .agg #[.int _ _, .int _ _, .int _ _, .int _ _]) (vs := [_, _, _, _]) want_none Try.sizeOf63 rfl rfl rfl rfl rfl (by simp [Value.oneCell']) hs36 rfl (Nat.le_of_ble_eq_true rfl) (fun w37 hs38 => ?_)
    refine w_nil ?_
    refine q_then (hK32 _ _ ?_)
    refine w_seq (fun K40 hK39 => ?_)
    refine w_region ?_
    refine w_pure want_none (y_assign (v := _) rfl rfl) rfl ?_
    refine w_nil ?_
    refine q_then (hK39 _ _ ?_)
    refine w_seq (fun K42 hK41 => ?_)
    refine w_cut [11, 27, 28, 29, 30, 31, 32, 33, 34, 35, 36, 37, 38, 39, 40, 41, 42] [11] (fun vs w => vs = [.int .i64 (anyN m x (anyTo m hands x i).2 i (m.trains[i]'hi2))] ∧ St w0 w ((b34, blk 63 (Train.cells (m.trains[i]'hi2))) :: ((bl, blk 3 csl) :: (OB ++ ((b3, blk 26 (m.cells p)) :: F))))) (fun K44 hC43 => ?_) ?_
    ·
     refine w_seq (fun K46 hK45 => ?_)
     refine w_region ?_
     refine w_pure want_none (y_loadN (vs := [_, _, _]) Try.isAgg26 Try.sizeOf26 hs38.tail.tail.drop rfl rfl hbx) rfl ?_
     refine w_pure want_none (y_loadN (vs := [_, _, _, _]) Try.isAgg63 Try.sizeOf63 hs38 rfl rfl (ats_own (i := 0) (vs := [_, _, _, _]) rfl rfl)) rfl ?_
     refine w_call want_none Try.call53 rfl rfl rfl rfl (c53 m _ hm.cons.app.cons.cons hok _ (List.getElem_mem hi2) hs38) ?_
     rintro _ w48 ⟨rfl, hs49⟩
     refine w_nil ?_
     refine q_then (hK45 _ _ ?_)
     refine w_cond rfl rfl (fun h50 => ?_) (fun h50 => ?_)
     ·
      try simp only [Bool.not_eq_true', Bool.not_eq_false', decide_eq_true_eq, decide_eq_false_iff_not, Int.not_lt, Int.not_le] at h50
      refine w_draw [] [(0, 0), (1, 0), (3, 0), (4, 1), (5, 0), (6, 0), (7, 1), (8, 0), (9, 1), (10, 0), (11, 0), (2, 2), (12, 0), (13, 0)] Try_mo (by kernel_rfl) hs49 (fun w51 hs52 => ?_)
      refine d_any rfl want_none rfl (fun _ => (y_move (v := .slice _ _ _) rfl rfl)) ?_
      refine d_any rfl want_none rfl (fun _ => (y_move (v := .int _ _) rfl rfl)) ?_
      refine d_any rfl want_none rfl (fun _ => (y_fieldAddr (o := 3) (i := 3) Try.underlying63 rfl Try.sizeOf3 rfl rfl rfl)) ?_
      refine d_take rfl want_none rfl hs52 (fun _ hq => (y_load1 Try.isAgg3 hq rfl rfl (ats_own (i := 0) (vs := [_]) rfl rfl))) ?_
      refine d_any rfl want_none rfl (fun _ => (y_move (v := .slice _ _ _) rfl rfl)) ?_
      refine d_any rfl want_none rfl (fun _ => (y_fieldAddr (o := 0) (i := 0) Try.underlying63 rfl Try.sizeOf3 rfl rfl rfl)) ?_
      refine d_take rfl want_none rfl hs52 (fun _ hq => (y_load1 Try.isAgg3 hq rfl rfl (ats_own (i := 0) (vs := [_]) rfl rfl))) ?_
      refine d_any rfl want_none rfl (fun _ => (y_indexS Try.underlying30 Try.sizeOf3 rfl rfl rfl rfl (i := (m.trains[i]'hi2).room.toNat) (by omega) (by omega))) ?_
      refine d_take rfl want_none rfl hs52 (fun _ hq => (y_load1 Try.isAgg3 hq.tail rfl rfl hx)) ?_
      refine d_any rfl want_none rfl (fun _ => (y_min2 rfl rfl rfl rfl)) ?_
      refine d_any rfl want_none rfl (fun _ => (y_add rfl rfl rfl rfl (by omega) (by omega))) ?_
      refine d_eff rfl ?_
      refine w_call want_none Try.call79 rfl rfl rfl rfl (c79 _ _ x hxl hxs.cons.app.cons.cons hxr i hs52) ?_
      rintro _ w54 ⟨rfl, hs55⟩
      refine w_nil ?_
      refine qn ⟨hs55, ?_⟩
      refine d_any rfl want_none rfl (fun _ => (y_rem rfl rfl rfl rfl (by omega) (by omega))) ?_
      refine d_any rfl want_none rfl (fun _ => (y_assign (v := .int _ _) rfl rfl)) ?_
      refine d_nil ?_
      refine q_then (hC43 _ _ (Md.intro (by repeat (first | exact agree_refl | exact agree_mix | refine agree_upd rfl ?_ | refine agree_updL rfl ?_ _ | refine agree_mixin rfl ?_)) ?_))
      first
        | exact ⟨by rw [anyN_yes (by assumption) hgd]; rfl, hs55⟩
        | exact ⟨by rw [anyN_no (by assumption)]; rfl, hs55⟩
     ·
      try simp only [Bool.not_eq_true', Bool.not_eq_false', decide_eq_true_eq, decide_eq_false_iff_not, Int.not_lt, Int.not_le] at h50
      refine w_skip ?_
      refine q_then (hC43 _ _ (Md.intro (by repeat (first | exact agree_refl | exact agree_mix | refine agree_upd rfl ?_ | refine agree_updL rfl ?_ _ | refine agree_mixin rfl ?_)) ?_))
      first
        | exact ⟨by rw [anyN_yes (by assumption) hgd]; rfl, hs49⟩
        | exact ⟨by rw [anyN_no (by assumption)]; rfl, hs49⟩
    ·
     intro vs μ w56 hM
     obtain ⟨rfl, hs⟩ := hM
     refine q_then (hK41 _ _ ?_)
     refine w_seq (fun K58 hK57 => ?_)
     refine w_draw [11] [(0, 0), (1, 0), (2, 1), (3, 0), (4, 0), (5, 1), (6, 0), (7, 1), (8, 0), (9, 0), (10, 0), (11, 3)] Try_mo (by kernel_rfl) hs (fun w59 hs60 => ?_)
     refine d_any rfl want_none rfl (fun _ => (y_move (v := .slice _ _ _) rfl rfl)) ?_
     refine d_any rfl want_none rfl (fun _ => (y_fieldAddr (o := 0) (i := 0) Try.underlying63 rfl Try.sizeOf3 rfl rfl rfl)) ?_
     refine d_take rfl want_none rfl hs60 (fun _ hq => (y_load1 Try.isAgg3 hq rfl rfl (ats_own (i := 0) (vs := [_]) rfl rfl))) ?_
     refine d_any rfl want_none rfl (fun _ => (y_move (v := .slice _ _ _) rfl rfl)) ?_
     refine d_any rfl want_none rfl (fun _ => (y_fieldAddr (o := 0) (i := 0) Try.underlying63 rfl Try.sizeOf3 rfl rfl rfl)) ?_
     refine d_take rfl want_none rfl hs60 (fun _ hq => (y_load1 Try.isAgg3 hq rfl rfl (ats_own (i := 0) (vs := [_]) rfl rfl))) ?_
     refine d_any rfl want_none rfl (fun _ => (y_indexS Try.underlying30 Try.sizeOf3 rfl rfl rfl rfl (i := (m.trains[i]'hi2).room.toNat) (by omega) (by omega))) ?_
     refine d_take rfl want_none rfl hs60 (fun _ hq => (y_load1 Try.isAgg3 hq.tail rfl rfl hx)) ?_
     refine d_any rfl want_none rfl (fun _ => (y_move (v := .int _ _) rfl rfl)) ?_
     refine d_any rfl want_none rfl (fun _ => (y_sub rfl rfl rfl rfl (by omega) (by omega))) ?_
     refine d_any rfl want_none rfl (fun _ => (y_indexS Try.underlying30 Try.sizeOf3 rfl rfl rfl rfl (i := (m.trains[i]'hi2).room.toNat) (by omega) (by omega))) ?_
     refine d_late rfl ?_
     refine w_store (i := 1) (v := .int _ _) (vs := [_]) want_none Try.sizeOf3 rfl rfl rfl rfl rfl (by simp [Value.oneCell']) hs60 rfl (show 0 + (m.trains[i]'hi2).room.toNat * 1 + 1 ≤ csl.length by omega) (fun w61 hs62 => ?_)
     have hcl5 : (csl.set ((m.trains[i]'hi2).room.toNat) (.int .i64 ((anyTo m hands x i).2[(m.trains[i]'hi2).room.toNat]'hr2 - anyN m x (anyTo m hands x i).2 i (m.trains[i]'hi2)))).take (m.rooms.length * 1) = iv (subAt (anyTo m hands x i).2 (m.trains[i]'hi2).room.toNat (anyN m x (anyTo m hands x i).2 i (m.trains[i]'hi2))) := subAt_cells hf2 hr2 hcl4
     replace hs62 := (show St _ _ (_ :: (bl, blk 3 (csl.set ((m.trains[i]'hi2).room.toNat) (.int .i64 ((anyTo m hands x i).2[(m.trains[i]'hi2).room.toNat]'hr2 - anyN m x (anyTo m hands x i).2 i (m.trains[i]'hi2))))) :: OB ++ (_ :: F)) from (by have h6 := hs62; simp only [setMany, Nat.zero_add, Nat.mul_one] at h6; exact h6))
     refine w_nil ?_
     refine qn ?_
     refine d_nil ?_
     refine q_then (hK57 _ _ ?_)
     refine w_region ?_
     refine w_pure want_none (y_move (v := vO) rfl rfl) rfl ?_
     refine w_pure want_none (y_move (v := .int _ _) rfl rfl) rfl ?_
     refine w_bslice (ps := [(0, _)]) (pv := [(0, .int _ _)]) (cs := [_]) want_none rfl rfl (fun w => Try_Ze_fb6 _ w) hs62 (fun b63 w64 hs65 => ?_)
     refine w_append (X := (_ :: _ :: _ :: [])) (B := OB) (rows := [[_]]) (sz := 1) (bytes := 8) want_none Try.underlying30 Try_info3 rfl rfl rfl rfl rfl rfl rfl rfl rfl hs65 hown (sl_own (i := 0) rfl (by simp) rfl) rfl (by simp) (by simp [Value.oneCell']) (by simp only [maxLen]; omega) (by omega) (fun v66 w67 B68 ho69 hs70 => ?_)
     replace hs70 := (show St _ _ (_ :: _ :: _ :: B68 ++ (_ :: F)) from hs70)
     refine w_pure want_none (y_assign (v := v66) rfl rfl) rfl ?_
     refine w_nil ?_
     refine q_blk_normal ?_
     refine q_then (hK30 _ _ ?_)
     refine w_region ?_
     refine w_pure want_none (y_move (v := .int _ _) rfl rfl) rfl ?_
     refine w_pure want_none (y_add rfl rfl rfl rfl (by omega) (by omega)) rfl ?_
     refine w_pure want_none (y_assign (v := .int _ _) rfl rfl) rfl ?_
     refine w_nil ?_
     refine q_then (hN22 _ _ (Nx.intro (m.trains.length - (i + 1)) (by omega) (by repeat (first | exact agree_mix | refine agree_upd rfl ?_ | refine agree_updL rfl ?_ _ | refine agree_mixin rfl ?_)) ?_))
     exact ⟨i + 1, _, [(bl, _)], _, rfl, by omega, rfl, by rw [anyTo_succ hi2]; exact own_set hf2 hcl1 hcl2 hcl3 hcl5, by rw [anyTo_succ hi2]; exact own_snoc ho69, hs70.tail.tail⟩
   ·
    try simp only [Bool.not_eq_true', Bool.not_eq_false', decide_eq_true_eq, decide_eq_false_iff_not, Int.not_lt, Int.not_le] at h29
    refine w_exit ?_
    refine q_then_exit ?_
    refine q_then_exit ?_
    refine q_blk_this ?_
    refine q_then (hK18 _ _ ?_)
    refine w_seq (fun K72 hK71 => ?_)
    refine w_region ?_
    refine w_pure want_none (y_move (v := vO) rfl rfl) rfl ?_
    refine w_pure want_none (y_assign (v := vO) rfl rfl) rfl ?_
    refine w_nil ?_
    refine q_then (hK71 _ _ ?_)
    refine w_ret ?_
    refine q_ret (l := [.tmp 6]) (vs := [_]) rfl ⟨⟨rfl, show _ = (vO : Value) from rfl⟩, trivial⟩ ?_
    have hil : i = m.trains.length := by omega
    subst hil
    obtain ⟨ag, cg, rfl, hsg, _, _⟩ := own_ints (w0 := w0) hown
    exact ⟨LB ++ (OB ++ [_]), ag, cg, rfl, hsg.top.app, by simp only [List.append_assoc]; exact hs⟩

end Go.Proofs
/- Plain laws of the shop layer: the fewest without, how many hands more. No conditions. -/
set_option linter.unusedSimpArgs false
set_option linter.unusedVariables false
namespace Go.Rt.Sh
theorem bit_test (b i : Nat) : bit b i = (b.testBit i).toNat := by
  unfold bit Nat.testBit
  have := Nat.and_one_is_mod (b >>> i)
  rw [Nat.and_comm 1, this]
  have h : b >>> i % 2 = 0 ∨ b >>> i % 2 = 1 := by omega
  rcases h with h | h <;> simp [h]
theorem bit_mod {b n i : Nat} (h : i < n) : bit (b % 2 ^ n) i = bit b i := by
  rw [bit_test, bit_test, Nat.testBit_mod_two_pow]; simp [h]
theorem listL_mod (b n : Nat) : ∀ k, k ≤ n → listL (b % 2 ^ n) k = listL b k
  | 0, _ => rfl
  | k + 1, h => by simp only [listL]; rw [listL_mod b n k (by omega), bit_mod (by omega)]
theorem list_rising : ∀ n : Nat, n < 5 → ∀ b < 16, b < 2 ^ n → rising (n : Int) (-1) (listL b n) = true := by decide +kernel
theorem asked_list {m : Market} (h : (check m).2.2 = 0) {sub : Nat} (hs : sub < 2 ^ m.shops.length) : askedE m (listL sub m.shops.length) = 0 := by
  have hok := check_ok h
  have hls := hok.ls
  have hr := list_rising m.shops.length (by omega) sub (pow_16 hls hs) hs
  have hA : askTo m (listL sub m.shops.length) (listL sub m.shops.length).length = 0 := by
    unfold askTo
    rw [if_neg (by simp [h]), List.take_length, if_neg]
    rw [Bool.not_eq_true, List.any_eq_false]
    intro x hx
    have := listL_in sub m.shops.length x hx
    simp [out]; omega
  unfold askedE
  rw [hA, hr]; simp
theorem can_list {m : Market} (h : (check m).2.2 = 0) {sub : Nat} (hs : sub < 2 ^ m.shops.length) : canP m (listL sub m.shops.length) = if servedR m (leastL m) (listL sub m.shops.length) then (1, 0) else if servedR m (mostL m) (listL sub m.shops.length) = false then (2, 0) else (0, 0) := by
  rw [← can_same]; unfold canR; rw [asked_list h hs, if_neg (by simp)]
theorem others_at {m : Market} (hok : m.Ok) (b : Nat) : ∃ c < 2 ^ m.shops.length, othersTo (listL b m.shops.length) m.shops.length = listL c m.shops.length := by
  have hls := hok.ls
  have hp : b % 2 ^ m.shops.length < 2 ^ m.shops.length := Nat.mod_lt _ (Nat.two_pow_pos _)
  have := others_list m.shops.length (by omega) (b % 2 ^ m.shops.length) (pow_16 hls hp) hp
  rw [listL_mod b _ _ (Nat.le_refl _)] at this
  exact ⟨_, this.2, this.1⟩
structure FewestF (m : Market) (b : Nat) : Prop where
  wp : withoutP m = (withoutL m, 0)
  ri : rising m.shops.length (-1) (withoutL m) = true
  how : canP m (othersTo (withoutL m) m.shops.length) = (1, 0)
  so : (canP m (othersTo (listL b m.shops.length) m.shops.length)).2 = 0
  less : (canP m (othersTo (listL b m.shops.length) m.shops.length)).1 = 1 → before (listL b m.shops.length) (withoutL m) = false
theorem fewest {m : Market} (h : (check m).2.2 = 0) (b : Nat) : FewestF m b := by
  have hok := check_ok h
  have hls := hok.ls
  have hne : ¬ ((check m).2.2 ≠ 0) := by simp [h]
  obtain ⟨w, hw, e, e1, e2, e3⟩ := without_sub hok
  have hmin := withoutL_min hok
  obtain ⟨c, hc, ec⟩ := others_at hok b
  refine ⟨by unfold withoutP; rw [if_neg hne], ?_, ?_, ?_, ?_⟩
  · rw [e]; exact list_rising _ (by omega) w (pow_16 hls hw) hw
  · rw [e1, can_list h e2, ← e1, e3]; rfl
  · rw [ec, can_list h hc]; split <;> (try split) <;> rfl
  · intro h1
    have hso : othersOk m (listL b m.shops.length) := by
      rw [ec, can_list h hc] at h1
      unfold othersOk
      rw [ec]
      split at h1
      · assumption
      · split at h1 <;> cases h1
    have hp : b % 2 ^ m.shops.length < 2 ^ m.shops.length := Nat.mod_lt _ (Nat.two_pow_pos _)
    have hn := others_nil m.shops.length (by omega)
    have hin : listL b m.shops.length ∈ setsL (othersTo [] m.shops.length) := by
      rw [hn.1, ← listL_mod b _ _ (Nat.le_refl _)]
      exact sets_all m.shops.length (by omega) _ hn.2.2.2.1 hn.2.1 _ (pow_16 hls hp) ((diff_all m.shops.length (by omega) _ (pow_16 hls hp)).2 hp)
    rcases hmin.2.2 _ hin hso with h2 | h2
    · rw [h2]; exact before_irrefl _
    · exact before_asymm h2
theorem withoutP_bad {m : Market} (h : (check m).2.2 ≠ 0) : withoutP m = ([], (check m).2.2) := by unfold withoutP; rw [if_pos h]
/-! ### More -/
theorem moreToR_spec (m : Market) (r : Nat) : ∀ k i, (∀ n, moreToR m r i k = some n → i ≤ n ∧ n < i + k ∧ servedR m (leastL (withM m r n)) (allL' m) = true ∧ ∀ j : Nat, i ≤ j → j < n → servedR m (leastL (withM m r j)) (allL' m) = false) ∧ (moreToR m r i k = none → ∀ j : Nat, i ≤ j → j < i + k → servedR m (leastL (withM m r j)) (allL' m) = false)
  | 0, i => ⟨fun n h => by simp [moreToR] at h, fun _ j h1 h2 => by omega⟩
  | k + 1, i => by
    obtain ⟨ih1, ih2⟩ := moreToR_spec m r k (i + 1)
    unfold moreToR
    by_cases hs : servedR m (leastL (withM m r i)) (allL' m) = true
    · rw [if_pos hs]
      exact ⟨fun n h => by cases h; exact ⟨by omega, by omega, hs, fun j h1 h2 => by omega⟩, fun h => by cases h⟩
    · rw [if_neg hs]
      refine ⟨fun n h => ?_, fun h j h1 h2 => ?_⟩
      · obtain ⟨a, b, c, d⟩ := ih1 n h
        refine ⟨by omega, by omega, c, fun j h1 h2 => ?_⟩
        by_cases e : j = i
        · subst e; simpa using hs
        · exact d j (by omega) h2
      · by_cases e : j = i
        · subst e; simpa using hs
        · exact ih2 h j (by omega) (by omega)
theorem withM_zero {m : Market} {r : Nat} (hr : r < m.rooms.length) : leastL (withM m r 0) = leastL m := by
  rw [leastL_with _ hr]
  have := subAt_zero (leastL m) r
  unfold subAt at this
  simpa using this
theorem without_nil {m : Market} (hok : m.Ok) : withoutL m = [] ↔ servedR m (leastL m) (allL' m) = true := by
  obtain ⟨h1, h2, h3⟩ := withoutL_min hok
  constructor
  · intro h; unfold othersOk at h2; rw [h] at h2; exact h2
  · intro h
    have hn := others_nil m.shops.length (by have := hok.ls; omega)
    have hin : listL 0 m.shops.length ∈ setsL (othersTo [] m.shops.length) := by
      rw [hn.1]
      exact sets_all m.shops.length (by have := hok.ls; omega) _ hn.2.2.2.1 hn.2.1 0 (by omega) (by simp [bitDiff])
    have e0 : listL 0 m.shops.length = [] := by
      have : ∀ k, listL 0 k = [] := by intro k; induction k with | zero => rfl | succ k ih => simp [listL, ih, bit]
      exact this _
    rw [e0] at hin
    rcases h3 [] hin h with h4 | h4
    · exact h4.symm
    · unfold before at h4
      cases hw : withoutL m with
      | nil => rfl
      | cons x l => rw [hw] at h4; simp [less] at h4
structure MoreF (m : Market) (r : Nat) : Prop where
  wp : (withoutP m).2 = 0
  eq : ((moreP m r).2 = 0 ∧ (moreP m r).1 = 0) ↔ (withoutP m).1.length = 0
  bad : (moreP m r).2 ≠ 0 → (moreP m r).2 = 9 ∧ (moreP m r).1 = 0 ∧ servedR m (leastL (withM m r 60)) (allL' m) = false
  good : (moreP m r).2 = 0 → 0 ≤ (moreP m r).1 ∧ (moreP m r).1 ≤ 60 ∧ servedR m (leastL (withM m r (moreP m r).1)) (allL' m) = true ∧ ((moreP m r).1 ≠ 0 → servedR m (leastL (withM m r ((moreP m r).1 - 1))) (allL' m) = false)
theorem more_facts {m : Market} (h : (check m).2.2 = 0) {r : Nat} (hr : r < m.rooms.length) : MoreF m r := by
  have hok := check_ok h
  have hne : ¬ ((check m).2.2 ≠ 0) := by simp [h]
  have hwp : withoutP m = (withoutL m, 0) := by unfold withoutP; rw [if_neg hne]
  have hee : enterE m m.rooms.length [(r : Int)] = 0 := enterE_0 h (by simp [out]; omega)
  obtain ⟨s1, s2⟩ := moreToR_spec m r 61 0
  have hn := without_nil hok
  cases e : moreToR m r 0 61 with
  | none =>
    have hm : moreP m r = (0, 9) := by rw [← more_same]; exact moreR_3 hee e
    have hf := s2 e
    refine ⟨by rw [hwp], ?_, by rw [hm]; exact fun _ => ⟨rfl, rfl, hf 60 (by omega) (by omega)⟩, by rw [hm]; exact fun h => by simp at h⟩
    rw [hwp, hm]
    constructor
    · rintro ⟨h1, _⟩; simp at h1
    · intro h1
      have h2 := hn.1 (List.length_eq_zero_iff.1 h1)
      have h3 := hf 0 (by omega) (by omega)
      rw [show ((0 : Nat) : Int) = 0 from rfl, withM_zero hr, h2] at h3
      cases h3
  | some k =>
    have hm : moreP m r = ((k : Int), 0) := by rw [← more_same]; exact moreR_2 hee e
    obtain ⟨_, a2, a3, a4⟩ := s1 k e
    have hlast : k ≠ 0 → servedR m (leastL (withM m r ((k : Int) - 1))) (allL' m) = false := fun h0 => by
      have := a4 (k - 1) (by omega) (by omega)
      rwa [show (((k - 1 : Nat)) : Int) = (k : Int) - 1 by omega] at this
    refine ⟨by rw [hwp], ?_, by rw [hm]; exact fun h => by simp at h, by rw [hm]; exact fun _ => ⟨by dsimp only; omega, by dsimp only; omega, a3, fun h0 => hlast (by dsimp only at h0; omega)⟩⟩
    · rw [hwp, hm]
      constructor
      · rintro ⟨_, h1⟩
        have : k = 0 := by dsimp only at h1; omega
        subst this
        rw [show ((0 : Nat) : Int) = 0 from rfl, withM_zero hr] at a3
        rw [hn.2 a3]; rfl
      · intro h1
        have h2 := hn.1 (List.length_eq_zero_iff.1 h1)
        refine ⟨rfl, ?_⟩
        rcases Nat.eq_zero_or_pos k with h3 | h3
        · subst h3; rfl
        · have h4 := a4 0 (by omega) h3
          rw [show ((0 : Nat) : Int) = 0 from rfl, withM_zero hr, h2] at h4
          cases h4
theorem moreP_bad {m : Market} {z : Int} (h : (check m).2.2 ≠ 0 ∨ m.rooms.length = 0) : (moreP m z).1 = 0 ∧ (moreP m z).2 ≠ 0 := by
  have he : enterE m m.rooms.length [z] ≠ 0 := by
    by_cases h1 : (check m).2.2 = 0
    · have h2 : m.rooms.length = 0 := by rcases h with h | h; exact absurd h1 h; exact h
      rw [enterE_2 h1 (by rw [h2]; simp [out]; omega)]; decide
    · rw [enterE_1 h1]; exact h1
  rw [moreP_1' he]; exact ⟨rfl, he⟩
where moreP_1' {m : Market} {r : Int} (h : enterE m m.rooms.length [r] ≠ 0) : moreP m r = (0, enterE m m.rooms.length [r]) := by unfold moreP; rw [if_pos h]
end Go.Rt.Sh
/- Plain laws of the shop layer: what a load carries is bounded by what rooms have and trains can. No conditions. -/
set_option linter.unusedSimpArgs false
set_option linter.unusedVariables false
namespace Go.Rt.Sh
/-- What trains from fro on, below k, carry out of a room, and to a shop. -/
def usedF (m : Market) (l : List Int) (fro r : Nat) : Nat → Int
  | 0 => 0
  | k + 1 => usedF m l fro r k + match m.trains[k]? with | some t => if fro ≤ k ∧ t.room.toNat = r then gD l k else 0 | none => 0
def gotF (m : Market) (l : List Int) (fro s : Nat) : Nat → Int
  | 0 => 0
  | k + 1 => gotF m l fro s k + match m.trains[k]? with | some t => if fro ≤ k ∧ t.shop.toNat = s then gD l k else 0 | none => 0
/-- What is carried out of a room to a set of shops. -/
def partF (m : Market) (l : List Int) (fro r : Nat) (b : Nat → Bool) : Nat → Int
  | 0 => 0
  | k + 1 => partF m l fro r b k + match m.trains[k]? with | some t => if fro ≤ k ∧ t.room.toNat = r ∧ b t.shop.toNat = true then gD l k else 0 | none => 0
structure Load (m : Market) (h : Nat → Int) (l : List Int) : Prop where
  len : l.length = m.trains.length
  ok : ∀ k (hk : k < m.trains.length), 0 ≤ gD l k ∧ gD l k ≤ m.trains[k].cap ∧ (leaves m m.trains[k] = false → gD l k = 0)
  rooms : ∀ r, usedF m l 0 r m.trains.length ≤ h r
theorem usedF_succ {m : Market} {l : List Int} {fro r k : Nat} (hk : k < m.trains.length) : usedF m l fro r (k + 1) = usedF m l fro r k + if fro ≤ k ∧ m.trains[k].room.toNat = r then gD l k else 0 := by simp only [usedF, List.getElem?_eq_getElem hk]
theorem gotF_succ {m : Market} {l : List Int} {fro s k : Nat} (hk : k < m.trains.length) : gotF m l fro s (k + 1) = gotF m l fro s k + if fro ≤ k ∧ m.trains[k].shop.toNat = s then gD l k else 0 := by simp only [gotF, List.getElem?_eq_getElem hk]
theorem partF_succ {m : Market} {l : List Int} {fro r k : Nat} {b : Nat → Bool} (hk : k < m.trains.length) : partF m l fro r b (k + 1) = partF m l fro r b k + if fro ≤ k ∧ m.trains[k].room.toNat = r ∧ b m.trains[k].shop.toNat = true then gD l k else 0 := by simp only [partF, List.getElem?_eq_getElem hk]
theorem sumN_at (k : Nat) (v : Int) : ∀ n, sumN n (fun i => if i = k then v else 0) = if k < n then v else 0
  | 0 => by simp [sumN]
  | n + 1 => by
    simp only [sumN, sumN_at k v n]
    by_cases h : n = k
    · subst h; rw [if_neg (by omega), if_pos rfl, if_pos (by omega)]; omega
    · rw [if_neg h]
      by_cases h2 : k < n
      · rw [if_pos h2, if_pos (by omega)]; omega
      · rw [if_neg h2, if_neg (by omega)]; omega
theorem sumN_at' {k n : Nat} (v : Int) (h : k < n) : sumN n (fun i => if i = k then v else 0) = v := by rw [sumN_at, if_pos h]
/-- Counted by shops or by rooms it is the same. -/
theorem count_same {m : Market} (hok : m.Ok) (l : List Int) (fro : Nat) (b : Nat → Bool) : ∀ k, k ≤ m.trains.length → sumN m.shops.length (fun s => if b s then gotF m l fro s k else 0) = sumN m.rooms.length (fun r => partF m l fro r b k)
  | 0, _ => by
    simp only [gotF, partF]
    rw [sumN_congr (g := fun _ => 0) _ fun i _ => by split <;> rfl]
    rw [sumN_zero, sumN_zero]
  | k + 1, hk => by
    have hkl : k < m.trains.length := by omega
    have ih := count_same hok l fro b k (by omega)
    have ht := hok.train _ (List.getElem_mem hkl)
    have e1 : sumN m.shops.length (fun s => if b s then gotF m l fro s (k + 1) else 0) = sumN m.shops.length (fun s => if b s then gotF m l fro s k else 0) + (if fro ≤ k ∧ b m.trains[k].shop.toNat = true then gD l k else 0) := by
      have h1 := sumN_at' (k := m.trains[k].shop.toNat) (n := m.shops.length) (if fro ≤ k ∧ b m.trains[k].shop.toNat = true then gD l k else 0) (by omega)
      rw [← h1, sumN_add]
      refine sumN_congr _ fun s _ => ?_
      rw [gotF_succ hkl]
      by_cases hs : s = m.trains[k].shop.toNat
      · subst hs
        rw [if_pos rfl]
        cases b m.trains[k].shop.toNat <;> by_cases hf : fro ≤ k <;> simp [hf]
      · have hn : ¬ (fro ≤ k ∧ m.trains[k].shop.toNat = s) := fun h => hs h.2.symm
        simp only [if_neg hs, if_neg hn, Int.add_zero]
    have e2 : sumN m.rooms.length (fun r => partF m l fro r b (k + 1)) = sumN m.rooms.length (fun r => partF m l fro r b k) + (if fro ≤ k ∧ b m.trains[k].shop.toNat = true then gD l k else 0) := by
      have h1 := sumN_at' (k := m.trains[k].room.toNat) (n := m.rooms.length) (if fro ≤ k ∧ b m.trains[k].shop.toNat = true then gD l k else 0) (by omega)
      rw [← h1, sumN_add]
      refine sumN_congr _ fun s _ => ?_
      rw [partF_succ hkl]
      by_cases hs : s = m.trains[k].room.toNat
      · subst hs; simp
      · rw [if_neg hs, if_neg (fun h => hs h.2.1.symm)]
    rw [e1, e2, ih]
theorem part_cap {m : Market} {h : Nat → Int} {l : List Int} (hl : Load m h l) (fro r : Nat) (b : Nat → Bool) : ∀ k, k ≤ m.trains.length → partF m l fro r b k ≤ capR (trsTo m fro k) b r
  | 0, _ => by simp [partF, trsTo, capR]
  | k + 1, hk => by
    have hkl : k < m.trains.length := by omega
    have ih := part_cap hl fro r b k (by omega)
    obtain ⟨h1, h2, h3⟩ := hl.ok k hkl
    rw [partF_succ hkl]
    simp only [trsTo, List.getElem?_eq_getElem hkl]
    by_cases hc : fro ≤ k ∧ m.trains[k].room.toNat = r ∧ b m.trains[k].shop.toNat = true
    · rw [if_pos hc]
      by_cases hlv : leaves m m.trains[k] = true
      · rw [if_pos ⟨hc.1, hlv⟩, capR_snoc, if_pos ⟨hc.2.1, hc.2.2⟩]
        show _ ≤ _ + m.trains[k].cap
        omega
      · rw [if_neg (fun h => hlv h.2), h3 (by simpa using hlv)]; omega
    · rw [if_neg hc]
      by_cases hlv : fro ≤ k ∧ leaves m m.trains[k] = true
      · rw [if_pos hlv, capR_snoc, if_neg (fun h => hc ⟨hlv.1, h.1, h.2⟩)]; omega
      · rw [if_neg hlv]; omega
theorem part_used {m : Market} {h : Nat → Int} {l : List Int} (hl : Load m h l) (fro r : Nat) (b : Nat → Bool) : ∀ k, k ≤ m.trains.length → partF m l fro r b k ≤ usedF m l fro r k
  | 0, _ => by simp [partF, usedF]
  | k + 1, hk => by
    have hkl : k < m.trains.length := by omega
    have ih := part_used hl fro r b k (by omega)
    obtain ⟨h1, _, _⟩ := hl.ok k hkl
    rw [partF_succ hkl, usedF_succ hkl]
    by_cases hc : fro ≤ k ∧ m.trains[k].room.toNat = r
    · rw [if_pos hc]; split <;> omega
    · rw [if_neg hc, if_neg (fun h => hc ⟨h.1, h.2.1⟩)]; omega
/-- What shops of a set get of the trains from fro on. -/
theorem load_flow {m : Market} (hok : m.Ok) {h : Nat → Int} {l : List Int} (hl : Load m h l) (fro : Nat) (b : Nat → Bool) (g : Nat → Int) (hg : ∀ r, usedF m l fro r m.trains.length ≤ g r) :
    sumN m.shops.length (fun s => if b s then gotF m l fro s m.trains.length else 0) ≤ sumN m.rooms.length (fun r => min (g r) (capR (trs m fro) b r)) := by
  rw [count_same hok l fro b _ (Nat.le_refl _)]
  refine sumN_le _ fun r _ => ?_
  have h1 := part_cap hl fro r b _ (Nat.le_refl _)
  have h2 := part_used hl fro r b _ (Nat.le_refl _)
  have h3 := hg r
  unfold trs
  omega
/-- If the shops of a set get what they want, none of them lack anything. -/
theorem load_serves {m : Market} (hok : m.Ok) {h : Nat → Int} {l : List Int} (hl : Load m h l) (fro : Nat) (g w : Nat → Int) (hg : ∀ r, usedF m l fro r m.trains.length ≤ g r) {sh : Nat → Bool} (hw : ∀ s < m.shops.length, sh s = true → w s ≤ gotF m l fro s m.trains.length) :
    NoLack m.rooms.length m.shops.length (trs m fro) g w sh := by
  intro b hb
  have h1 := load_flow hok hl fro b g hg
  have h2 : sumN m.shops.length (fun s => if b s then w s else 0) ≤ sumN m.shops.length (fun s => if b s then gotF m l fro s m.trains.length else 0) := sumN_le _ fun s hs => by
    by_cases e : b s = true
    · rw [if_pos e, if_pos e]; exact hw s hs (hb s e)
    · rw [if_neg e, if_neg e]; omega
  unfold lk
  omega
theorem gotF_to {m : Market} (hok : m.Ok) (l : List Int) : ∀ k, k ≤ m.trains.length → ∀ s, s < m.shops.length → gD (gotTo m l k) s = gotF m l 0 s k
  | 0, _, s, hs => by simp [gD, gotTo, gotF, List.getD, hs]
  | k + 1, hk, s, hs => by
    have hkl : k < m.trains.length := by omega
    have ih := gotF_to hok l k (by omega) s hs
    have ht := hok.train _ (List.getElem_mem hkl)
    have hl := gotTo_len m l k
    rw [gotF_succ hkl, ← ih]
    have e0 : gotTo m l (k + 1) = (gotTo m l k).set m.trains[k].shop.toNat ((gotTo m l k).getD m.trains[k].shop.toNat 0 + l.getD k 0) := by simp only [gotTo, List.getElem?_eq_getElem hkl]
    rw [e0]
    unfold gD
    by_cases e : m.trains[k].shop.toNat = s
    · subst e
      rw [getD_set (by omega), if_pos ⟨by omega, rfl⟩]
    · rw [getD_other e, if_neg (fun h => e h.2)]; omega
theorem usedF_app {m : Market} {l : List Int} {x : Int} {fro r : Nat} : ∀ k, k ≤ l.length → usedF m (l ++ [x]) fro r k = usedF m l fro r k
  | 0, _ => rfl
  | k + 1, h => by
    simp only [usedF]
    rw [usedF_app k (by omega)]
    congr 1
    have : gD (l ++ [x]) k = gD l k := by simp [gD, List.getD, List.getElem?_append_left (show k < l.length by omega)]
    rw [this]
theorem gotF_app {m : Market} {l : List Int} {x : Int} {fro r : Nat} : ∀ k, k ≤ l.length → gotF m (l ++ [x]) fro r k = gotF m l fro r k
  | 0, _ => rfl
  | k + 1, h => by
    simp only [gotF]
    rw [gotF_app k (by omega)]
    congr 1
    have : gD (l ++ [x]) k = gD l k := by simp [gD, List.getD, List.getElem?_append_left (show k < l.length by omega)]
    rw [this]
theorem gD_app {l : List Int} {x : Int} {k : Nat} (h : k < l.length) : gD (l ++ [x]) k = gD l k := by simp [gD, List.getD, List.getElem?_append_left h]
theorem gD_last {l : List Int} {x : Int} {k : Nat} (h : k = l.length) : gD (l ++ [x]) k = x := by subst h; simp [gD, List.getD]
/-- Any load is one. -/
theorem any_load {m : Market} (hok : m.Ok) {hands x : List Int} (hl : hands.length = m.rooms.length) (hh : ∀ z ∈ hands, 0 ≤ z ∧ z ≤ 200) : ∀ i, i ≤ m.trains.length →
    (∀ k (hk : k < m.trains.length), k < i → 0 ≤ gD (anyTo m hands x i).1 k ∧ gD (anyTo m hands x i).1 k ≤ m.trains[k].cap ∧ (leaves m m.trains[k] = false → gD (anyTo m hands x i).1 k = 0)) ∧ ∀ r, gD (anyTo m hands x i).2 r = gD hands r - usedF m (anyTo m hands x i).1 0 r i
  | 0, _ => ⟨fun k _ h => by omega, fun r => by simp [anyTo, usedF]⟩
  | i + 1, hi => by
    have hil : i < m.trains.length := by omega
    obtain ⟨h1, h2⟩ := any_load hok hl hh (x := x) i (by omega)
    obtain ⟨f1, f2, f3, f4⟩ := anyTo_fine hok hl hh (x := x) i (by omega)
    have ht := hok.train _ (List.getElem_mem hil)
    obtain ⟨n1, n2, n3, n4⟩ := anyN_in (m := m) (x := x) (t := m.trains[i]) f3 ⟨by omega, by omega⟩ i
    rw [anyTo_succ hil]
    refine ⟨fun k hk hki => ?_, fun r => ?_⟩
    · dsimp only
      by_cases e : k = i
      · subst e
        rw [gD_last f1.symm]
        exact ⟨n1, n2, n4⟩
      · rw [gD_app (by omega)]; exact h1 k hk (by omega)
    · dsimp only
      rw [subAt_put _ (by omega), usedF_succ hil, usedF_app i (by omega), gD_last f1.symm]
      unfold put
      by_cases e : r = m.trains[i].room.toNat
      · subst e; rw [if_pos rfl, if_pos ⟨by omega, rfl⟩, h2]; omega
      · rw [if_neg e, if_neg (fun h => e h.2.symm), h2]; omega
theorem any_is_load {m : Market} (hok : m.Ok) {hands x : List Int} (hl : hands.length = m.rooms.length) (hh : ∀ z ∈ hands, 0 ≤ z ∧ z ≤ 200) : Load m (gD hands) (anyTo m hands x m.trains.length).1 := by
  obtain ⟨h1, h2⟩ := any_load hok hl hh (x := x) _ (Nat.le_refl _)
  obtain ⟨f1, f2, f3, f4⟩ := anyTo_fine hok hl hh (x := x) _ (Nat.le_refl _)
  refine ⟨f1, fun k hk => h1 k hk hk, fun r => ?_⟩
  have := h2 r
  have h3 := getD_nn (fun z hz => (f3 z hz).1) r
  unfold gD at this ⊢
  omega
end Go.Rt.Sh
/- Plain laws of the shop layer: what shops prove; some of them. No conditions. -/
set_option linter.unusedSimpArgs false
set_option linter.unusedVariables false
namespace Go.Rt.Sh
theorem mod_small (b n : Nat) : b % 2 ^ n < 2 ^ n := Nat.mod_lt _ (Nat.two_pow_pos _)
theorem listL_small (b n : Nat) : listL b n = listL (b % 2 ^ n) n := (listL_mod b n n (Nat.le_refl _)).symm
/-- What a set lacks by what its shops get. -/
def lackN (m : Market) (got set : List Int) : Nat → Int
  | 0 => 0
  | i + 1 => lackN m got set i + ((wantsL m).getD (set.getD i 0).toNat 0 - min ((wantsL m).getD (set.getD i 0).toNat 0) (got.getD (set.getD i 0).toNat 0))
theorem lackN_succ {m : Market} {got set : List Int} {i : Nat} (hi : i < set.length) (h : set[i].toNat < m.shops.length) (hg : set[i].toNat < got.length) : lackN m got set (i + 1) = lackN m got set i + m.shops[set[i].toNat].want - min m.shops[set[i].toNat].want got[set[i].toNat] := by
  have h1 : (wantsL m).getD set[i].toNat 0 = m.shops[set[i].toNat].want := by rw [wantsL_get, List.getElem?_eq_getElem h]
  have h2 : got.getD set[i].toNat 0 = got[set[i].toNat] := by simp [List.getD, hg]
  have h3 : set.getD i 0 = set[i] := by simp [List.getD, hi]
  simp only [lackN, h3, h1, h2]; omega
theorem lackN_pre (m : Market) (got l : List Int) (z : Int) : ∀ i, i ≤ l.length → lackN m got (l ++ [z]) i = lackN m got l i
  | 0, _ => rfl
  | i + 1, h => by
    simp only [lackN]
    rw [lackN_pre m got l z i (by omega)]
    have : (l ++ [z]).getD i 0 = l.getD i 0 := by simp [List.getD, List.getElem?_append_left (show i < l.length by omega)]
    rw [this]
theorem lackN_sum (m : Market) (got : List Int) (b : Nat) : ∀ n, lackN m got (listL b n) (listL b n).length = sumN n (fun i => if bset b i then gD (wantsL m) i - min (gD (wantsL m) i) (gD got i) else 0)
  | 0 => rfl
  | n + 1 => by
    have ih := lackN_sum m got b n
    simp only [sumN]
    by_cases h : bit b n = 1
    · rw [listL_yes h, List.length_append, List.length_singleton]
      simp only [lackN]
      rw [lackN_pre _ _ _ _ _ (Nat.le_refl _), ih]
      have : (listL b n ++ [(n : Int)]).getD (listL b n).length 0 = n := by simp [List.getD]
      rw [this]
      simp [bset, h, gD]
    · rw [listL_no h, ih]; simp [bset, h]
theorem sumN_sub (f g : Nat → Int) : ∀ n, sumN n f - sumN n g = sumN n (fun i => f i - g i)
  | 0 => rfl
  | n + 1 => by simp only [sumN]; have := sumN_sub f g n; omega
theorem leastL_fine {m : Market} (hok : m.Ok) : (leastL m).length = m.rooms.length ∧ ∀ z ∈ leastL m, 0 ≤ z ∧ z ≤ 200 :=
  ⟨by simp [leastL], fun z hz => by obtain ⟨r, hr, rfl⟩ := List.mem_map.1 hz; have := hok.room r hr; omega⟩
theorem mostL_fine {m : Market} (hok : m.Ok) : (mostL m).length = m.rooms.length ∧ ∀ z ∈ mostL m, 0 ≤ z ∧ z ≤ 200 :=
  ⟨by simp [mostL], fun z hz => by obtain ⟨r, hr, rfl⟩ := List.mem_map.1 hz; have := hok.room r hr; omega⟩
theorem lack_load {m : Market} (hok : m.Ok) {hands l : List Int} (hl : Load m (gD hands) l) (c : Nat) : lackR m hands (wantsL m) (listL c m.shops.length) 0 ≤ lackN m (gotTo m l m.trains.length) (listL c m.shops.length) (listL c m.shops.length).length := by
  rw [lackR_lk hok, lackN_sum]
  have h1 := load_flow hok hl 0 (bset c) (gD hands) hl.rooms
  unfold lk
  have h2 : sumN m.shops.length (fun i => if bset c i then (wantsL m).getD i 0 else 0) - sumN m.shops.length (fun s => if bset c s then gotF m l 0 s m.trains.length else 0) ≤ sumN m.shops.length (fun i => if bset c i then gD (wantsL m) i - min (gD (wantsL m) i) (gD (gotTo m l m.trains.length) i) else 0) := by
    rw [sumN_sub]
    refine sumN_le _ fun s hs => ?_
    have := gotF_to hok l m.trains.length (Nat.le_refl _) s hs
    rw [this]
    show _ ≤ (if bset c s = true then gD (wantsL m) s - min (gD (wantsL m) s) (gotF m l 0 s m.trains.length) else 0)
    by_cases e : bset c s = true
    · simp only [if_pos e]; show gD (wantsL m) s - _ ≤ _; omega
    · simp only [if_neg e]; omega
  unfold gD at h1 h2
  unfold gD
  dsimp only at h1 h2 ⊢
  omega
structure ProvedF (m : Market) (b : Nat) (x : List Int) : Prop where
  ok : (canP m (listL b m.shops.length)).2 = 0
  iff : (canP m (listL b m.shops.length)).1 = 1 ↔ (proofP m (listL b m.shops.length)).2.2 = 9
  down : (proofP m (listL b m.shops.length)).2.2 ≠ 0 → proofP m (listL b m.shops.length) = ([], 0, 9)
  pos : (proofP m (listL b m.shops.length)).2.2 = 0 → 1 ≤ (proofP m (listL b m.shops.length)).2.1
  ri : (proofP m (listL b m.shops.length)).2.2 = 0 → rising m.shops.length (-1) (proofP m (listL b m.shops.length)).1 = true
  inn : (proofP m (listL b m.shops.length)).2.2 = 0 → ∀ z ∈ (proofP m (listL b m.shops.length)).1, hasI (listL b m.shops.length) z = true ∧ 0 ≤ z ∧ z < m.shops.length
  ge : (proofP m (listL b m.shops.length)).2.2 = 0 → (proofP m (listL b m.shops.length)).2.1 ≤ lackN m (gotTo m (anyTo m (leastL m) x m.trains.length).1 m.trains.length) (proofP m (listL b m.shops.length)).1 (proofP m (listL b m.shops.length)).1.length
theorem sub_has {c sub n : Nat} (hs : sub < 16) (hc : c < 16) (h : bitDiff c sub = 0) {z : Int} (hz : z ∈ listL c n) : hasI (listL sub n) z = true ∧ 0 ≤ z ∧ z < n := by
  have h1 := (hasI_listL c n z).1 (hasI_mem.2 hz)
  refine ⟨(hasI_listL sub n z).2 ⟨h1.1, h1.2.1, ?_⟩, h1.1, h1.2.1⟩
  have := (bset_sub hc hs).1 h z.toNat (by unfold bset; exact decide_eq_true h1.2.2)
  exact of_decide_eq_true this
theorem proved {m : Market} (h : (check m).2.2 = 0) (b : Nat) (x : List Int) : ProvedF m b x := by
  have hok := check_ok h
  have hls := hok.ls
  have hp := mod_small b m.shops.length
  have hp16 := pow_16 hls hp
  have ha := asked_list h hp
  have hnn := (leastL_fine hok).2
  rw [show b = b from rfl]
  have key : proofP m (listL b m.shops.length) = if (worstR m (leastL m) (wantsL m) (listL (b % 2 ^ m.shops.length) m.shops.length) 0).2 = 0 then ([], 0, 9) else ((worstR m (leastL m) (wantsL m) (listL (b % 2 ^ m.shops.length) m.shops.length) 0).1, (worstR m (leastL m) (wantsL m) (listL (b % 2 ^ m.shops.length) m.shops.length) 0).2, 0) := by
    rw [listL_small, ← proof_same]; unfold proofR; rw [ha, if_neg (by simp)]
  have kcan0 : ∀ r, canP m (listL (b % 2 ^ m.shops.length) m.shops.length) = r → canP m (listL b m.shops.length) = r := fun r hr => by rw [listL_small]; exact hr
  have kcan := kcan0 _ (can_list h hp)
  have hb := worst_best hok (leastL m) (wantsL m) hp 0 (by rw [lack_empty hok _ fun z hz => (hnn z hz).1]; omega)
  have hl := any_is_load hok (leastL_fine hok).1 hnn (x := x)
  have hw0 : servedR m (leastL m) (listL (b % 2 ^ m.shops.length) m.shops.length) = decide ((worstR m (leastL m) (wantsL m) (listL (b % 2 ^ m.shops.length) m.shops.length) 0).2 = 0) := rfl
  by_cases hw : (worstR m (leastL m) (wantsL m) (listL (b % 2 ^ m.shops.length) m.shops.length) 0).2 = 0
  · rw [if_pos hw] at key
    rw [hw0, decide_eq_true hw] at kcan
    refine ⟨by rw [kcan]; rfl, by rw [kcan, key]; simp, fun _ => key, ?_, ?_, ?_, ?_⟩ <;> (intro h0; rw [key] at h0; simp at h0)
  · rw [if_neg hw] at key
    rw [hw0, decide_eq_false hw] at kcan
    simp only [Bool.false_eq_true, if_false] at kcan
    rcases hb with ⟨e, _⟩ | ⟨l, ⟨c, hc, hcd, rfl⟩, e, h1, _⟩
    · rw [e] at hw; simp at hw
    · rw [e] at key
      have hc2 := sub_small m.shops.length (by omega) _ hp16 hp c hc hcd
      have hf : (canP m (listL b m.shops.length)).2 = 0 ∧ (canP m (listL b m.shops.length)).1 ≠ 1 := by
        rw [kcan]; split <;> simp
      refine ⟨hf.1, ⟨fun h9 => absurd h9 hf.2, fun h9 => by rw [key] at h9; simp at h9⟩, fun h0 => by rw [key] at h0; simp at h0, fun _ => by rw [key]; exact h1, fun _ => by rw [key]; exact list_rising _ (by omega) c hc hc2, fun _ z hz => ?_, fun _ => ?_⟩
      · rw [key] at hz
        rw [listL_small b]
        exact sub_has hp16 hc hcd hz
      · rw [key]; exact lack_load hok hl c
theorem proofP_bad {m : Market} {l : List Int} (h : (check m).2.2 ≠ 0) : (proofP m l).2.2 ≠ 0 := by
  have : someE m l ≠ 0 := by
    unfold someE enterE
    rw [if_pos (by rw [if_pos h]; exact h), if_pos h]; exact h
  unfold proofP; rw [if_pos this]; exact this
theorem canP_bad {m : Market} {l : List Int} (h : (check m).2.2 ≠ 0) : (canP m l).2 ≠ 0 := by
  have : someE m l ≠ 0 := by
    unfold someE enterE
    rw [if_pos (by rw [if_pos h]; exact h), if_pos h]; exact h
  unfold canP; rw [if_pos this]; exact this
/-! ### Some of them -/
def fewTo (l : List Int) (y : Nat) : Nat → List Int
  | 0 => []
  | i + 1 => if bit y i = 1 then fewTo l y i ++ [l.getD i 0] else fewTo l y i
theorem fewTo_yes {l : List Int} {y i : Nat} (hi : i < l.length) (h : bit y i = 1) : fewTo l y (i + 1) = fewTo l y i ++ [l[i]] := by simp [fewTo, h, List.getD, hi]
theorem fewTo_no {l : List Int} {y i : Nat} (h : ¬ bit y i = 1) : fewTo l y (i + 1) = fewTo l y i := by simp [fewTo, h]
theorem fewTo_len (l : List Int) (y : Nat) : ∀ i, (fewTo l y i).length ≤ i
  | 0 => by simp [fewTo]
  | i + 1 => by have := fewTo_len l y i; unfold fewTo; split <;> simp <;> omega
theorem fewTo_mod (l : List Int) (y : Nat) : ∀ i, i ≤ 4 → fewTo l (y % 2 ^ 4) i = fewTo l y i
  | 0, _ => rfl
  | i + 1, h => by simp only [fewTo]; rw [bit_mod (by omega), fewTo_mod l y i (by omega)]
theorem few_fin0 : ∀ n : Nat, n < 5 → ∀ a < 16, a < 2 ^ n → ((List.range 16).all fun y => decide (listL (someS (fewTo (listL a n) y (listL a n).length)) n = fewTo (listL a n) y (listL a n).length) && decide (someS (fewTo (listL a n) y (listL a n).length) < 2 ^ n) && decide (bitDiff (someS (fewTo (listL a n) y (listL a n).length)) a = 0)) = true := by decide +kernel
theorem few_fin (n : Nat) (hn : n < 5) (a : Nat) (ha : a < 16) (ha2 : a < 2 ^ n) (y : Nat) (hy : y < 16) : listL (someS (fewTo (listL a n) y (listL a n).length)) n = fewTo (listL a n) y (listL a n).length ∧ someS (fewTo (listL a n) y (listL a n).length) < 2 ^ n ∧ bitDiff (someS (fewTo (listL a n) y (listL a n).length)) a = 0 := by
  have := List.all_eq_true.1 (few_fin0 n hn a ha ha2) y (by simpa using hy)
  simp only [Bool.and_eq_true, decide_eq_true_eq] at this
  exact ⟨this.1.1, this.1.2, this.2⟩
theorem few_list {n : Nat} (hn : n ≤ 4) {a : Nat} (ha : a < 2 ^ n) (y : Nat) : ∃ c < 2 ^ n, fewTo (listL a n) y (listL a n).length = listL c n ∧ bitDiff c a = 0 := by
  have hl := listL_le a n
  have := few_fin n (by omega) a (pow_16 hn ha) ha (y % 2 ^ 4) (mod_small _ _)
  rw [fewTo_mod _ _ _ (by omega)] at this
  exact ⟨_, this.2.1, this.1.symm, this.2.2⟩
def fedTo (m : Market) (got : List Int) : Nat → List Int
  | 0 => []
  | i + 1 => if (wantsL m).getD i 0 ≤ got.getD i 0 then fedTo m got i ++ [(i : Int)] else fedTo m got i
theorem fedTo_len (m : Market) (got : List Int) : ∀ i, (fedTo m got i).length ≤ i
  | 0 => by simp [fedTo]
  | i + 1 => by have := fedTo_len m got i; unfold fedTo; split <;> simp <;> omega
theorem fed_at {m : Market} {got : List Int} {i : Nat} (hi : i < m.shops.length) (hg : i < got.length) : ((wantsL m).getD i 0 ≤ got.getD i 0) ↔ m.shops[i].want ≤ got[i] := by
  rw [wantsL_get, List.getElem?_eq_getElem hi]; simp [List.getD, hg]
theorem fedTo_yes {m : Market} {got : List Int} {i : Nat} (hi : i < m.shops.length) (hg : i < got.length) (h : m.shops[i].want ≤ got[i]) : fedTo m got (i + 1) = fedTo m got i ++ [(i : Int)] := by
  simp only [fedTo]; rw [if_pos ((fed_at hi hg).2 h)]
theorem fedTo_no {m : Market} {got : List Int} {i : Nat} (hi : i < m.shops.length) (hg : i < got.length) (h : ¬ m.shops[i].want ≤ got[i]) : fedTo m got (i + 1) = fedTo m got i := by
  simp only [fedTo]; rw [if_neg (fun h' => h ((fed_at hi hg).1 h'))]
theorem fed_list (m : Market) (got : List Int) {n : Nat} (hn : n ≤ 4) : ∃ c < 16, fedTo m got n = listL c n ∧ ∀ i < 4, bset c i = decide ((wantsL m).getD i 0 ≤ got.getD i 0) := by
  obtain ⟨c, hc, hcb⟩ : ∃ c < 16, ∀ i < 4, bset c i = decide ((wantsL m).getD i 0 ≤ got.getD i 0) := by
    have hb := bits4 (decide ((wantsL m).getD 0 0 ≤ got.getD 0 0)) (decide ((wantsL m).getD 1 0 ≤ got.getD 1 0)) (decide ((wantsL m).getD 2 0 ≤ got.getD 2 0)) (decide ((wantsL m).getD 3 0 ≤ got.getD 3 0))
    refine ⟨_, hb.1, fun i hi => ?_⟩
    rw [hb.2 i hi]
    have : i = 0 ∨ i = 1 ∨ i = 2 ∨ i = 3 := by omega
    rcases this with rfl | rfl | rfl | rfl <;> rfl
  refine ⟨c, hc, ?_, hcb⟩
  have key : ∀ k, k ≤ 4 → fedTo m got k = listL c k := by
    intro k
    induction k with
    | zero => intro _; rfl
    | succ k ih =>
      intro hk
      have h1 := hcb k (by omega)
      unfold bset at h1
      have h2 := decide_eq_decide.1 h1
      simp only [fedTo, listL]
      rw [ih (by omega)]
      by_cases h3 : (wantsL m).getD k 0 ≤ got.getD k 0
      · rw [if_pos h3, if_pos (h2.2 h3)]
      · rw [if_neg h3, if_neg (fun h => h3 (h2.1 h)), List.append_nil]
  exact key n hn
structure SomeF (m : Market) (b y : Nat) (x : List Int) : Prop where
  e1 : (canP m (listL b m.shops.length)).2 = 0
  e2 : (canP m (fewTo (listL b m.shops.length) y (listL b m.shops.length).length)).2 = 0
  must : (canP m (listL b m.shops.length)).1 = 1 → (canP m (fewTo (listL b m.shops.length) y (listL b m.shops.length).length)).1 = 1
  never : (canP m (fewTo (listL b m.shops.length) y (listL b m.shops.length).length)).1 = 2 → (canP m (listL b m.shops.length)).1 = 2
  e3 : (canP m (fedTo m (gotTo m (anyTo m (mostL m) x m.trains.length).1 m.trains.length) m.shops.length)).2 = 0
  fed : (canP m (fedTo m (gotTo m (anyTo m (mostL m) x m.trains.length).1 m.trains.length) m.shops.length)).1 ≠ 2
theorem served_sub {m : Market} (hok : m.Ok) {hands : List Int} (hh : ∀ z ∈ hands, 0 ≤ z) {a c : Nat} (ha : a < 2 ^ m.shops.length) (hc : c < 2 ^ m.shops.length) (hd : bitDiff c a = 0) (h : servedR m hands (listL a m.shops.length) = true) : servedR m hands (listL c m.shops.length) = true := by
  have hls := hok.ls
  unfold servedR at h ⊢
  rw [decide_eq_true_eq, served_iff hok _ hh ha] at h
  rw [decide_eq_true_eq, served_iff hok _ hh hc]
  have hsub := (bset_sub (pow_16 hls hc) (pow_16 hls ha)).1 hd
  exact fun s hs => h s fun i hi => hsub i (hs i hi)
theorem some_facts {m : Market} (h : (check m).2.2 = 0) (b y : Nat) (x : List Int) : SomeF m b y x := by
  have hok := check_ok h
  have hls := hok.ls
  have hp := mod_small b m.shops.length
  obtain ⟨c, hc, ec, hd⟩ := few_list hls hp y
  have kall0 : ∀ r, canP m (listL (b % 2 ^ m.shops.length) m.shops.length) = r → canP m (listL b m.shops.length) = r := fun r hr => by rw [listL_small]; exact hr
  have kall := kall0 _ (can_list h hp)
  have kfew0 : ∀ r, canP m (listL c m.shops.length) = r → canP m (fewTo (listL b m.shops.length) y (listL b m.shops.length).length) = r := fun r hr => by rw [listL_small, ec]; exact hr
  have kfew := kfew0 _ (can_list h hc)
  have hnl : ∀ z ∈ leastL m, 0 ≤ z := fun z hz => ((leastL_fine hok).2 z hz).1
  have hnm : ∀ z ∈ mostL m, 0 ≤ z := fun z hz => ((mostL_fine hok).2 z hz).1
  have s1 := served_sub hok hnl hp hc hd
  have s2 := served_sub hok hnm hp hc hd
  obtain ⟨d, hd16, ed, hdb⟩ := fed_list m (gotTo m (anyTo m (mostL m) x m.trains.length).1 m.trains.length) hls
  have hd2 := mod_small d m.shops.length
  have hl := any_is_load hok (mostL_fine hok).1 (mostL_fine hok).2 (x := x)
  have kfed0 : ∀ r, canP m (listL (d % 2 ^ m.shops.length) m.shops.length) = r → canP m (fedTo m (gotTo m (anyTo m (mostL m) x m.trains.length).1 m.trains.length) m.shops.length) = r := fun r hr => by rw [ed, listL_small d]; exact hr
  have kfed := kfed0 _ (can_list h hd2)
  have s3 : servedR m (mostL m) (listL (d % 2 ^ m.shops.length) m.shops.length) = true := by
    unfold servedR
    rw [decide_eq_true_eq, served_iff hok _ hnm hd2]
    refine load_serves hok hl 0 _ _ hl.rooms fun s hs hsb => ?_
    have h1 : bset d s = true := by
      unfold bset at hsb ⊢
      rw [bit_mod hs] at hsb; exact hsb
    rw [hdb s (by omega), decide_eq_true_eq] at h1
    rw [← gotF_to hok _ _ (Nat.le_refl _) s hs]
    exact h1
  refine ⟨?_, ?_, ?_, ?_, ?_, ?_⟩
  · rw [kall]; split <;> (try split) <;> rfl
  · rw [kfew]; split <;> (try split) <;> rfl
  · rw [kall, kfew]
    intro h1
    have : servedR m (leastL m) (listL (b % 2 ^ m.shops.length) m.shops.length) = true := by
      split at h1
      · assumption
      · split at h1 <;> cases h1
    rw [if_pos (s1 this)]
  · rw [kall, kfew]
    intro h1
    have hx : servedR m (leastL m) (listL c m.shops.length) = false ∧ servedR m (mostL m) (listL c m.shops.length) = false := by
      split at h1
      · cases h1
      · rename_i h2
        split at h1
        · rename_i h3; exact ⟨by simpa using h2, h3⟩
        · cases h1
    have y1 : servedR m (leastL m) (listL (b % 2 ^ m.shops.length) m.shops.length) = false := by
      cases e : servedR m (leastL m) (listL (b % 2 ^ m.shops.length) m.shops.length) with
      | false => rfl
      | true => rw [s1 e] at hx; exact absurd hx.1 (by decide)
    have y2 : servedR m (mostL m) (listL (b % 2 ^ m.shops.length) m.shops.length) = false := by
      cases e : servedR m (mostL m) (listL (b % 2 ^ m.shops.length) m.shops.length) with
      | false => rfl
      | true => rw [s2 e] at hx; exact absurd hx.2 (by decide)
    rw [if_neg (by simp [y1]), if_pos y2]
  · rw [kfed]; split <;> (try split) <;> rfl
  · rw [kfed, s3]; split <;> simp
end Go.Rt.Sh
namespace Go.Rt.Sh
theorem lackN_in {m : Market} (hok : m.Ok) {got set : List Int} (hg : ∀ z ∈ got, 0 ≤ z ∧ z ≤ 360) : ∀ i : Nat, 0 ≤ lackN m got set i ∧ lackN m got set i ≤ 60 * (i : Int)
  | 0 => by simp [lackN]
  | i + 1 => by
    have ih := lackN_in hok (set := set) hg i
    have h1 := getD_in (a := 0) (b := 360) (by omega) (by omega) hg (set.getD i 0).toNat
    have h2 := getD_in (a := 0) (b := 60) (by omega) (by omega) (fun z hz => by obtain ⟨r, hr, rfl⟩ := List.mem_map.1 hz; have := hok.shop r hr; omega) (l := wantsL m) (set.getD i 0).toNat
    simp only [lackN]
    omega
theorem got_any {m : Market} (hok : m.Ok) {hands x : List Int} (hl : hands.length = m.rooms.length) (hh : ∀ z ∈ hands, 0 ≤ z ∧ z ≤ 200) : (∀ z ∈ (anyTo m hands x m.trains.length).1, 0 ≤ z ∧ z ≤ 60) ∧ (anyTo m hands x m.trains.length).1.length = m.trains.length ∧ ∀ z ∈ gotTo m (anyTo m hands x m.trains.length).1 m.trains.length, 0 ≤ z ∧ z ≤ 360 := by
  obtain ⟨h1, _, _, h4⟩ := anyTo_fine hok hl hh (x := x) _ (Nat.le_refl _)
  refine ⟨h4, h1, fun z hz => ?_⟩
  have := gotTo_in (m := m) h4 _ z hz
  have := hok.lt
  omega
end Go.Rt.Sh
/- Walks of this seat, printed by gen.py over the engine: what each function returns, in whatever world. No conditions but those of each contract. -/
set_option linter.unusedVariables false
set_option linter.unusedSimpArgs false
set_option maxRecDepth 20000
namespace Go.Proofs
open Go.Rt Go.Rt.Sh
attribute [local irreducible] WL WC Con Yd At Ats Sl Agree DW

theorem goes_short (m : Market) : (goesP m).1.length ≤ m.trains.length := by
  unfold goesP
  split
  · simp
  · exact goesTo_len m _
theorem c3 {w0 w : World} {F : List (Nat × Obj)} (m : Market) (p : At3) (hm : MIn w0 F m p)  (hs : St w0 w F) :
  Con Try.prog 3 [.agg (m.cells p).toArray] w fun v w' => v = .bool true ∧ St w0 w' F := by
  refine con_of_wc (n := 57) Try.func3 rfl rfl (Nat.le_of_ble_eq_true rfl) ?_
  have hlt := hm.lt
  refine w_seq (fun K2 hK1 => ?_)
  refine w_region ?_
  refine w_box (v := .agg #[.slice _ _ _, .slice _ _ _, .slice _ _ _]) (cs := [_, _, _]) want_none rfl rfl rfl hs (fun b3 w4 hs5 => ?_)
  refine w_pure want_none (y_assign (v := _) rfl rfl) rfl ?_
  refine w_nil ?_
  refine q_then (hK1 _ _ ?_)
  refine w_seq (fun K7 hK6 => ?_)
  have hbx : Ats w0 ((b3, blk 26 (m.cells p)) :: F) b3 0 (m.cells p) := ats_own (i := 0) (vs := m.cells p) rfl rfl
  refine w_region ?_
  refine w_pure want_none (y_loadN (vs := [_, _, _]) Try.isAgg26 Try.sizeOf26 hs5 rfl rfl hbx) rfl ?_
  refine w_call want_none Try.call16 rfl rfl rfl rfl (c16 m _ hm.cons hs5) ?_
  rintro _ w9 ⟨rfl, hs10⟩
  refine w_pure want_none (y_move (v := .tuple _) rfl rfl) rfl ?_
  refine w_pure want_none (y_extract (v := .int _ _) rfl rfl rfl) rfl ?_
  refine w_pure want_none (y_extract (v := .int _ _) rfl rfl rfl) rfl ?_
  refine w_pure want_none (y_extract (v := .int _ _) rfl rfl rfl) rfl ?_
  refine w_pure want_none (y_assign (v := .int _ _) rfl rfl) rfl ?_
  refine w_pure want_none (y_assign (v := .int _ _) rfl rfl) rfl ?_
  refine w_pure want_none (y_assign (v := .int _ _) rfl rfl) rfl ?_
  refine w_nil ?_
  refine q_then (hK6 _ _ ?_)
  refine w_seq (fun K12 hK11 => ?_)
  refine w_region ?_
  refine w_pure want_none (y_loadN (vs := [_, _, _]) Try.isAgg26 Try.sizeOf26 hs10 rfl rfl hbx) rfl ?_
  refine w_call want_none Try.call17 rfl rfl rfl rfl (c17 m _ hm.cons hs10) ?_
  rintro _ w14 ⟨rfl, hs15⟩
  refine w_pure want_none (y_move (v := .tuple _) rfl rfl) rfl ?_
  refine w_pure want_none (y_extract (v := .int _ _) rfl rfl rfl) rfl ?_
  refine w_pure want_none (y_extract (v := .int _ _) rfl rfl rfl) rfl ?_
  refine w_pure want_none (y_extract (v := .int _ _) rfl rfl rfl) rfl ?_
  refine w_pure want_none (y_assign (v := .int _ _) rfl rfl) rfl ?_
  refine w_pure want_none (y_assign (v := .int _ _) rfl rfl) rfl ?_
  refine w_pure want_none (y_assign (v := .int _ _) rfl rfl) rfl ?_
  refine w_nil ?_
  refine q_then (hK11 _ _ ?_)
  refine w_seq (fun K17 hK16 => ?_)
  refine w_seq (fun K19 hK18 => ?_)
  refine w_region ?_
  refine w_pure want_none (y_move (v := .int _ _) rfl rfl) rfl ?_
  refine w_pure want_none (y_move (v := .int _ _) rfl rfl) rfl ?_
  refine w_pure want_none (y_neq rfl rfl rfl rfl) rfl ?_
  refine w_pure want_none (y_move (v := .bool _) rfl rfl) rfl ?_
  refine w_split (fun h20 => ?_) (fun h20 => ?_)
  ·
   exfalso; simp at h20
  ·
   try simp only [Bool.not_eq_true', Bool.not_eq_false', decide_eq_true_eq, decide_eq_false_iff_not, Int.not_lt, Int.not_le] at h20
   refine w_pure (want_yes rfl rfl rfl) (y_move (v := .int _ _) rfl rfl) rfl ?_
   refine w_pure (want_yes rfl rfl rfl) (y_move (v := .int _ _) rfl rfl) rfl ?_
   refine w_pure (want_yes rfl rfl rfl) (y_neq rfl rfl rfl rfl) rfl ?_
   refine w_pure want_none (y_pickF (v := .bool _) rfl rfl rfl rfl) rfl ?_
   refine w_pure want_none (y_move (v := .bool _) rfl rfl) rfl ?_
   refine w_split (fun h21 => ?_) (fun h21 => ?_)
   ·
    exfalso; simp at h21
   ·
    try simp only [Bool.not_eq_true', Bool.not_eq_false', decide_eq_true_eq, decide_eq_false_iff_not, Int.not_lt, Int.not_le] at h21
    refine w_pure (want_yes rfl rfl rfl) (y_move (v := .int _ _) rfl rfl) rfl ?_
    refine w_pure (want_yes rfl rfl rfl) (y_move (v := .int _ _) rfl rfl) rfl ?_
    refine w_pure (want_yes rfl rfl rfl) (y_neq rfl rfl rfl rfl) rfl ?_
    refine w_pure want_none (y_pickF (v := .bool _) rfl rfl rfl rfl) rfl ?_
    refine w_nil ?_
    refine q_then (hK18 _ _ ?_)
    refine w_cond rfl rfl (fun h22 => ?_) (fun h22 => ?_)
    ·
     exfalso; simp at h22
    ·
     try simp only [Bool.not_eq_true', Bool.not_eq_false', decide_eq_true_eq, decide_eq_false_iff_not, Int.not_lt, Int.not_le] at h22
     refine w_skip ?_
     refine q_then (hK16 _ _ ?_)
     refine w_seq (fun K24 hK23 => ?_)
     refine w_region ?_
     refine w_pure want_none (y_loadN (vs := [_, _, _]) Try.isAgg26 Try.sizeOf26 hs15 rfl rfl hbx) rfl ?_
     refine w_call want_none Try.call18 rfl rfl rfl rfl (c18 m _ hm.cons hs15) ?_
     rintro _ w26 ⟨B1, a1, c1, rfl, hq1, hs27⟩
     replace hs27 := (show St _ _ (B1 ++ (_ :: F)) from hs27)
     refine w_pure want_none (y_move (v := .tuple _) rfl rfl) rfl ?_
     refine w_pure want_none (y_extract (v := .slice _ _ _) rfl rfl rfl) rfl ?_
     refine w_pure want_none (y_extract (v := .int _ _) rfl rfl rfl) rfl ?_
     refine w_pure want_none (y_assign (v := .slice _ _ _) rfl rfl) rfl ?_
     refine w_pure want_none (y_assign (v := .int _ _) rfl rfl) rfl ?_
     refine w_nil ?_
     refine q_then (hK23 _ _ ?_)
     refine w_seq (fun K29 hK28 => ?_)
     refine w_region ?_
     refine w_pure want_none (y_loadN (vs := [_, _, _]) Try.isAgg26 Try.sizeOf26 hs27.drop rfl rfl hbx) rfl ?_
     refine w_call want_none Try.call19 rfl rfl rfl rfl (c19 m _ hm.cons.app hs27) ?_
     rintro _ w31 ⟨B2, a2, c2, rfl, hq2, hs32⟩
     replace hs32 := (show St _ _ (B2 ++ (B1 ++ (_ :: F))) from hs32)
     refine w_pure want_none (y_move (v := .tuple _) rfl rfl) rfl ?_
     refine w_pure want_none (y_extract (v := .slice _ _ _) rfl rfl rfl) rfl ?_
     refine w_pure want_none (y_extract (v := .int _ _) rfl rfl rfl) rfl ?_
     refine w_pure want_none (y_assign (v := .slice _ _ _) rfl rfl) rfl ?_
     refine w_pure want_none (y_assign (v := .int _ _) rfl rfl) rfl ?_
     refine w_nil ?_
     refine q_then (hK28 _ _ ?_)
     refine w_seq (fun K34 hK33 => ?_)
     refine w_region ?_
     refine w_pure want_none (y_move (v := .slice _ _ _) rfl rfl) rfl ?_
     refine w_pure want_none (y_move (v := .slice _ _ _) rfl rfl) rfl ?_
     refine w_call want_none Try.call20 rfl rfl rfl rfl (c20 _ _ (goesP m).1 (goesP m).1 _ _ (by have := goes_short m; omega) hq1.top.app hq2.top hs32) ?_
     rintro _ w36 ⟨rfl, hs37⟩
     refine w_pure want_none (y_move (v := .bool _) rfl rfl) rfl ?_
     refine w_split (fun h38 => ?_) (fun h38 => ?_)
     ·
      try simp only [Bool.not_eq_true', Bool.not_eq_false', decide_eq_true_eq, decide_eq_false_iff_not, Int.not_lt, Int.not_le] at h38
      refine w_pure (want_yes rfl rfl rfl) (y_move (v := .int _ _) rfl rfl) rfl ?_
      refine w_pure (want_yes rfl rfl rfl) (y_move (v := .int _ _) rfl rfl) rfl ?_
      refine w_pure (want_yes rfl rfl rfl) (y_eql rfl rfl rfl rfl) rfl ?_
      refine w_pure want_none (y_pickT (v := .bool _) rfl rfl rfl rfl) rfl ?_
      refine w_pure want_none (y_move (v := .bool _) rfl rfl) rfl ?_
      refine w_split (fun h39 => ?_) (fun h39 => ?_)
      ·
       try simp only [Bool.not_eq_true', Bool.not_eq_false', decide_eq_true_eq, decide_eq_false_iff_not, Int.not_lt, Int.not_le] at h39
       refine w_call (want_yes rfl rfl rfl) Try.call21 rfl rfl rfl rfl (c21 hs37) ?_
       rintro _ w41 ⟨rfl, hs42⟩
       refine w_pure want_none (y_pickT (v := .bool _) rfl rfl rfl rfl) rfl ?_
       refine w_pure want_none (y_assign (v := .bool _) rfl rfl) rfl ?_
       refine w_nil ?_
       refine q_then (hK33 _ _ ?_)
       refine w_ret ?_
       refine q_ret (l := [.tmp 2]) (vs := [_]) rfl ⟨⟨rfl, show _ = (.bool _ : Value) from rfl⟩, trivial⟩ ?_
       exact ⟨rfl, hs42.drop.drop.tail⟩
      ·
       exfalso; simp at h39
     ·
      exfalso; simp at h38

end Go.Proofs
/- Walks of this seat, printed by gen.py over the engine: what each function returns, in whatever world. No conditions but those of each contract. -/
set_option linter.unusedVariables false
set_option linter.unusedSimpArgs false
set_option maxRecDepth 20000
namespace Go.Proofs
open Go.Rt Go.Rt.Sh
attribute [local irreducible] WL WC Con Yd At Ats Sl Agree DW

theorem c31 {w0 w : World} {F : List (Nat × Obj)} (m : Market) (p : At3) (hm : MIn w0 F m p) (r : Int) (hs : St w0 w F) :
  Con Try.prog 31 [.agg (m.cells p).toArray, .int .i64 r] w fun v w' => v = .tuple #[.int .i64 (moreR m r).1, .int .i64 (moreR m r).2] ∧ St w0 w' F := by
  refine con_of_wc (n := 44) Try.func31 rfl rfl (Nat.le_of_ble_eq_true rfl) ?_
  have hlr0 := hm.lr
  refine w_seq (fun K2 hK1 => ?_)
  refine w_region ?_
  refine w_box (v := .agg #[.slice _ _ _, .slice _ _ _, .slice _ _ _]) (cs := [_, _, _]) want_none rfl rfl rfl hs (fun b3 w4 hs5 => ?_)
  refine w_pure want_none (y_assign (v := _) rfl rfl) rfl ?_
  refine w_pure want_none (y_assign (v := _) rfl rfl) rfl ?_
  refine w_nil ?_
  refine q_then (hK1 _ _ ?_)
  refine w_seq (fun K7 hK6 => ?_)
  have hbx : Ats w0 ((b3, blk 26 (m.cells p)) :: F) b3 0 (m.cells p) := ats_own (i := 0) (vs := m.cells p) rfl rfl
  refine w_region ?_
  refine w_pure want_none (y_loadN (vs := [_, _, _]) Try.isAgg26 Try.sizeOf26 hs5 rfl rfl hbx) rfl ?_
  refine w_call want_none Try.call17 rfl rfl rfl rfl (c17 m _ hm.cons hs5) ?_
  rintro _ w9 ⟨rfl, hs10⟩
  refine w_pure want_none (y_move (v := .tuple _) rfl rfl) rfl ?_
  refine w_pure want_none (y_extract (v := .int _ _) rfl rfl rfl) rfl ?_
  refine w_pure want_none (y_extract (v := .int _ _) rfl rfl rfl) rfl ?_
  refine w_pure want_none (y_extract (v := .int _ _) rfl rfl rfl) rfl ?_
  refine w_pure want_none (y_assign (v := .int _ _) rfl rfl) rfl ?_
  refine w_pure want_none (y_assign (v := .int _ _) rfl rfl) rfl ?_
  refine w_pure want_none (y_assign (v := .int _ _) rfl rfl) rfl ?_
  refine w_nil ?_
  refine q_then (hK6 _ _ ?_)
  refine w_seq (fun K12 hK11 => ?_)
  refine w_cut [8, 16, 17, 18, 19, 20, 21, 22, 23, 24, 25, 26] [8] (fun vs w => vs = [.int .i64 (enterE m m.rooms.length [r])] ∧ St w0 w ((b3, blk 26 (m.cells p)) :: F)) (fun K14 hC13 => ?_) ?_
  ·
   refine w_seq (fun K16 hK15 => ?_)
   refine w_region ?_
   refine w_pure want_none (y_move (v := .int _ _) rfl rfl) rfl ?_
   refine w_pure want_none (y_eql rfl rfl rfl rfl) rfl ?_
   refine w_pure want_none (y_move (v := .bool _) rfl rfl) rfl ?_
   refine w_split (fun h17 => ?_) (fun h17 => ?_)
   ·
    try simp only [Bool.not_eq_true', Bool.not_eq_false', decide_eq_true_eq, decide_eq_false_iff_not, Int.not_lt, Int.not_le] at h17
    refine w_pure (want_yes rfl rfl rfl) (y_move (v := .int _ _) rfl rfl) rfl ?_
    refine w_pure (want_yes rfl rfl rfl) (y_fieldAddr (o := 0) (i := 0) Try.underlying26 rfl Try.sizeOf22 rfl rfl rfl) rfl ?_
    refine w_pure (want_yes rfl rfl rfl) (y_load1 Try.isAgg22 hs10 rfl rfl (show Ats _ _ _ _ [_] from Ats.part hbx 0 1)) rfl ?_
    refine w_pure (want_yes rfl rfl rfl) (y_lenS Try.underlying22 rfl rfl) rfl ?_
    refine w_pure (want_yes rfl rfl rfl) (y_sub rfl rfl rfl rfl (by omega) (by omega)) rfl ?_
    refine w_call (want_yes rfl rfl rfl) Try.call51 rfl rfl rfl rfl (c51 _ _ _ hs10) ?_
    rintro _ w19 ⟨rfl, hs20⟩
    refine w_pure (want_yes rfl rfl rfl) (y_not rfl rfl) rfl ?_
    refine w_pure want_none (y_pickT (v := .bool _) rfl rfl rfl rfl) rfl ?_
    refine w_nil ?_
    refine q_then (hK15 _ _ ?_)
    refine w_cond rfl rfl (fun h21 => ?_) (fun h21 => ?_)
    ·
     try simp only [Bool.not_eq_true', Bool.not_eq_false', decide_eq_true_eq, decide_eq_false_iff_not, Int.not_lt, Int.not_le] at h21
     refine w_region ?_
     refine w_pure want_none (y_assign (v := _) rfl rfl) rfl ?_
     refine w_nil ?_
     refine q_then (hC13 _ _ (Md.intro (by repeat (first | exact agree_refl | exact agree_mix | refine agree_upd rfl ?_ | refine agree_updL rfl ?_ _ | refine agree_mixin rfl ?_)) ?_))
     first
       | exact ⟨by rw [enterE_1 (by assumption)]; rfl, hs20⟩
       | exact ⟨by have hc0 : (check m).2.2 = 0 := (by assumption); rw [(enterE_0 hc0 (by simp [out]; omega)).trans hc0.symm]; rfl, hs20⟩
       | exact ⟨by rw [enterE_2 (by assumption) (by simp [out]; omega)]; rfl, hs20⟩
    ·
     try simp only [Bool.not_eq_true', Bool.not_eq_false', decide_eq_true_eq, decide_eq_false_iff_not, Int.not_lt, Int.not_le] at h21
     refine w_skip ?_
     refine q_then (hC13 _ _ (Md.intro (by repeat (first | exact agree_refl | exact agree_mix | refine agree_upd rfl ?_ | refine agree_updL rfl ?_ _ | refine agree_mixin rfl ?_)) ?_))
     first
       | exact ⟨by rw [enterE_1 (by assumption)]; rfl, hs20⟩
       | exact ⟨by have hc0 : (check m).2.2 = 0 := (by assumption); rw [(enterE_0 hc0 (by simp [out]; omega)).trans hc0.symm]; rfl, hs20⟩
       | exact ⟨by rw [enterE_2 (by assumption) (by simp [out]; omega)]; rfl, hs20⟩
   ·
    try simp only [Bool.not_eq_true', Bool.not_eq_false', decide_eq_true_eq, decide_eq_false_iff_not, Int.not_lt, Int.not_le] at h17
    refine w_skipop rfl rfl rfl ?_
    refine w_skipop rfl rfl rfl ?_
    refine w_skipop rfl rfl rfl ?_
    refine w_skipop rfl rfl rfl ?_
    refine w_skipop rfl rfl rfl ?_
    refine w_skipop rfl rfl rfl ?_
    refine w_skipop rfl rfl rfl ?_
    refine w_pure want_none (y_pickF (v := _) rfl rfl rfl rfl) rfl ?_
    refine w_nil ?_
    refine q_then (hK15 _ _ ?_)
    refine w_condF rfl rfl ?_
    refine w_skip ?_
    refine q_then (hC13 _ _ (Md.intro (by repeat (first | exact agree_refl | exact agree_mix | refine agree_upd rfl ?_ | refine agree_updL rfl ?_ _ | refine agree_mixin rfl ?_)) ?_))
    first
      | exact ⟨by rw [enterE_1 (by assumption)]; rfl, hs10⟩
      | exact ⟨by have hc0 : (check m).2.2 = 0 := (by assumption); rw [(enterE_0 hc0 (by simp [out]; omega)).trans hc0.symm]; rfl, hs10⟩
      | exact ⟨by rw [enterE_2 (by assumption) (by simp [out]; omega)]; rfl, hs10⟩
  ·
   intro vs μ w22 hM
   obtain ⟨rfl, hs⟩ := hM
   refine q_then (hK11 _ _ ?_)
   refine w_seq (fun K24 hK23 => ?_)
   refine w_seq (fun K26 hK25 => ?_)
   refine w_region ?_
   refine w_pure want_none (y_move (v := .int _ _) rfl rfl) rfl ?_
   refine w_pure want_none (y_neq rfl rfl rfl rfl) rfl ?_
   refine w_nil ?_
   refine q_then (hK25 _ _ ?_)
   refine w_cond rfl rfl (fun h27 => ?_) (fun h27 => ?_)
   ·
    try simp only [Bool.not_eq_true', Bool.not_eq_false', decide_eq_true_eq, decide_eq_false_iff_not, Int.not_lt, Int.not_le] at h27
    refine w_seq (fun K29 hK28 => ?_)
    refine w_region ?_
    refine w_pure want_none (y_move (v := .int _ _) rfl rfl) rfl ?_
    refine w_pure want_none (y_assign (v := _) rfl rfl) rfl ?_
    refine w_pure want_none (y_assign (v := .int _ _) rfl rfl) rfl ?_
    refine w_nil ?_
    refine q_then (hK28 _ _ ?_)
    refine w_ret ?_
    refine q_then_ret ?_
    refine q_ret (l := [.tmp 4, .tmp 5]) (vs := [_, _]) rfl ⟨⟨rfl, show _ = (.int _ _ : Value) from rfl⟩, ⟨rfl, show _ = (.int _ _ : Value) from rfl⟩, trivial⟩ ?_
    first
      | exact ⟨by rw [moreR_1 (by assumption)]; rfl, hs.tail⟩
      | exact ⟨by rw [moreR_2 hee (hmo.trans (moreR_here rfl (by omega) (by assumption)))]; rfl, hs.tail⟩
      | exact ⟨by rw [moreR_3 hee (hmo.trans (moreR_end (by omega)))]; rfl, hs.tail⟩
   ·
    try simp only [Bool.not_eq_true', Bool.not_eq_false', decide_eq_true_eq, decide_eq_false_iff_not, Int.not_lt, Int.not_le] at h27
    refine w_skip ?_
    refine q_then (hK23 _ _ ?_)
    refine w_seq (fun K31 hK30 => ?_)
    refine w_seq (fun K33 hK32 => ?_)
    have hee : enterE m m.rooms.length [r] = 0 := by assumption
    obtain ⟨hck, hrr⟩ := enterE_ok hee
    have hrr := hrr r (.head _)
    have hok := check_ok hck
    have hlr := hok.lr
    have hls := hok.ls
    have hlt := hok.lt
    have hot := othersTo_len [] m.shops.length
    have hoi := othersTo_in [] m.shops.length
    obtain ⟨q, hq⟩ : ∃ q : Nat, r = (q : Int) := ⟨r.toNat, by omega⟩
    subst hq
    refine w_region ?_
    refine w_pure want_none (y_assign (v := _) rfl rfl) rfl ?_
    refine w_nil ?_
    refine q_then (hK32 _ _ ?_)
    refine w_block ?_
    refine w_loop [4, 5, 9, 30, 31, 32, 33, 34, 35, 36, 37, 38, 39, 40, 41, 42, 43] [9] (fun kk vs0 w => ∃ i : Nat, vs0 = [.int .i64 i] ∧ i ≤ 61 ∧ kk = 61 - i ∧ moreToR m q 0 61 = moreToR m q i (61 - i) ∧ St w0 w ((b3, blk 26 (m.cells p)) :: F)) (61) ?_ ?_
    ·
     exact ⟨0, rfl, by omega, by omega, rfl, hs⟩
    ·
     intro k vs μ w36 hI K35 hN34
     obtain ⟨i, rfl, hia, rfl, hmo, hs⟩ := hI
     refine w_seq (fun K38 hK37 => ?_)
     refine w_seq (fun K40 hK39 => ?_)
     refine w_region ?_
     refine w_pure want_none (y_move (v := .int _ _) rfl rfl) rfl ?_
     refine w_pure want_none (y_leq rfl rfl rfl rfl) rfl ?_
     refine w_nil ?_
     refine q_then (hK39 _ _ ?_)
     refine w_cond rfl rfl (fun h41 => ?_) (fun h41 => ?_)
     ·
      try simp only [Bool.not_eq_true', Bool.not_eq_false', decide_eq_true_eq, decide_eq_false_iff_not, Int.not_lt, Int.not_le] at h41
      refine w_skip ?_
      refine q_then (hK37 _ _ ?_)
      refine w_seq (fun K43 hK42 => ?_)
      refine w_block ?_
      refine w_seq (fun K45 hK44 => ?_)
      refine w_draw [] [(0, 1), (1, 1), (2, 0), (3, 0), (6, 1), (4, 2), (5, 2), (7, 2), (8, 2)] Try_mo (by kernel_rfl) hs (fun w46 hs47 => ?_)
      refine d_take rfl want_none rfl hs47 (fun _ hq => (y_loadN (vs := [_, _, _]) Try.isAgg26 Try.sizeOf26 hq rfl rfl hbx)) ?_
      refine d_take rfl want_none rfl hs47 (fun _ hq => (y_loadN (vs := [_, _, _]) Try.isAgg26 Try.sizeOf26 hq rfl rfl hbx)) ?_
      refine d_any rfl want_none rfl (fun _ => (y_move (v := .int _ _) rfl rfl)) ?_
      refine d_any rfl want_none rfl (fun _ => (y_move (v := .int _ _) rfl rfl)) ?_
      refine d_take rfl want_none rfl hs47 (fun _ hq => (y_loadN (vs := [_, _, _]) Try.isAgg26 Try.sizeOf26 hq rfl rfl hbx)) ?_
      refine d_eff rfl ?_
      refine w_call want_none Try.call50 rfl rfl rfl rfl (c50 m _ hm.cons q (by omega) i (by omega) (fun y hy => by have := hok.room y hy; omega) hlr hs47) ?_
      rintro _ w49 ⟨BW2, p2, rfl, hm2, hs50⟩
      replace hs50 := (show St _ _ (BW2 ++ (_ :: F)) from hs50)
      refine w_nil ?_
      refine qn ⟨hs50.drop, ?_⟩
      refine d_eff rfl ?_
      refine w_call want_none Try.call37 rfl rfl rfl rfl (c37 (withM m q i) _ hm2 (withM_ok hck q (n := i) (by omega)) hs50) ?_
      rintro _ w52 ⟨BL, aL, cL, rfl, hs_BL, hs53⟩
      replace hs53 := (show St _ _ (BL ++ (BW2 ++ (_ :: F))) from hs53)
      refine w_nil ?_
      refine qn ⟨hs53.drop.drop, ?_⟩
      refine d_eff rfl ?_
      refine w_call want_none Try.call48 rfl rfl rfl rfl (c48 m _ hm.cons.app.app hok  hs53) ?_
      rintro _ w55 ⟨AB, a_AB, c_AB, rfl, hs_AB, hs56⟩
      replace hs56 := (show St _ _ (AB ++ (BL ++ (BW2 ++ (_ :: F)))) from hs56)
      refine w_nil ?_
      refine qn ⟨hs56.drop.drop.drop, ?_⟩
      refine d_eff rfl ?_
      refine w_call want_none Try.call49 rfl rfl rfl rfl (c49 m _ hm.cons.app.app.app hok _ _ (leastL (withM m q i)) (by simp [leastL, withM, addRoom_len]) hs_BL.top.app (leastL_in (withM_ok hck q (n := i) (by omega))) _ _ (othersTo [] m.shops.length) (by omega) hs_AB.top hoi hs56) ?_
      rintro _ w58 ⟨rfl, hs59⟩
      refine w_nil ?_
      refine qn ⟨hs59.drop.drop.drop, ?_⟩
      refine d_nil ?_
      refine q_then (hK44 _ _ ?_)
      refine w_cond rfl rfl (fun h60 => ?_) (fun h60 => ?_)
      ·
       try simp only [Bool.not_eq_true', Bool.not_eq_false', decide_eq_true_eq, decide_eq_false_iff_not, Int.not_lt, Int.not_le] at h60
       refine w_seq (fun K62 hK61 => ?_)
       refine w_region ?_
       refine w_pure want_none (y_move (v := .int _ _) rfl rfl) rfl ?_
       refine w_pure want_none (y_assign (v := .int _ _) rfl rfl) rfl ?_
       refine w_pure want_none (y_assign (v := _) rfl rfl) rfl ?_
       refine w_nil ?_
       refine q_then (hK61 _ _ ?_)
       refine w_ret ?_
       refine q_blk_ret ?_
       refine q_then_ret ?_
       refine q_then_ret ?_
       refine q_blk_ret ?_
       refine q_then_ret ?_
       refine q_ret (l := [.tmp 4, .tmp 5]) (vs := [_, _]) rfl ⟨⟨rfl, show _ = (.int _ _ : Value) from rfl⟩, ⟨rfl, show _ = (.int _ _ : Value) from rfl⟩, trivial⟩ ?_
       first
         | exact ⟨by rw [moreR_1 (by assumption)]; rfl, hs59.drop.drop.drop.tail⟩
         | exact ⟨by rw [moreR_2 hee (hmo.trans (moreR_here rfl (by omega) (by assumption)))]; rfl, hs59.drop.drop.drop.tail⟩
         | exact ⟨by rw [moreR_3 hee (hmo.trans (moreR_end (by omega)))]; rfl, hs59.drop.drop.drop.tail⟩
      ·
       try simp only [Bool.not_eq_true', Bool.not_eq_false', decide_eq_true_eq, decide_eq_false_iff_not, Int.not_lt, Int.not_le] at h60
       refine w_skip ?_
       refine q_blk_normal ?_
       refine q_then (hK42 _ _ ?_)
       refine w_region ?_
       refine w_pure want_none (y_move (v := .int _ _) rfl rfl) rfl ?_
       refine w_pure want_none (y_add rfl rfl rfl rfl (by omega) (by omega)) rfl ?_
       refine w_pure want_none (y_assign (v := .int _ _) rfl rfl) rfl ?_
       refine w_nil ?_
       refine q_then (hN34 _ _ (Nx.intro (61 - (i + 1)) (by omega) (by repeat (first | exact agree_mix | refine agree_upd rfl ?_ | refine agree_updL rfl ?_ _ | refine agree_mixin rfl ?_)) ?_))
       exact ⟨i + 1, rfl, by omega, rfl, hmo.trans (moreR_on (by omega) (by assumption)), hs59.drop.drop.drop⟩
     ·
      try simp only [Bool.not_eq_true', Bool.not_eq_false', decide_eq_true_eq, decide_eq_false_iff_not, Int.not_lt, Int.not_le] at h41
      refine w_exit ?_
      refine q_then_exit ?_
      refine q_then_exit ?_
      refine q_blk_this ?_
      refine q_then (hK30 _ _ ?_)
      refine w_seq (fun K64 hK63 => ?_)
      refine w_region ?_
      refine w_pure want_none (y_assign (v := _) rfl rfl) rfl ?_
      refine w_pure want_none (y_assign (v := _) rfl rfl) rfl ?_
      refine w_nil ?_
      refine q_then (hK63 _ _ ?_)
      refine w_ret ?_
      refine q_ret (l := [.tmp 4, .tmp 5]) (vs := [_, _]) rfl ⟨⟨rfl, show _ = (.int _ _ : Value) from rfl⟩, ⟨rfl, show _ = (.int _ _ : Value) from rfl⟩, trivial⟩ ?_
      first
        | exact ⟨by rw [moreR_1 (by assumption)]; rfl, hs.tail⟩
        | exact ⟨by rw [moreR_2 hee (hmo.trans (moreR_here rfl (by omega) (by assumption)))]; rfl, hs.tail⟩
        | exact ⟨by rw [moreR_3 hee (hmo.trans (moreR_end (by omega)))]; rfl, hs.tail⟩

theorem c33 {w0 w : World} {F : List (Nat × Obj)} (m : Market) (p : At3) (hm : MIn w0 F m p) (r : Int) (hs : St w0 w F) :
  Con Try.prog 33 [.agg (m.cells p).toArray, .int .i64 r] w fun v w' => v = .tuple #[.int .i64 (lateR m r).1, .int .i64 (lateR m r).2] ∧ St w0 w' F := by
  refine con_of_wc (n := 61) Try.func33 rfl rfl (Nat.le_of_ble_eq_true rfl) ?_
  have hlr0 := hm.lt
  refine w_seq (fun K2 hK1 => ?_)
  refine w_region ?_
  refine w_box (v := .agg #[.slice _ _ _, .slice _ _ _, .slice _ _ _]) (cs := [_, _, _]) want_none rfl rfl rfl hs (fun b3 w4 hs5 => ?_)
  refine w_pure want_none (y_assign (v := _) rfl rfl) rfl ?_
  refine w_pure want_none (y_assign (v := _) rfl rfl) rfl ?_
  refine w_nil ?_
  refine q_then (hK1 _ _ ?_)
  refine w_seq (fun K7 hK6 => ?_)
  have hbx : Ats w0 ((b3, blk 26 (m.cells p)) :: F) b3 0 (m.cells p) := ats_own (i := 0) (vs := m.cells p) rfl rfl
  refine w_region ?_
  refine w_pure want_none (y_loadN (vs := [_, _, _]) Try.isAgg26 Try.sizeOf26 hs5 rfl rfl hbx) rfl ?_
  refine w_call want_none Try.call17 rfl rfl rfl rfl (c17 m _ hm.cons hs5) ?_
  rintro _ w9 ⟨rfl, hs10⟩
  refine w_pure want_none (y_move (v := .tuple _) rfl rfl) rfl ?_
  refine w_pure want_none (y_extract (v := .int _ _) rfl rfl rfl) rfl ?_
  refine w_pure want_none (y_extract (v := .int _ _) rfl rfl rfl) rfl ?_
  refine w_pure want_none (y_extract (v := .int _ _) rfl rfl rfl) rfl ?_
  refine w_pure want_none (y_assign (v := .int _ _) rfl rfl) rfl ?_
  refine w_pure want_none (y_assign (v := .int _ _) rfl rfl) rfl ?_
  refine w_pure want_none (y_assign (v := .int _ _) rfl rfl) rfl ?_
  refine w_nil ?_
  refine q_then (hK6 _ _ ?_)
  refine w_seq (fun K12 hK11 => ?_)
  refine w_cut [8, 19, 20, 21, 22, 23, 24, 25, 26, 27, 28, 29] [8] (fun vs w => vs = [.int .i64 (enterE m m.trains.length [r])] ∧ St w0 w ((b3, blk 26 (m.cells p)) :: F)) (fun K14 hC13 => ?_) ?_
  ·
   refine w_seq (fun K16 hK15 => ?_)
   refine w_region ?_
   refine w_pure want_none (y_move (v := .int _ _) rfl rfl) rfl ?_
   refine w_pure want_none (y_eql rfl rfl rfl rfl) rfl ?_
   refine w_pure want_none (y_move (v := .bool _) rfl rfl) rfl ?_
   refine w_split (fun h17 => ?_) (fun h17 => ?_)
   ·
    try simp only [Bool.not_eq_true', Bool.not_eq_false', decide_eq_true_eq, decide_eq_false_iff_not, Int.not_lt, Int.not_le] at h17
    refine w_pure (want_yes rfl rfl rfl) (y_move (v := .int _ _) rfl rfl) rfl ?_
    refine w_pure (want_yes rfl rfl rfl) (y_fieldAddr (o := 2) (i := 2) Try.underlying26 rfl Try.sizeOf24 rfl rfl rfl) rfl ?_
    refine w_pure (want_yes rfl rfl rfl) (y_load1 Try.isAgg24 hs10 rfl rfl (show Ats _ _ _ _ [_] from Ats.part hbx 2 1)) rfl ?_
    refine w_pure (want_yes rfl rfl rfl) (y_lenS Try.underlying24 rfl rfl) rfl ?_
    refine w_pure (want_yes rfl rfl rfl) (y_sub rfl rfl rfl rfl (by omega) (by omega)) rfl ?_
    refine w_call (want_yes rfl rfl rfl) Try.call51 rfl rfl rfl rfl (c51 _ _ _ hs10) ?_
    rintro _ w19 ⟨rfl, hs20⟩
    refine w_pure (want_yes rfl rfl rfl) (y_not rfl rfl) rfl ?_
    refine w_pure want_none (y_pickT (v := .bool _) rfl rfl rfl rfl) rfl ?_
    refine w_nil ?_
    refine q_then (hK15 _ _ ?_)
    refine w_cond rfl rfl (fun h21 => ?_) (fun h21 => ?_)
    ·
     try simp only [Bool.not_eq_true', Bool.not_eq_false', decide_eq_true_eq, decide_eq_false_iff_not, Int.not_lt, Int.not_le] at h21
     refine w_region ?_
     refine w_pure want_none (y_assign (v := _) rfl rfl) rfl ?_
     refine w_nil ?_
     refine q_then (hC13 _ _ (Md.intro (by repeat (first | exact agree_refl | exact agree_mix | refine agree_upd rfl ?_ | refine agree_updL rfl ?_ _ | refine agree_mixin rfl ?_)) ?_))
     first
       | exact ⟨by rw [enterE_1 (by assumption)]; rfl, hs20⟩
       | exact ⟨by have hc0 : (check m).2.2 = 0 := (by assumption); rw [(enterE_0 hc0 (by simp [out]; omega)).trans hc0.symm]; rfl, hs20⟩
       | exact ⟨by rw [enterE_2 (by assumption) (by simp [out]; omega)]; rfl, hs20⟩
    ·
     try simp only [Bool.not_eq_true', Bool.not_eq_false', decide_eq_true_eq, decide_eq_false_iff_not, Int.not_lt, Int.not_le] at h21
     refine w_skip ?_
     refine q_then (hC13 _ _ (Md.intro (by repeat (first | exact agree_refl | exact agree_mix | refine agree_upd rfl ?_ | refine agree_updL rfl ?_ _ | refine agree_mixin rfl ?_)) ?_))
     first
       | exact ⟨by rw [enterE_1 (by assumption)]; rfl, hs20⟩
       | exact ⟨by have hc0 : (check m).2.2 = 0 := (by assumption); rw [(enterE_0 hc0 (by simp [out]; omega)).trans hc0.symm]; rfl, hs20⟩
       | exact ⟨by rw [enterE_2 (by assumption) (by simp [out]; omega)]; rfl, hs20⟩
   ·
    try simp only [Bool.not_eq_true', Bool.not_eq_false', decide_eq_true_eq, decide_eq_false_iff_not, Int.not_lt, Int.not_le] at h17
    refine w_skipop rfl rfl rfl ?_
    refine w_skipop rfl rfl rfl ?_
    refine w_skipop rfl rfl rfl ?_
    refine w_skipop rfl rfl rfl ?_
    refine w_skipop rfl rfl rfl ?_
    refine w_skipop rfl rfl rfl ?_
    refine w_skipop rfl rfl rfl ?_
    refine w_pure want_none (y_pickF (v := _) rfl rfl rfl rfl) rfl ?_
    refine w_nil ?_
    refine q_then (hK15 _ _ ?_)
    refine w_condF rfl rfl ?_
    refine w_skip ?_
    refine q_then (hC13 _ _ (Md.intro (by repeat (first | exact agree_refl | exact agree_mix | refine agree_upd rfl ?_ | refine agree_updL rfl ?_ _ | refine agree_mixin rfl ?_)) ?_))
    first
      | exact ⟨by rw [enterE_1 (by assumption)]; rfl, hs10⟩
      | exact ⟨by have hc0 : (check m).2.2 = 0 := (by assumption); rw [(enterE_0 hc0 (by simp [out]; omega)).trans hc0.symm]; rfl, hs10⟩
      | exact ⟨by rw [enterE_2 (by assumption) (by simp [out]; omega)]; rfl, hs10⟩
  ·
   intro vs μ w22 hM
   obtain ⟨rfl, hs⟩ := hM
   refine q_then (hK11 _ _ ?_)
   refine w_seq (fun K24 hK23 => ?_)
   refine w_seq (fun K26 hK25 => ?_)
   refine w_region ?_
   refine w_pure want_none (y_move (v := .int _ _) rfl rfl) rfl ?_
   refine w_pure want_none (y_neq rfl rfl rfl rfl) rfl ?_
   refine w_nil ?_
   refine q_then (hK25 _ _ ?_)
   refine w_cond rfl rfl (fun h27 => ?_) (fun h27 => ?_)
   ·
    try simp only [Bool.not_eq_true', Bool.not_eq_false', decide_eq_true_eq, decide_eq_false_iff_not, Int.not_lt, Int.not_le] at h27
    refine w_seq (fun K29 hK28 => ?_)
    refine w_region ?_
    refine w_pure want_none (y_move (v := .int _ _) rfl rfl) rfl ?_
    refine w_pure want_none (y_assign (v := _) rfl rfl) rfl ?_
    refine w_pure want_none (y_assign (v := .int _ _) rfl rfl) rfl ?_
    refine w_nil ?_
    refine q_then (hK28 _ _ ?_)
    refine w_ret ?_
    refine q_then_ret ?_
    refine q_ret (l := [.tmp 4, .tmp 5]) (vs := [_, _]) rfl ⟨⟨rfl, show _ = (.int _ _ : Value) from rfl⟩, ⟨rfl, show _ = (.int _ _ : Value) from rfl⟩, trivial⟩ ?_
    first
      | exact ⟨by rw [lateR_1 (by assumption)]; rfl, hs.tail⟩
      | exact ⟨by rw [lateR_2 hee]; rfl, hs.tail⟩
   ·
    try simp only [Bool.not_eq_true', Bool.not_eq_false', decide_eq_true_eq, decide_eq_false_iff_not, Int.not_lt, Int.not_le] at h27
    refine w_skip ?_
    refine q_then (hK23 _ _ ?_)
    refine w_seq (fun K31 hK30 => ?_)
    have hee : enterE m m.trains.length [r] = 0 := by assumption
    obtain ⟨hck, hrr⟩ := enterE_ok hee
    have hrr := hrr r (.head _)
    have hok := check_ok hck
    have hlr := hok.lr
    have hls := hok.ls
    have hlt := hok.lt
    have hot := othersTo_len [] m.shops.length
    have hoi := othersTo_in [] m.shops.length
    obtain ⟨q, hq⟩ : ∃ q : Nat, r = (q : Int) := ⟨r.toNat, by omega⟩
    subst hq
    have hokl := lateM_ok hck q
    have hwb1 := worstR_bound hok (leastL_in hok) (wantsL_in hok) (shops := (othersTo [] m.shops.length)) (by omega) 0
    have hwb2 := worstR_bound hokl (hands := leastL m) (wants := wantsL m) (leastL_in hok) (wantsL_in hok) (shops := (othersTo [] m.shops.length)) (by omega) 0
    refine w_draw [] [(0, 1), (1, 1), (3, 1), (5, 1), (2, 2), (4, 2), (6, 2), (7, 2), (8, 0), (9, 0), (10, 0), (11, 0), (12, 0)] Try_mo (by kernel_rfl) hs (fun w32 hs33 => ?_)
    refine d_take rfl want_none rfl hs33 (fun _ hq => (y_loadN (vs := [_, _, _]) Try.isAgg26 Try.sizeOf26 hq rfl rfl hbx)) ?_
    refine d_take rfl want_none rfl hs33 (fun _ hq => (y_loadN (vs := [_, _, _]) Try.isAgg26 Try.sizeOf26 hq rfl rfl hbx)) ?_
    refine d_take rfl want_none rfl hs33 (fun _ hq => (y_loadN (vs := [_, _, _]) Try.isAgg26 Try.sizeOf26 hq rfl rfl hbx)) ?_
    refine d_take rfl want_none rfl hs33 (fun _ hq => (y_loadN (vs := [_, _, _]) Try.isAgg26 Try.sizeOf26 hq rfl rfl hbx)) ?_
    refine d_eff rfl ?_
    refine w_call want_none Try.call37 rfl rfl rfl rfl (c37 m _ hm.cons hok  hs33) ?_
    rintro _ w35 ⟨BL, a_BL, c_BL, rfl, hs_BL, hs36⟩
    replace hs36 := (show St _ _ (BL ++ (_ :: F)) from hs36)
    refine w_nil ?_
    refine qn ⟨hs36.drop, ?_⟩
    refine d_eff rfl ?_
    refine w_call want_none Try.call72 rfl rfl rfl rfl (c72 m _ hm.cons.app hok  hs36) ?_
    rintro _ w38 ⟨BW, a_BW, c_BW, rfl, hs_BW, hs39⟩
    replace hs39 := (show St _ _ (BW ++ (BL ++ (_ :: F))) from hs39)
    refine w_nil ?_
    refine qn ⟨hs39.drop.drop, ?_⟩
    refine d_eff rfl ?_
    refine w_call want_none Try.call48 rfl rfl rfl rfl (c48 m _ hm.cons.app.app hok  hs39) ?_
    rintro _ w41 ⟨AB, a_AB, c_AB, rfl, hs_AB, hs42⟩
    replace hs42 := (show St _ _ (AB ++ (BW ++ (BL ++ (_ :: F)))) from hs42)
    refine w_nil ?_
    refine qn ⟨hs42.drop.drop.drop, ?_⟩
    refine d_eff rfl ?_
    refine w_call want_none Try.call71 rfl rfl rfl rfl (c71 m _ hm.cons.app.app.app hok _ _ (leastL m) (List.length_map _) hs_BL.top.app.app (leastL_in hok) _ _ (wantsL m) (List.length_map _) hs_BW.top.app (wantsL_in hok) _ _ (othersTo [] m.shops.length) (by omega) hs_AB.top hoi 0 (Nat.zero_le _) hs42) ?_
    rintro _ w44 ⟨BX, aX, cX, rfl, hsX, hs45⟩
    replace hs45 := (show St _ _ (BX ++ (AB ++ (BW ++ (BL ++ (_ :: F))))) from hs45)
    refine w_nil ?_
    refine qn ⟨hs45.drop.drop.drop.drop, ?_⟩
    refine d_any rfl want_none rfl (fun _ => (y_move (v := .tuple _) rfl rfl)) ?_
    refine d_any rfl want_none rfl (fun _ => (y_extract (v := .slice _ _ _) rfl rfl rfl)) ?_
    refine d_any rfl want_none rfl (fun _ => (y_extract (v := .int _ _) rfl rfl rfl)) ?_
    refine d_any rfl want_none rfl (fun _ => (y_assign (v := .slice _ _ _) rfl rfl)) ?_
    refine d_any rfl want_none rfl (fun _ => (y_assign (v := .int _ _) rfl rfl)) ?_
    refine d_nil ?_
    refine q_then (hK30 _ _ ?_)
    refine w_seq (fun K47 hK46 => ?_)
    refine w_draw [] [(0, 1), (1, 0), (3, 1), (5, 1), (7, 1), (2, 2), (4, 2), (6, 2), (8, 2), (9, 2), (10, 0), (11, 0), (12, 0), (13, 0), (14, 0)] Try_mo (by kernel_rfl) hs45 (fun w48 hs49 => ?_)
    refine d_take rfl want_none rfl hs49 (fun _ hq => (y_loadN (vs := [_, _, _]) Try.isAgg26 Try.sizeOf26 hq.drop.drop.drop.drop rfl rfl hbx)) ?_
    refine d_any rfl want_none rfl (fun _ => (y_move (v := .int _ _) rfl rfl)) ?_
    refine d_take rfl want_none rfl hs49 (fun _ hq => (y_loadN (vs := [_, _, _]) Try.isAgg26 Try.sizeOf26 hq.drop.drop.drop.drop rfl rfl hbx)) ?_
    refine d_take rfl want_none rfl hs49 (fun _ hq => (y_loadN (vs := [_, _, _]) Try.isAgg26 Try.sizeOf26 hq.drop.drop.drop.drop rfl rfl hbx)) ?_
    refine d_take rfl want_none rfl hs49 (fun _ hq => (y_loadN (vs := [_, _, _]) Try.isAgg26 Try.sizeOf26 hq.drop.drop.drop.drop rfl rfl hbx)) ?_
    refine d_eff rfl ?_
    refine w_call want_none Try.call52 rfl rfl rfl rfl (c52 m _ hm.cons.app.app.app.app q (by omega) (fun y hy => by have := hok.train y hy; omega) hlt hs49) ?_
    rintro _ w51 ⟨BS2, p2, rfl, hm2, hs52⟩
    replace hs52 := (show St _ _ (BS2 ++ (BX ++ (AB ++ (BW ++ (BL ++ (_ :: F)))))) from hs52)
    refine w_nil ?_
    refine qn ⟨hs52.drop, ?_⟩
    refine d_eff rfl ?_
    refine w_call want_none Try.call37 rfl rfl rfl rfl (c37 m _ hm.cons.app.app.app.app.app hok  hs52) ?_
    rintro _ w54 ⟨BL2, a_BL2, c_BL2, rfl, hs_BL2, hs55⟩
    replace hs55 := (show St _ _ (BL2 ++ (BS2 ++ (BX ++ (AB ++ (BW ++ (BL ++ (_ :: F))))))) from hs55)
    refine w_nil ?_
    refine qn ⟨hs55.drop.drop, ?_⟩
    refine d_eff rfl ?_
    refine w_call want_none Try.call72 rfl rfl rfl rfl (c72 m _ hm.cons.app.app.app.app.app.app hok  hs55) ?_
    rintro _ w57 ⟨BW2, a_BW2, c_BW2, rfl, hs_BW2, hs58⟩
    replace hs58 := (show St _ _ (BW2 ++ (BL2 ++ (BS2 ++ (BX ++ (AB ++ (BW ++ (BL ++ (_ :: F)))))))) from hs58)
    refine w_nil ?_
    refine qn ⟨hs58.drop.drop.drop, ?_⟩
    refine d_eff rfl ?_
    refine w_call want_none Try.call48 rfl rfl rfl rfl (c48 m _ hm.cons.app.app.app.app.app.app.app hok  hs58) ?_
    rintro _ w60 ⟨AB2, a_AB2, c_AB2, rfl, hs_AB2, hs61⟩
    replace hs61 := (show St _ _ (AB2 ++ (BW2 ++ (BL2 ++ (BS2 ++ (BX ++ (AB ++ (BW ++ (BL ++ (_ :: F))))))))) from hs61)
    refine w_nil ?_
    refine qn ⟨hs61.drop.drop.drop.drop, ?_⟩
    refine d_eff rfl ?_
    refine w_call want_none Try.call71 rfl rfl rfl rfl (c71 (lateM m q) _ hm2.app.app.app hokl _ _ (leastL m) (List.length_map _) hs_BL2.top.app.app (leastL_in hok) _ _ (wantsL m) (List.length_map _) hs_BW2.top.app (wantsL_in hok) _ _ (othersTo [] m.shops.length) (by omega) hs_AB2.top hoi 0 (Nat.zero_le _) hs61) ?_
    rintro _ w63 ⟨BX2, aX2, cX2, rfl, hsX2, hs64⟩
    replace hs64 := (show St _ _ (BX2 ++ (AB2 ++ (BW2 ++ (BL2 ++ (BS2 ++ (BX ++ (AB ++ (BW ++ (BL ++ (_ :: F)))))))))) from hs64)
    refine w_nil ?_
    refine qn ⟨hs64.drop.drop.drop.drop.drop, ?_⟩
    refine d_any rfl want_none rfl (fun _ => (y_move (v := .tuple _) rfl rfl)) ?_
    refine d_any rfl want_none rfl (fun _ => (y_extract (v := .slice _ _ _) rfl rfl rfl)) ?_
    refine d_any rfl want_none rfl (fun _ => (y_extract (v := .int _ _) rfl rfl rfl)) ?_
    refine d_any rfl want_none rfl (fun _ => (y_assign (v := .slice _ _ _) rfl rfl)) ?_
    refine d_any rfl want_none rfl (fun _ => (y_assign (v := .int _ _) rfl rfl)) ?_
    refine d_nil ?_
    refine q_then (hK46 _ _ ?_)
    refine w_seq (fun K66 hK65 => ?_)
    refine w_region ?_
    refine w_pure want_none (y_move (v := .int _ _) rfl rfl) rfl ?_
    refine w_pure want_none (y_move (v := .int _ _) rfl rfl) rfl ?_
    refine w_pure want_none (y_sub rfl rfl rfl rfl (by omega) (by omega)) rfl ?_
    refine w_pure want_none (y_max2 rfl rfl rfl rfl) rfl ?_
    refine w_pure want_none (y_assign (v := .int _ _) rfl rfl) rfl ?_
    refine w_pure want_none (y_assign (v := _) rfl rfl) rfl ?_
    refine w_nil ?_
    refine q_then (hK65 _ _ ?_)
    refine w_ret ?_
    refine q_ret (l := [.tmp 4, .tmp 5]) (vs := [_, _]) rfl ⟨⟨rfl, show _ = (.int _ _ : Value) from rfl⟩, ⟨rfl, show _ = (.int _ _ : Value) from rfl⟩, trivial⟩ ?_
    first
      | exact ⟨by rw [lateR_1 (by assumption)]; rfl, hs64.drop.drop.drop.drop.drop.drop.drop.drop.drop.tail⟩
      | exact ⟨by rw [lateR_2 hee]; rfl, hs64.drop.drop.drop.drop.drop.drop.drop.drop.drop.tail⟩

end Go.Proofs
/- Walks of this seat, printed by gen.py over the engine: what each function returns, in whatever world. No conditions but those of each contract. -/
set_option linter.unusedVariables false
set_option linter.unusedSimpArgs false
set_option maxRecDepth 20000
namespace Go.Proofs
open Go.Rt Go.Rt.Sh
attribute [local irreducible] WL WC Con Yd At Ats Sl Agree DW

theorem proof_short (m : Market) (l : List Int) : (proofP m l).1.length ≤ m.shops.length := by
  unfold proofP
  split
  · simp
  · split
    · simp
    · exact worstTo_len _ _ _ _
theorem c4 {w0 w : World} {F : List (Nat × Obj)} (m : Market) (p : At3) (hm : MIn w0 F m p) (al : Option Addr) (cl : Nat) (l : List Int) (hll : l.length ≤ 9223372036854775807) (hl : Sl w0 F al 1 (l.map fun x => [Value.int .i64 x]))  (hs : St w0 w F) :
  Con Try.prog 4 [.agg (m.cells p).toArray, .slice al l.length cl] w fun v w' => v = .bool true ∧ St w0 w' F := by
  refine con_of_wc (n := 61) Try.func4 rfl rfl (Nat.le_of_ble_eq_true rfl) ?_
  have hls := hm.ls
  refine w_seq (fun K2 hK1 => ?_)
  refine w_region ?_
  refine w_box (v := .agg #[.slice _ _ _, .slice _ _ _, .slice _ _ _]) (cs := [_, _, _]) want_none rfl rfl rfl hs (fun b3 w4 hs5 => ?_)
  refine w_pure want_none (y_assign (v := _) rfl rfl) rfl ?_
  refine w_nil ?_
  refine q_then (hK1 _ _ ?_)
  refine w_seq (fun K7 hK6 => ?_)
  have hbx : Ats w0 ((b3, blk 26 (m.cells p)) :: F) b3 0 (m.cells p) := ats_own (i := 0) (vs := m.cells p) rfl rfl
  refine w_region ?_
  refine w_pure want_none (y_loadN (vs := [_, _, _]) Try.isAgg26 Try.sizeOf26 hs5 rfl rfl hbx) rfl ?_
  refine w_pure want_none (y_move (v := .slice _ _ _) rfl rfl) rfl ?_
  refine w_call want_none Try.call22 rfl rfl rfl rfl (c22 m _ hm.cons _ _ l hll hl.cons hs5) ?_
  rintro _ w9 ⟨rfl, hs10⟩
  refine w_pure want_none (y_move (v := .tuple _) rfl rfl) rfl ?_
  refine w_pure want_none (y_extract (v := .int _ _) rfl rfl rfl) rfl ?_
  refine w_pure want_none (y_extract (v := .int _ _) rfl rfl rfl) rfl ?_
  refine w_pure want_none (y_assign (v := .int _ _) rfl rfl) rfl ?_
  refine w_pure want_none (y_assign (v := .int _ _) rfl rfl) rfl ?_
  refine w_nil ?_
  refine q_then (hK6 _ _ ?_)
  refine w_seq (fun K12 hK11 => ?_)
  refine w_region ?_
  refine w_pure want_none (y_loadN (vs := [_, _, _]) Try.isAgg26 Try.sizeOf26 hs10 rfl rfl hbx) rfl ?_
  refine w_pure want_none (y_move (v := .slice _ _ _) rfl rfl) rfl ?_
  refine w_call want_none Try.call23 rfl rfl rfl rfl ((c23 m _ hm.cons _ _ l hll hl.cons hs10).mono (fun v w' h => by rw [can_same] at h; exact h)) ?_
  rintro _ w14 ⟨rfl, hs15⟩
  refine w_pure want_none (y_move (v := .tuple _) rfl rfl) rfl ?_
  refine w_pure want_none (y_extract (v := .int _ _) rfl rfl rfl) rfl ?_
  refine w_pure want_none (y_extract (v := .int _ _) rfl rfl rfl) rfl ?_
  refine w_pure want_none (y_assign (v := .int _ _) rfl rfl) rfl ?_
  refine w_pure want_none (y_assign (v := .int _ _) rfl rfl) rfl ?_
  refine w_nil ?_
  refine q_then (hK11 _ _ ?_)
  refine w_seq (fun K17 hK16 => ?_)
  refine w_seq (fun K19 hK18 => ?_)
  refine w_region ?_
  refine w_pure want_none (y_move (v := .int _ _) rfl rfl) rfl ?_
  refine w_pure want_none (y_move (v := .int _ _) rfl rfl) rfl ?_
  refine w_pure want_none (y_neq rfl rfl rfl rfl) rfl ?_
  refine w_pure want_none (y_move (v := .bool _) rfl rfl) rfl ?_
  refine w_split (fun h20 => ?_) (fun h20 => ?_)
  ·
   exfalso; simp at h20
  ·
   try simp only [Bool.not_eq_true', Bool.not_eq_false', decide_eq_true_eq, decide_eq_false_iff_not, Int.not_lt, Int.not_le] at h20
   refine w_pure (want_yes rfl rfl rfl) (y_move (v := .int _ _) rfl rfl) rfl ?_
   refine w_pure (want_yes rfl rfl rfl) (y_move (v := .int _ _) rfl rfl) rfl ?_
   refine w_pure (want_yes rfl rfl rfl) (y_neq rfl rfl rfl rfl) rfl ?_
   refine w_pure want_none (y_pickF (v := .bool _) rfl rfl rfl rfl) rfl ?_
   refine w_nil ?_
   refine q_then (hK18 _ _ ?_)
   refine w_cond rfl rfl (fun h21 => ?_) (fun h21 => ?_)
   ·
    exfalso; simp at h21
   ·
    try simp only [Bool.not_eq_true', Bool.not_eq_false', decide_eq_true_eq, decide_eq_false_iff_not, Int.not_lt, Int.not_le] at h21
    refine w_skip ?_
    refine q_then (hK16 _ _ ?_)
    refine w_seq (fun K23 hK22 => ?_)
    refine w_region ?_
    refine w_pure want_none (y_loadN (vs := [_, _, _]) Try.isAgg26 Try.sizeOf26 hs15 rfl rfl hbx) rfl ?_
    refine w_pure want_none (y_move (v := .slice _ _ _) rfl rfl) rfl ?_
    refine w_call want_none Try.call24 rfl rfl rfl rfl (c24 m _ hm.cons _ _ l hll hl.cons hs15) ?_
    rintro _ w25 ⟨B1, a1, c1, rfl, hq1, hs26⟩
    replace hs26 := (show St _ _ (B1 ++ (_ :: F)) from hs26)
    refine w_pure want_none (y_move (v := .tuple _) rfl rfl) rfl ?_
    refine w_pure want_none (y_extract (v := .slice _ _ _) rfl rfl rfl) rfl ?_
    refine w_pure want_none (y_extract (v := .int _ _) rfl rfl rfl) rfl ?_
    refine w_pure want_none (y_extract (v := .int _ _) rfl rfl rfl) rfl ?_
    refine w_pure want_none (y_assign (v := .slice _ _ _) rfl rfl) rfl ?_
    refine w_pure want_none (y_assign (v := .int _ _) rfl rfl) rfl ?_
    refine w_pure want_none (y_assign (v := .int _ _) rfl rfl) rfl ?_
    refine w_nil ?_
    refine q_then (hK22 _ _ ?_)
    refine w_seq (fun K28 hK27 => ?_)
    refine w_region ?_
    refine w_pure want_none (y_loadN (vs := [_, _, _]) Try.isAgg26 Try.sizeOf26 hs26.drop rfl rfl hbx) rfl ?_
    refine w_pure want_none (y_move (v := .slice _ _ _) rfl rfl) rfl ?_
    refine w_call want_none Try.call25 rfl rfl rfl rfl ((c25 m _ hm.cons.app _ _ l hll hl.cons.app hs26).mono (fun v w' h => by rw [proof_same] at h; exact h)) ?_
    rintro _ w30 ⟨B2, a2, c2, rfl, hq2, hs31⟩
    replace hs31 := (show St _ _ (B2 ++ (B1 ++ (_ :: F))) from hs31)
    refine w_pure want_none (y_move (v := .tuple _) rfl rfl) rfl ?_
    refine w_pure want_none (y_extract (v := .slice _ _ _) rfl rfl rfl) rfl ?_
    refine w_pure want_none (y_extract (v := .int _ _) rfl rfl rfl) rfl ?_
    refine w_pure want_none (y_extract (v := .int _ _) rfl rfl rfl) rfl ?_
    refine w_pure want_none (y_assign (v := .slice _ _ _) rfl rfl) rfl ?_
    refine w_pure want_none (y_assign (v := .int _ _) rfl rfl) rfl ?_
    refine w_pure want_none (y_assign (v := .int _ _) rfl rfl) rfl ?_
    refine w_nil ?_
    refine q_then (hK27 _ _ ?_)
    refine w_seq (fun K33 hK32 => ?_)
    refine w_region ?_
    refine w_pure want_none (y_move (v := .slice _ _ _) rfl rfl) rfl ?_
    refine w_pure want_none (y_move (v := .slice _ _ _) rfl rfl) rfl ?_
    refine w_call want_none Try.call20 rfl rfl rfl rfl (c20 _ _ (proofP m l).1 (proofP m l).1 _ _ (by have := proof_short m l; omega) hq1.top.app hq2.top hs31) ?_
    rintro _ w35 ⟨rfl, hs36⟩
    refine w_pure want_none (y_move (v := .bool _) rfl rfl) rfl ?_
    refine w_split (fun h37 => ?_) (fun h37 => ?_)
    ·
     try simp only [Bool.not_eq_true', Bool.not_eq_false', decide_eq_true_eq, decide_eq_false_iff_not, Int.not_lt, Int.not_le] at h37
     refine w_pure (want_yes rfl rfl rfl) (y_move (v := .int _ _) rfl rfl) rfl ?_
     refine w_pure (want_yes rfl rfl rfl) (y_move (v := .int _ _) rfl rfl) rfl ?_
     refine w_pure (want_yes rfl rfl rfl) (y_eql rfl rfl rfl rfl) rfl ?_
     refine w_pure want_none (y_pickT (v := .bool _) rfl rfl rfl rfl) rfl ?_
     refine w_pure want_none (y_move (v := .bool _) rfl rfl) rfl ?_
     refine w_split (fun h38 => ?_) (fun h38 => ?_)
     ·
      try simp only [Bool.not_eq_true', Bool.not_eq_false', decide_eq_true_eq, decide_eq_false_iff_not, Int.not_lt, Int.not_le] at h38
      refine w_pure (want_yes rfl rfl rfl) (y_move (v := .int _ _) rfl rfl) rfl ?_
      refine w_pure (want_yes rfl rfl rfl) (y_move (v := .int _ _) rfl rfl) rfl ?_
      refine w_pure (want_yes rfl rfl rfl) (y_eql rfl rfl rfl rfl) rfl ?_
      refine w_pure want_none (y_pickT (v := .bool _) rfl rfl rfl rfl) rfl ?_
      refine w_pure want_none (y_move (v := .bool _) rfl rfl) rfl ?_
      refine w_split (fun h39 => ?_) (fun h39 => ?_)
      ·
       try simp only [Bool.not_eq_true', Bool.not_eq_false', decide_eq_true_eq, decide_eq_false_iff_not, Int.not_lt, Int.not_le] at h39
       refine w_call (want_yes rfl rfl rfl) Try.call21 rfl rfl rfl rfl (c21 hs36) ?_
       rintro _ w41 ⟨rfl, hs42⟩
       refine w_pure want_none (y_pickT (v := .bool _) rfl rfl rfl rfl) rfl ?_
       refine w_pure want_none (y_assign (v := .bool _) rfl rfl) rfl ?_
       refine w_nil ?_
       refine q_then (hK32 _ _ ?_)
       refine w_ret ?_
       refine q_ret (l := [.tmp 4]) (vs := [_]) rfl ⟨⟨rfl, show _ = (.bool _ : Value) from rfl⟩, trivial⟩ ?_
       exact ⟨rfl, hs42.drop.drop.tail⟩
      ·
       exfalso; simp at h39
     ·
      exfalso; simp at h38
    ·
     exfalso; simp at h37

end Go.Proofs
/- Walks of this seat, printed by gen.py over the engine: what each function returns, in whatever world. No conditions but those of each contract. -/
set_option linter.unusedVariables false
set_option linter.unusedSimpArgs false
set_option maxRecDepth 20000
namespace Go.Proofs
open Go.Rt Go.Rt.Sh
attribute [local irreducible] WL WC Con Yd At Ats Sl Agree DW
theorem Try_Zh_fb6 (x0 : Int) (w : World) : (Instr.buildSlice 30 1 [(0, .int .i64 x0)].toArray).run Try.prog w = .ok (.slice (some ⟨w.heap.size, 0, none⟩) 1 1) (w.alloc (Go.Rt.blk 3 [.int .i64 x0])) := by kernel_rfl
theorem c37n {w0 w : World} {F : List (Nat × Obj)} (m : Market) (p : At3) (hm : MIn w0 F m p) (hok : m.Ok) (hs : St w0 w F) :
  Con Try.prog 37 [.agg (m.cells p).toArray] w fun v w' => ∃ B a c, v = .slice a (m.rooms.map (·.lo)).length c ∧ Sl w0 B a 1 ((m.rooms.map (·.lo)).map fun x => [Value.int .i64 x]) ∧ (a = none → c = 0) ∧ St w0 w' (B ++ F) := by
  refine con_of_wc (n := 23) Try.func37 rfl rfl (Nat.le_of_ble_eq_true rfl) ?_
  obtain ⟨ar, cr, as_, cs, at_, ct⟩ := p
  have hlr := hok.lr
  have hls := hok.ls
  refine w_seq (fun K2 hK1 => ?_)
  refine w_region ?_
  refine w_box (v := .agg #[.slice _ _ _, .slice _ _ _, .slice _ _ _]) (cs := [_, _, _]) want_none rfl rfl rfl hs (fun b3 w4 hs5 => ?_)
  refine w_pure want_none (y_assign (v := _) rfl rfl) rfl ?_
  refine w_nil ?_
  refine q_then (hK1 _ _ ?_)
  refine w_seq (fun K7 hK6 => ?_)
  refine w_region ?_
  refine w_pure want_none (y_assign (v := _) rfl rfl) rfl ?_
  refine w_nil ?_
  refine q_then (hK6 _ _ ?_)
  refine w_seq (fun K9 hK8 => ?_)
  refine w_seq (fun K11 hK10 => ?_)
  refine w_region ?_
  refine w_pure want_none (y_assign (v := _) rfl rfl) rfl ?_
  refine w_nil ?_
  refine q_then (hK10 _ _ ?_)
  refine w_block ?_
  refine w_loop [3, 4, 5, 6, 7, 8, 9, 10, 11, 12, 13, 14, 15, 16, 17, 18, 19, 20, 21] [3, 4] (fun k vs w => ∃ (i : Nat) (v : Value) (B : List (Nat × Obj)), vs = [v, .int .i64 i] ∧ i ≤ m.rooms.length ∧ k = m.rooms.length - i ∧ Rt.Own v 3 1 ((m.rooms.take i).map (·.lo)).length (iv ((m.rooms.take i).map (·.lo))) B ∧ St w0 w ((b3, blk 26 (m.cells ⟨ar, cr, as_, cs, at_, ct⟩)) :: (B ++ F))) (m.rooms.length) ?_ ?_
  ·
   exact ⟨0, _, [], rfl, by omega, by omega, own_nil 3 1, hs5⟩
  ·
   intro k vs μ w14 hI K13 hN12
   obtain ⟨i, v, B, rfl, hia, rfl, hown, hs⟩ := hI
   refine w_seq (fun K16 hK15 => ?_)
   refine w_seq (fun K18 hK17 => ?_)
   refine w_region ?_
   refine w_pure want_none (y_move (v := .int _ _) rfl rfl) rfl ?_
   refine w_pure want_none (y_fieldAddr (o := 0) (i := 0) Try.underlying26 rfl Try.sizeOf22 rfl rfl rfl) rfl ?_
   refine w_pure want_none (y_load1 Try.isAgg22 hs rfl rfl (ats_own (i := 0) (vs := [_]) rfl rfl)) rfl ?_
   refine w_pure want_none (y_lenS Try.underlying22 rfl rfl) rfl ?_
   refine w_pure want_none (y_lss rfl rfl rfl rfl) rfl ?_
   refine w_nil ?_
   refine q_then (hK17 _ _ ?_)
   refine w_cond rfl rfl (fun h19 => ?_) (fun h19 => ?_)
   ·
    try simp only [Bool.not_eq_true', Bool.not_eq_false', decide_eq_true_eq, decide_eq_false_iff_not, Int.not_lt, Int.not_le] at h19
    refine w_skip ?_
    refine q_then (hK15 _ _ ?_)
    refine w_seq (fun K21 hK20 => ?_)
    refine w_block ?_
    have hi2 : i < m.rooms.length := by omega
    obtain ⟨bx, ox, hbx, hx⟩ := sl_rrows hm.r hi2
    subst hbx
    have hln : ((m.rooms.take i).map (·.lo)).length ≤ i := by rw [List.length_map, List.length_take]; omega
    refine w_region ?_
    refine w_pure want_none (y_move (v := v) rfl rfl) rfl ?_
    refine w_pure want_none (y_fieldAddr (o := 0) (i := 0) Try.underlying26 rfl Try.sizeOf22 rfl rfl rfl) rfl ?_
    refine w_pure want_none (y_load1 Try.isAgg22 hs rfl rfl (ats_own (i := 0) (vs := [_]) rfl rfl)) rfl ?_
    refine w_pure want_none (y_move (v := .int _ _) rfl rfl) rfl ?_
    refine w_pure want_none (y_indexS Try.underlying22 Try.sizeOf69 rfl rfl rfl rfl (i := _) rfl (by omega)) rfl ?_
    refine w_pure want_none (y_fieldAddr (o := 1) (i := 1) Try.underlying69 rfl Try.sizeOf67 rfl rfl rfl) rfl ?_
    refine w_pure want_none (y_fieldAddr (o := 0) (i := 0) Try.underlying67 rfl Try.sizeOf3 rfl rfl rfl) rfl ?_
    refine w_pure want_none (y_load1 Try.isAgg3 hs.tail.drop rfl rfl (show Ats _ _ _ _ [_] from Ats.part hx 1 1)) rfl ?_
    refine w_bslice (ps := [(0, _)]) (pv := [(0, .int _ _)]) (cs := [_]) want_none rfl rfl (fun w => Try_Zh_fb6 _ w) hs (fun b22 w23 hs24 => ?_)
    refine w_append (X := (_ :: _ :: [])) (B := B) (rows := [[_]]) (sz := 1) (bytes := 8) want_none Try.underlying30 Try_info3 rfl rfl rfl rfl rfl rfl rfl rfl rfl hs24 hown (sl_own (i := 0) rfl (by simp) rfl) rfl (by simp) (by simp [Value.oneCell']) (by simp only [maxLen]; omega) (by omega) (fun v25 w26 B27 ho28 hs29 => ?_)
    replace hs29 := (show St _ _ (_ :: _ :: B27 ++ (F)) from hs29)
    refine w_pure want_none (y_assign (v := v25) rfl rfl) rfl ?_
    refine w_nil ?_
    refine q_blk_normal ?_
    refine q_then (hK20 _ _ ?_)
    refine w_region ?_
    refine w_pure want_none (y_move (v := .int _ _) rfl rfl) rfl ?_
    refine w_pure want_none (y_add rfl rfl rfl rfl (by omega) (by omega)) rfl ?_
    refine w_pure want_none (y_assign (v := .int _ _) rfl rfl) rfl ?_
    refine w_nil ?_
    refine q_then (hN12 _ _ (Nx.intro (m.rooms.length - (i + 1)) (by omega) (by repeat (first | exact agree_mix | refine agree_upd rfl ?_ | refine agree_updL rfl ?_ _ | refine agree_mixin rfl ?_)) ?_))
    exact ⟨i + 1, _, _, rfl, by omega, rfl, own_step hi2 ho28, hs29.tail⟩
   ·
    try simp only [Bool.not_eq_true', Bool.not_eq_false', decide_eq_true_eq, decide_eq_false_iff_not, Int.not_lt, Int.not_le] at h19
    refine w_exit ?_
    refine q_then_exit ?_
    refine q_then_exit ?_
    refine q_blk_this ?_
    refine q_then (hK8 _ _ ?_)
    refine w_seq (fun K31 hK30 => ?_)
    refine w_region ?_
    refine w_pure want_none (y_move (v := v) rfl rfl) rfl ?_
    refine w_pure want_none (y_assign (v := v) rfl rfl) rfl ?_
    refine w_nil ?_
    refine q_then (hK30 _ _ ?_)
    refine w_ret ?_
    refine q_ret (l := [.tmp 2]) (vs := [_]) rfl ⟨⟨rfl, show _ = (v : Value) from rfl⟩, trivial⟩ ?_
    have hil : i = m.rooms.length := by omega
    subst hil
    rw [List.take_length] at hown
    obtain ⟨ag, cg, rfl, hsg, hng, _⟩ := own_ints (w0 := w0) hown
    exact ⟨B, ag, cg, rfl, hsg, hng, hs.tail⟩

theorem c47n {w0 w : World} {F : List (Nat × Obj)} (m : Market) (p : At3) (hm : MIn w0 F m p) (hok : m.Ok) (hs : St w0 w F) :
  Con Try.prog 47 [.agg (m.cells p).toArray] w fun v w' => ∃ B a c, v = .slice a (m.rooms.map (·.hi)).length c ∧ Sl w0 B a 1 ((m.rooms.map (·.hi)).map fun x => [Value.int .i64 x]) ∧ (a = none → c = 0) ∧ St w0 w' (B ++ F) := by
  refine con_of_wc (n := 23) Try.func47 rfl rfl (Nat.le_of_ble_eq_true rfl) ?_
  obtain ⟨ar, cr, as_, cs, at_, ct⟩ := p
  have hlr := hok.lr
  have hls := hok.ls
  refine w_seq (fun K2 hK1 => ?_)
  refine w_region ?_
  refine w_box (v := .agg #[.slice _ _ _, .slice _ _ _, .slice _ _ _]) (cs := [_, _, _]) want_none rfl rfl rfl hs (fun b3 w4 hs5 => ?_)
  refine w_pure want_none (y_assign (v := _) rfl rfl) rfl ?_
  refine w_nil ?_
  refine q_then (hK1 _ _ ?_)
  refine w_seq (fun K7 hK6 => ?_)
  refine w_region ?_
  refine w_pure want_none (y_assign (v := _) rfl rfl) rfl ?_
  refine w_nil ?_
  refine q_then (hK6 _ _ ?_)
  refine w_seq (fun K9 hK8 => ?_)
  refine w_seq (fun K11 hK10 => ?_)
  refine w_region ?_
  refine w_pure want_none (y_assign (v := _) rfl rfl) rfl ?_
  refine w_nil ?_
  refine q_then (hK10 _ _ ?_)
  refine w_block ?_
  refine w_loop [3, 4, 5, 6, 7, 8, 9, 10, 11, 12, 13, 14, 15, 16, 17, 18, 19, 20, 21] [3, 4] (fun k vs w => ∃ (i : Nat) (v : Value) (B : List (Nat × Obj)), vs = [v, .int .i64 i] ∧ i ≤ m.rooms.length ∧ k = m.rooms.length - i ∧ Rt.Own v 3 1 ((m.rooms.take i).map (·.hi)).length (iv ((m.rooms.take i).map (·.hi))) B ∧ St w0 w ((b3, blk 26 (m.cells ⟨ar, cr, as_, cs, at_, ct⟩)) :: (B ++ F))) (m.rooms.length) ?_ ?_
  ·
   exact ⟨0, _, [], rfl, by omega, by omega, own_nil 3 1, hs5⟩
  ·
   intro k vs μ w14 hI K13 hN12
   obtain ⟨i, v, B, rfl, hia, rfl, hown, hs⟩ := hI
   refine w_seq (fun K16 hK15 => ?_)
   refine w_seq (fun K18 hK17 => ?_)
   refine w_region ?_
   refine w_pure want_none (y_move (v := .int _ _) rfl rfl) rfl ?_
   refine w_pure want_none (y_fieldAddr (o := 0) (i := 0) Try.underlying26 rfl Try.sizeOf22 rfl rfl rfl) rfl ?_
   refine w_pure want_none (y_load1 Try.isAgg22 hs rfl rfl (ats_own (i := 0) (vs := [_]) rfl rfl)) rfl ?_
   refine w_pure want_none (y_lenS Try.underlying22 rfl rfl) rfl ?_
   refine w_pure want_none (y_lss rfl rfl rfl rfl) rfl ?_
   refine w_nil ?_
   refine q_then (hK17 _ _ ?_)
   refine w_cond rfl rfl (fun h19 => ?_) (fun h19 => ?_)
   ·
    try simp only [Bool.not_eq_true', Bool.not_eq_false', decide_eq_true_eq, decide_eq_false_iff_not, Int.not_lt, Int.not_le] at h19
    refine w_skip ?_
    refine q_then (hK15 _ _ ?_)
    refine w_seq (fun K21 hK20 => ?_)
    refine w_block ?_
    have hi2 : i < m.rooms.length := by omega
    obtain ⟨bx, ox, hbx, hx⟩ := sl_rrows hm.r hi2
    subst hbx
    have hln : ((m.rooms.take i).map (·.hi)).length ≤ i := by rw [List.length_map, List.length_take]; omega
    refine w_region ?_
    refine w_pure want_none (y_move (v := v) rfl rfl) rfl ?_
    refine w_pure want_none (y_fieldAddr (o := 0) (i := 0) Try.underlying26 rfl Try.sizeOf22 rfl rfl rfl) rfl ?_
    refine w_pure want_none (y_load1 Try.isAgg22 hs rfl rfl (ats_own (i := 0) (vs := [_]) rfl rfl)) rfl ?_
    refine w_pure want_none (y_move (v := .int _ _) rfl rfl) rfl ?_
    refine w_pure want_none (y_indexS Try.underlying22 Try.sizeOf69 rfl rfl rfl rfl (i := _) rfl (by omega)) rfl ?_
    refine w_pure want_none (y_fieldAddr (o := 1) (i := 1) Try.underlying69 rfl Try.sizeOf67 rfl rfl rfl) rfl ?_
    refine w_pure want_none (y_fieldAddr (o := 1) (i := 1) Try.underlying67 rfl Try.sizeOf3 rfl rfl rfl) rfl ?_
    refine w_pure want_none (y_load1 Try.isAgg3 hs.tail.drop rfl rfl (show Ats _ _ _ _ [_] from Ats.part hx 2 1)) rfl ?_
    refine w_bslice (ps := [(0, _)]) (pv := [(0, .int _ _)]) (cs := [_]) want_none rfl rfl (fun w => Try_Zh_fb6 _ w) hs (fun b22 w23 hs24 => ?_)
    refine w_append (X := (_ :: _ :: [])) (B := B) (rows := [[_]]) (sz := 1) (bytes := 8) want_none Try.underlying30 Try_info3 rfl rfl rfl rfl rfl rfl rfl rfl rfl hs24 hown (sl_own (i := 0) rfl (by simp) rfl) rfl (by simp) (by simp [Value.oneCell']) (by simp only [maxLen]; omega) (by omega) (fun v25 w26 B27 ho28 hs29 => ?_)
    replace hs29 := (show St _ _ (_ :: _ :: B27 ++ (F)) from hs29)
    refine w_pure want_none (y_assign (v := v25) rfl rfl) rfl ?_
    refine w_nil ?_
    refine q_blk_normal ?_
    refine q_then (hK20 _ _ ?_)
    refine w_region ?_
    refine w_pure want_none (y_move (v := .int _ _) rfl rfl) rfl ?_
    refine w_pure want_none (y_add rfl rfl rfl rfl (by omega) (by omega)) rfl ?_
    refine w_pure want_none (y_assign (v := .int _ _) rfl rfl) rfl ?_
    refine w_nil ?_
    refine q_then (hN12 _ _ (Nx.intro (m.rooms.length - (i + 1)) (by omega) (by repeat (first | exact agree_mix | refine agree_upd rfl ?_ | refine agree_updL rfl ?_ _ | refine agree_mixin rfl ?_)) ?_))
    exact ⟨i + 1, _, _, rfl, by omega, rfl, own_step hi2 ho28, hs29.tail⟩
   ·
    try simp only [Bool.not_eq_true', Bool.not_eq_false', decide_eq_true_eq, decide_eq_false_iff_not, Int.not_lt, Int.not_le] at h19
    refine w_exit ?_
    refine q_then_exit ?_
    refine q_then_exit ?_
    refine q_blk_this ?_
    refine q_then (hK8 _ _ ?_)
    refine w_seq (fun K31 hK30 => ?_)
    refine w_region ?_
    refine w_pure want_none (y_move (v := v) rfl rfl) rfl ?_
    refine w_pure want_none (y_assign (v := v) rfl rfl) rfl ?_
    refine w_nil ?_
    refine q_then (hK30 _ _ ?_)
    refine w_ret ?_
    refine q_ret (l := [.tmp 2]) (vs := [_]) rfl ⟨⟨rfl, show _ = (v : Value) from rfl⟩, trivial⟩ ?_
    have hil : i = m.rooms.length := by omega
    subst hil
    rw [List.take_length] at hown
    obtain ⟨ag, cg, rfl, hsg, hng, _⟩ := own_ints (w0 := w0) hown
    exact ⟨B, ag, cg, rfl, hsg, hng, hs.tail⟩

theorem got_con {w0 w : World} {F : List (Nat × Obj)} (m : Market) (p : At3) (hm : MIn w0 F m p) (hok : m.Ok) (al : Option Addr) (cl : Nat) (l : List Int) (n : Nat) (hn : l.length ≤ 1000) (hln : l.length = n) (hlt : n ≤ m.trains.length) (hl : Sl w0 F al 1 (l.map fun x => [Value.int .i64 x])) (hlb : ∀ z ∈ l, 0 ≤ z ∧ z ≤ 60) (hs : St w0 w F) :
    Con Try.prog 40 [.agg (m.cells p).toArray, .slice al l.length cl] w fun v w' => ∃ B a c, v = .slice a (gotTo m l n).length c ∧ Sl w0 B a 1 ((gotTo m l n).map fun x => [Value.int .i64 x]) ∧ St w0 w' (B ++ F) := by
  subst hln; exact c40 m p hm hok al cl l (by omega) hl hlt hlb hs
theorem c9 {w0 w : World} {F : List (Nat × Obj)} (m : Market) (p : At3) (hm : MIn w0 F m p) (z : Int) (hz : 0 ≤ z ∧ z ≤ 255) (ax : Option Addr) (cx : Nat) (x : List Int) (hxl : x.length ≤ 9223372036854775807) (hxs : Sl w0 F ax 1 (x.map fun n => [Value.int .u8 n])) (hxr : ∀ z ∈ x, 0 ≤ z ∧ z ≤ 255) (hs : St w0 w F) :
  Con Try.prog 9 [.agg (m.cells p).toArray, .int .u8 z, .slice ax x.length cx] w fun v w' => v = .bool true ∧ St w0 w' F := by
  refine con_of_wc (n := 134) Try.func9 rfl rfl (Nat.le_of_ble_eq_true rfl) ?_
  obtain ⟨b, hb⟩ : ∃ b : Nat, z = (b : Int) := ⟨z.toNat, by omega⟩
  subst hb
  refine w_seq (fun K2 hK1 => ?_)
  refine w_region ?_
  refine w_box (v := .agg #[.slice _ _ _, .slice _ _ _, .slice _ _ _]) (cs := [_, _, _]) want_none rfl rfl rfl hs (fun b3 w4 hs5 => ?_)
  refine w_pure want_none (y_assign (v := _) rfl rfl) rfl ?_
  refine w_nil ?_
  refine q_then (hK1 _ _ ?_)
  refine w_seq (fun K7 hK6 => ?_)
  refine w_seq (fun K9 hK8 => ?_)
  have hbx : Ats w0 ((b3, blk 26 (m.cells p)) :: F) b3 0 (m.cells p) := ats_own (i := 0) (vs := m.cells p) rfl rfl
  refine w_region ?_
  refine w_pure want_none (y_loadN (vs := [_, _, _]) Try.isAgg26 Try.sizeOf26 hs5 rfl rfl hbx) rfl ?_
  refine w_call want_none Try.call35 rfl rfl rfl rfl (c35 m _ hm.cons hs5) ?_
  rintro _ w11 ⟨rfl, hs12⟩
  refine w_pure want_none (y_not rfl rfl) rfl ?_
  refine w_nil ?_
  refine q_then (hK8 _ _ ?_)
  refine w_cond rfl rfl (fun h13 => ?_) (fun h13 => ?_)
  ·
   try simp only [Bool.not_eq_true', Bool.not_eq_false', decide_eq_true_eq, decide_eq_false_iff_not, Int.not_lt, Int.not_le] at h13
   refine w_seq (fun K15 hK14 => ?_)
   have hck : (check m).2.2 ≠ 0 := by first | assumption | (intro h0; simp_all)
   refine w_region ?_
   refine w_pure want_none (y_loadN (vs := [_, _, _]) Try.isAgg26 Try.sizeOf26 hs12 rfl rfl hbx) rfl ?_
   refine w_call want_none Try.call24 rfl rfl rfl rfl (c24 m _ hm.cons none 0 [] (by simp) (Sl.nil _ _) hs12) ?_
   rintro _ w17 ⟨B1, a1, c1, rfl, hq1, hs18⟩
   replace hs18 := (show St _ _ (B1 ++ (_ :: F)) from hs18)
   refine w_pure want_none (y_move (v := .tuple _) rfl rfl) rfl ?_
   refine w_pure want_none (y_extract (v := .slice _ _ _) rfl rfl rfl) rfl ?_
   refine w_pure want_none (y_extract (v := .int _ _) rfl rfl rfl) rfl ?_
   refine w_pure want_none (y_extract (v := .int _ _) rfl rfl rfl) rfl ?_
   refine w_pure want_none (y_assign (v := .slice _ _ _) rfl rfl) rfl ?_
   refine w_pure want_none (y_assign (v := .int _ _) rfl rfl) rfl ?_
   refine w_pure want_none (y_assign (v := .int _ _) rfl rfl) rfl ?_
   refine w_nil ?_
   refine q_then (hK14 _ _ ?_)
   refine w_seq (fun K20 hK19 => ?_)
   refine w_region ?_
   refine w_pure want_none (y_move (v := .int _ _) rfl rfl) rfl ?_
   refine w_pure want_none (y_neq rfl rfl rfl rfl) rfl ?_
   refine w_pure want_none (y_move (v := .bool _) rfl rfl) rfl ?_
   refine w_split (fun h21 => ?_) (fun h21 => ?_)
   ·
    try simp only [Bool.not_eq_true', Bool.not_eq_false', decide_eq_true_eq, decide_eq_false_iff_not, Int.not_lt, Int.not_le] at h21
    refine w_call (want_yes rfl rfl rfl) Try.call21 rfl rfl rfl rfl (c21 hs18) ?_
    rintro _ w23 ⟨rfl, hs24⟩
    refine w_pure want_none (y_pickT (v := .bool _) rfl rfl rfl rfl) rfl ?_
    refine w_pure want_none (y_assign (v := .bool _) rfl rfl) rfl ?_
    refine w_nil ?_
    refine q_then (hK19 _ _ ?_)
    refine w_ret ?_
    refine q_then_ret ?_
    refine q_ret (l := [.tmp 6]) (vs := [_]) rfl ⟨⟨rfl, show _ = (.bool _ : Value) from rfl⟩, trivial⟩ ?_
    exact ⟨rfl, hs24.drop.tail⟩
   ·
    exfalso
    try simp only [Bool.not_eq_true', Bool.not_eq_false', decide_eq_true_eq, decide_eq_false_iff_not, Int.not_lt, Int.not_le] at h21
    exact proofP_bad hck h21
  ·
   try simp only [Bool.not_eq_true', Bool.not_eq_false', decide_eq_true_eq, decide_eq_false_iff_not, Int.not_lt, Int.not_le] at h13
   refine w_skip ?_
   refine q_then (hK6 _ _ ?_)
   refine w_seq (fun K26 hK25 => ?_)
   have hck : (check m).2.2 = 0 := by first | assumption | (refine Decidable.byContradiction fun h0 => ?_; simp_all)
   have hok := check_ok hck
   have hlr := hok.lr
   have hls := hok.ls
   have hlt := hok.lt
   have hF := proved hck b x
   have hbl := listL_le b m.shops.length
   have hsh := proof_short m (listL b m.shops.length)
   obtain ⟨hga1, hga2, hga3⟩ := got_any hok (leastL_fine hok).1 (leastL_fine hok).2 (x := x)
   have hgl := gotTo_len m (anyTo m (leastL m) x m.trains.length).1 m.trains.length
   refine w_region ?_
   refine w_pure want_none (y_loadN (vs := [_, _, _]) Try.isAgg26 Try.sizeOf26 hs12 rfl rfl hbx) rfl ?_
   refine w_pure want_none (y_move (v := .int _ _) rfl rfl) rfl ?_
   refine w_pure want_none (y_u8int (by rw [Try.underlying5]; rfl) Try.underlying3 rfl rfl (by omega) (by omega)) rfl ?_
   refine w_call want_none Try.call43 rfl rfl rfl rfl (c43 m _ hm.cons hok b (by omega) hs12) ?_
   rintro _ w28 ⟨B2, a_B2, c_B2, rfl, hs_B2, hs29⟩
   replace hs29 := (show St _ _ (B2 ++ (_ :: F)) from hs29)
   refine w_pure want_none (y_assign (v := .slice _ _ _) rfl rfl) rfl ?_
   refine w_nil ?_
   refine q_then (hK25 _ _ ?_)
   refine w_seq (fun K31 hK30 => ?_)
   refine w_region ?_
   refine w_pure want_none (y_loadN (vs := [_, _, _]) Try.isAgg26 Try.sizeOf26 hs29.drop rfl rfl hbx) rfl ?_
   refine w_pure want_none (y_move (v := .slice _ _ _) rfl rfl) rfl ?_
   refine w_call want_none Try.call24 rfl rfl rfl rfl (c24 m _ hm.cons.app _ _ (listL b m.shops.length) (by omega) hs_B2.top hs29) ?_
   rintro _ w33 ⟨B3, a3, c3, rfl, hq3, hs34⟩
   replace hs34 := (show St _ _ (B3 ++ (B2 ++ (_ :: F))) from hs34)
   refine w_pure want_none (y_move (v := .tuple _) rfl rfl) rfl ?_
   refine w_pure want_none (y_extract (v := .slice _ _ _) rfl rfl rfl) rfl ?_
   refine w_pure want_none (y_extract (v := .int _ _) rfl rfl rfl) rfl ?_
   refine w_pure want_none (y_extract (v := .int _ _) rfl rfl rfl) rfl ?_
   refine w_pure want_none (y_assign (v := .slice _ _ _) rfl rfl) rfl ?_
   refine w_pure want_none (y_assign (v := .int _ _) rfl rfl) rfl ?_
   refine w_pure want_none (y_assign (v := .int _ _) rfl rfl) rfl ?_
   refine w_nil ?_
   refine q_then (hK30 _ _ ?_)
   refine w_seq (fun K36 hK35 => ?_)
   refine w_region ?_
   refine w_pure want_none (y_loadN (vs := [_, _, _]) Try.isAgg26 Try.sizeOf26 hs34.drop.drop rfl rfl hbx) rfl ?_
   refine w_pure want_none (y_move (v := .slice _ _ _) rfl rfl) rfl ?_
   refine w_call want_none Try.call22 rfl rfl rfl rfl (c22 m _ hm.cons.app.app _ _ (listL b m.shops.length) (by omega) hs_B2.top.app hs34) ?_
   rintro _ w38 ⟨rfl, hs39⟩
   refine w_pure want_none (y_move (v := .tuple _) rfl rfl) rfl ?_
   refine w_pure want_none (y_extract (v := .int _ _) rfl rfl rfl) rfl ?_
   refine w_pure want_none (y_extract (v := .int _ _) rfl rfl rfl) rfl ?_
   refine w_pure want_none (y_assign (v := .int _ _) rfl rfl) rfl ?_
   refine w_pure want_none (y_assign (v := .int _ _) rfl rfl) rfl ?_
   refine w_nil ?_
   refine q_then (hK35 _ _ ?_)
   refine w_seq (fun K41 hK40 => ?_)
   refine w_seq (fun K43 hK42 => ?_)
   refine w_region ?_
   refine w_pure want_none (y_move (v := .int _ _) rfl rfl) rfl ?_
   refine w_pure want_none (y_neq rfl rfl rfl rfl) rfl ?_
   refine w_pure want_none (y_move (v := .bool _) rfl rfl) rfl ?_
   refine w_split (fun h44 => ?_) (fun h44 => ?_)
   ·
    exfalso
    try simp only [Bool.not_eq_true', Bool.not_eq_false', decide_eq_true_eq, decide_eq_false_iff_not, Int.not_lt, Int.not_le] at h44
    exact h44 hF.ok
   ·
    try simp only [Bool.not_eq_true', Bool.not_eq_false', decide_eq_true_eq, decide_eq_false_iff_not, Int.not_lt, Int.not_le] at h44
    refine w_pure (want_yes rfl rfl rfl) (y_move (v := .int _ _) rfl rfl) rfl ?_
    refine w_pure (want_yes rfl rfl rfl) (y_eql rfl rfl rfl rfl) rfl ?_
    refine w_pure (want_yes rfl rfl rfl) (y_move (v := .int _ _) rfl rfl) rfl ?_
    refine w_pure (want_yes rfl rfl rfl) (y_eql rfl rfl rfl rfl) rfl ?_
    refine w_pure (want_yes rfl rfl rfl) (y_neB Try.underlying4 rfl rfl rfl rfl) rfl ?_
    refine w_pure want_none (y_pickF (v := .bool _) rfl rfl rfl rfl) rfl ?_
    refine w_nil ?_
    refine q_then (hK42 _ _ ?_)
    refine w_cond rfl rfl (fun h45 => ?_) (fun h45 => ?_)
    ·
     exfalso
     try simp only [Bool.not_eq_true', Bool.not_eq_false', decide_eq_true_eq, decide_eq_false_iff_not, Int.not_lt, Int.not_le] at h45
     exact h45 (decide_eq_decide.2 hF.iff)
    ·
     try simp only [Bool.not_eq_true', Bool.not_eq_false', decide_eq_true_eq, decide_eq_false_iff_not, Int.not_lt, Int.not_le] at h45
     refine w_skip ?_
     refine q_then (hK40 _ _ ?_)
     refine w_seq (fun K47 hK46 => ?_)
     refine w_seq (fun K49 hK48 => ?_)
     refine w_region ?_
     refine w_pure want_none (y_move (v := .int _ _) rfl rfl) rfl ?_
     refine w_pure want_none (y_neq rfl rfl rfl rfl) rfl ?_
     refine w_nil ?_
     refine q_then (hK48 _ _ ?_)
     refine w_cond rfl rfl (fun h50 => ?_) (fun h50 => ?_)
     ·
      try simp only [Bool.not_eq_true', Bool.not_eq_false', decide_eq_true_eq, decide_eq_false_iff_not, Int.not_lt, Int.not_le] at h50
      refine w_seq (fun K52 hK51 => ?_)
      have hd := hF.down (by assumption)
      refine w_region ?_
      refine w_pure want_none (y_move (v := .int _ _) rfl rfl) rfl ?_
      refine w_pure want_none (y_eql rfl rfl rfl rfl) rfl ?_
      refine w_pure want_none (y_move (v := .bool _) rfl rfl) rfl ?_
      refine w_split (fun h53 => ?_) (fun h53 => ?_)
      ·
       try simp only [Bool.not_eq_true', Bool.not_eq_false', decide_eq_true_eq, decide_eq_false_iff_not, Int.not_lt, Int.not_le] at h53
       refine w_pure (want_yes rfl rfl rfl) (y_move (v := .slice _ _ _) rfl rfl) rfl ?_
       refine w_pure (want_yes rfl rfl rfl) (y_lenS Try.underlying30 rfl rfl) rfl ?_
       refine w_pure (want_yes rfl rfl rfl) (y_eql rfl rfl rfl rfl) rfl ?_
       refine w_pure want_none (y_pickT (v := .bool _) rfl rfl rfl rfl) rfl ?_
       refine w_pure want_none (y_move (v := .bool _) rfl rfl) rfl ?_
       refine w_split (fun h54 => ?_) (fun h54 => ?_)
       ·
        try simp only [Bool.not_eq_true', Bool.not_eq_false', decide_eq_true_eq, decide_eq_false_iff_not, Int.not_lt, Int.not_le] at h54
        refine w_pure (want_yes rfl rfl rfl) (y_move (v := .int _ _) rfl rfl) rfl ?_
        refine w_pure (want_yes rfl rfl rfl) (y_eql rfl rfl rfl rfl) rfl ?_
        refine w_pure want_none (y_pickT (v := .bool _) rfl rfl rfl rfl) rfl ?_
        refine w_pure want_none (y_move (v := .bool _) rfl rfl) rfl ?_
        refine w_split (fun h55 => ?_) (fun h55 => ?_)
        ·
         try simp only [Bool.not_eq_true', Bool.not_eq_false', decide_eq_true_eq, decide_eq_false_iff_not, Int.not_lt, Int.not_le] at h55
         refine w_call (want_yes rfl rfl rfl) Try.call21 rfl rfl rfl rfl (c21 hs39) ?_
         rintro _ w57 ⟨rfl, hs58⟩
         refine w_pure want_none (y_pickT (v := .bool _) rfl rfl rfl rfl) rfl ?_
         refine w_pure want_none (y_assign (v := .bool _) rfl rfl) rfl ?_
         refine w_nil ?_
         refine q_then (hK51 _ _ ?_)
         refine w_ret ?_
         refine q_then_ret ?_
         refine q_ret (l := [.tmp 6]) (vs := [_]) rfl ⟨⟨rfl, show _ = (.bool _ : Value) from rfl⟩, trivial⟩ ?_
         exact ⟨rfl, hs58.drop.drop.tail⟩
        ·
         exfalso
         try simp only [Bool.not_eq_true', Bool.not_eq_false', decide_eq_true_eq, decide_eq_false_iff_not, Int.not_lt, Int.not_le] at h55
         rw [hd] at h55; simp at h55
       ·
        exfalso
        try simp only [Bool.not_eq_true', Bool.not_eq_false', decide_eq_true_eq, decide_eq_false_iff_not, Int.not_lt, Int.not_le] at h54
        rw [hd] at h54; simp at h54
      ·
       exfalso
       try simp only [Bool.not_eq_true', Bool.not_eq_false', decide_eq_true_eq, decide_eq_false_iff_not, Int.not_lt, Int.not_le] at h53
       rw [hd] at h53; simp at h53
     ·
      try simp only [Bool.not_eq_true', Bool.not_eq_false', decide_eq_true_eq, decide_eq_false_iff_not, Int.not_lt, Int.not_le] at h50
      refine w_skip ?_
      refine q_then (hK46 _ _ ?_)
      refine w_seq (fun K60 hK59 => ?_)
      refine w_seq (fun K62 hK61 => ?_)
      have he0 : (proofP m (listL b m.shops.length)).2.2 = 0 := by assumption
      have hpos := hF.pos he0
      have hri := hF.ri he0
      have hinn := hF.inn he0
      have hge := hF.ge he0
      refine w_region ?_
      refine w_pure want_none (y_move (v := .int _ _) rfl rfl) rfl ?_
      refine w_pure want_none (y_lss rfl rfl rfl rfl) rfl ?_
      refine w_pure want_none (y_move (v := .bool _) rfl rfl) rfl ?_
      refine w_split (fun h63 => ?_) (fun h63 => ?_)
      ·
       exfalso
       try simp only [Bool.not_eq_true', Bool.not_eq_false', decide_eq_true_eq, decide_eq_false_iff_not, Int.not_lt, Int.not_le] at h63
       omega
      ·
       try simp only [Bool.not_eq_true', Bool.not_eq_false', decide_eq_true_eq, decide_eq_false_iff_not, Int.not_lt, Int.not_le] at h63
       refine w_pure (want_yes rfl rfl rfl) (y_move (v := .slice _ _ _) rfl rfl) rfl ?_
       refine w_pure (want_yes rfl rfl rfl) (y_fieldAddr (o := 1) (i := 1) Try.underlying26 rfl Try.sizeOf23 rfl rfl rfl) rfl ?_
       refine w_pure (want_yes rfl rfl rfl) (y_load1 Try.isAgg23 hs39.drop.drop rfl rfl (show Ats _ _ _ _ [_] from Ats.part hbx 1 1)) rfl ?_
       refine w_pure (want_yes rfl rfl rfl) (y_lenS Try.underlying23 rfl rfl) rfl ?_
       refine w_call (want_yes rfl rfl rfl) Try.call38 rfl rfl rfl rfl (c38 _ _ (proofP m (listL b m.shops.length)).1 (by omega) hq3.top _ hs39) ?_
       rintro _ w65 ⟨rfl, hs66⟩
       refine w_pure (want_yes rfl rfl rfl) (y_not rfl rfl) rfl ?_
       refine w_pure want_none (y_pickF (v := .bool _) rfl rfl rfl rfl) rfl ?_
       refine w_nil ?_
       refine q_then (hK61 _ _ ?_)
       refine w_cond rfl rfl (fun h67 => ?_) (fun h67 => ?_)
       ·
        exfalso
        try simp only [Bool.not_eq_true', Bool.not_eq_false', decide_eq_true_eq, decide_eq_false_iff_not, Int.not_lt, Int.not_le] at h67
        exact Bool.noConfusion (hri.symm.trans h67)
       ·
        try simp only [Bool.not_eq_true', Bool.not_eq_false', decide_eq_true_eq, decide_eq_false_iff_not, Int.not_lt, Int.not_le] at h67
        refine w_skip ?_
        refine q_then (hK59 _ _ ?_)
        refine w_seq (fun K69 hK68 => ?_)
        refine w_draw [] [(0, 1), (1, 1), (2, 1), (4, 0), (3, 2), (5, 2), (6, 2), (7, 0)] Try_mo (by kernel_rfl) hs66 (fun w70 hs71 => ?_)
        refine d_take rfl want_none rfl hs71 (fun _ hq => (y_loadN (vs := [_, _, _]) Try.isAgg26 Try.sizeOf26 hq.drop.drop rfl rfl hbx)) ?_
        refine d_take rfl want_none rfl hs71 (fun _ hq => (y_loadN (vs := [_, _, _]) Try.isAgg26 Try.sizeOf26 hq.drop.drop rfl rfl hbx)) ?_
        refine d_take rfl want_none rfl hs71 (fun _ hq => (y_loadN (vs := [_, _, _]) Try.isAgg26 Try.sizeOf26 hq.drop.drop rfl rfl hbx)) ?_
        refine d_any rfl want_none rfl (fun _ => (y_move (v := .slice _ _ _) rfl rfl)) ?_
        refine d_eff rfl ?_
        refine w_call want_none Try.call37 rfl rfl rfl rfl (c37n m _ hm.cons.app.app hok hs71) ?_
        rintro _ w73 ⟨BL, a_BL, c_BL, rfl, hs_BL, hn_BL, hs74⟩
        replace hs74 := (show St _ _ (BL ++ (B3 ++ (B2 ++ (_ :: F)))) from hs74)
        refine w_nil ?_
        refine qn ⟨hs74.drop, ?_⟩
        refine d_eff rfl ?_
        refine w_call want_none Try.call39 rfl rfl rfl rfl (c39 m _ hm.cons.app.app.app hok _ _ (leastL m) (leastL_fine hok).1 hs_BL.top (leastL_fine hok).2 hn_BL _ _ x hxl hxs.cons.app.app.app hxr hs74) ?_
        rintro _ w76 ⟨BA, a_BA, c_BA, rfl, hs_BA, hs77⟩
        replace hs77 := (show St _ _ (BA ++ (BL ++ (B3 ++ (B2 ++ (_ :: F))))) from hs77)
        refine w_nil ?_
        refine qn ⟨hs77.drop.drop, ?_⟩
        refine d_eff rfl ?_
        refine w_call want_none Try.call40 rfl rfl rfl rfl (got_con m _ hm.cons.app.app.app.app hok _ _ (anyTo m (leastL m) x m.trains.length).1 m.trains.length (by omega) hga2 (by omega) hs_BA.top hga1 hs77) ?_
        rintro _ w79 ⟨BG, a_BG, c_BG, rfl, hs_BG, hs80⟩
        replace hs80 := (show St _ _ (BG ++ (BA ++ (BL ++ (B3 ++ (B2 ++ (_ :: F)))))) from hs80)
        refine w_nil ?_
        refine qn ⟨hs80.drop.drop.drop, ?_⟩
        refine d_any rfl want_none rfl (fun _ => (y_assign (v := .slice _ _ _) rfl rfl)) ?_
        refine d_nil ?_
        refine q_then (hK68 _ _ ?_)
        refine w_seq (fun K82 hK81 => ?_)
        refine w_region ?_
        refine w_pure want_none (y_assign (v := _) rfl rfl) rfl ?_
        refine w_nil ?_
        refine q_then (hK81 _ _ ?_)
        refine w_seq (fun K84 hK83 => ?_)
        refine w_seq (fun K86 hK85 => ?_)
        refine w_region ?_
        refine w_pure want_none (y_assign (v := _) rfl rfl) rfl ?_
        refine w_nil ?_
        refine q_then (hK85 _ _ ?_)
        refine w_block ?_
        refine w_loop [6, 17, 18, 19, 93, 94, 95, 96, 97, 98, 99, 100, 101, 102, 103, 104, 105, 106, 107, 108, 109, 110, 111, 112, 113, 114, 115, 116, 117, 118, 119, 120, 121, 122, 123, 124, 125, 126, 127] [17, 18] (fun kk vs0 w => ∃ i : Nat, vs0 = [.int .i64 (lackN m (gotTo m (anyTo m (leastL m) x m.trains.length).1 m.trains.length) (proofP m (listL b m.shops.length)).1 i), .int .i64 i] ∧ i ≤ (proofP m (listL b m.shops.length)).1.length ∧ kk = (proofP m (listL b m.shops.length)).1.length - i ∧ St w0 w (BG ++ (BA ++ (BL ++ (B3 ++ (B2 ++ ((b3, blk 26 (m.cells p)) :: F))))))) ((proofP m (listL b m.shops.length)).1.length) ?_ ?_
        ·
         exact ⟨0, rfl, by omega, by omega, hs80⟩
        ·
         intro k vs μ w89 hI K88 hN87
         obtain ⟨i, rfl, hia, rfl, hs⟩ := hI
         refine w_seq (fun K91 hK90 => ?_)
         refine w_seq (fun K93 hK92 => ?_)
         refine w_region ?_
         refine w_pure want_none (y_move (v := .int _ _) rfl rfl) rfl ?_
         refine w_pure want_none (y_move (v := .slice _ _ _) rfl rfl) rfl ?_
         refine w_pure want_none (y_lenS Try.underlying30 rfl rfl) rfl ?_
         refine w_pure want_none (y_lss rfl rfl rfl rfl) rfl ?_
         refine w_nil ?_
         refine q_then (hK92 _ _ ?_)
         refine w_cond rfl rfl (fun h94 => ?_) (fun h94 => ?_)
         ·
          try simp only [Bool.not_eq_true', Bool.not_eq_false', decide_eq_true_eq, decide_eq_false_iff_not, Int.not_lt, Int.not_le] at h94
          refine w_skip ?_
          refine q_then (hK90 _ _ ?_)
          refine w_seq (fun K96 hK95 => ?_)
          refine w_block ?_
          refine w_seq (fun K98 hK97 => ?_)
          refine w_seq (fun K100 hK99 => ?_)
          have hi2 : i < (proofP m (listL b m.shops.length)).1.length := by omega
          obtain ⟨bx, ox, hbx2, hx⟩ := sl_ints hq3 hi2
          subst hbx2
          have hin := hinn _ (List.getElem_mem hi2)
          have hx0 := hx.top (F := B2 ++ ((b3, blk 26 (m.cells p)) :: F))
          have hjs : ((proofP m (listL b m.shops.length)).1[i]'hi2).toNat < m.shops.length := by omega
          obtain ⟨bs, os, hbs, hxs2⟩ := sl_srows hm.s hjs
          have hjg : ((proofP m (listL b m.shops.length)).1[i]'hi2).toNat < (gotTo m (anyTo m (leastL m) x m.trains.length).1 m.trains.length).length := by omega
          obtain ⟨by_, oy, hby2, hy⟩ := sl_ints hs_BG hjg
          have hy0 := hy.top (F := BA ++ (BL ++ (B3 ++ (B2 ++ ((b3, blk 26 (m.cells p)) :: F)))))
          have hlk := lackN_in hok (set := (proofP m (listL b m.shops.length)).1) hga3 i
          have hsw := hok.shop _ (List.getElem_mem hjs)
          have hgg := hga3 _ (List.getElem_mem hjg)
          refine w_region ?_
          refine w_pure want_none (y_move (v := .slice _ _ _) rfl rfl) rfl ?_
          refine w_pure want_none (y_move (v := .slice _ _ _) rfl rfl) rfl ?_
          refine w_pure want_none (y_move (v := .int _ _) rfl rfl) rfl ?_
          refine w_pure want_none (y_indexS Try.underlying30 Try.sizeOf3 rfl rfl rfl rfl (i := _) rfl (by omega)) rfl ?_
          refine w_pure want_none (y_load1 Try.isAgg3 hs.drop.drop.drop rfl rfl hx0) rfl ?_
          refine w_call want_none Try.call41 rfl rfl rfl rfl (c41 _ _ (listL b m.shops.length) (by omega) hs_B2.top.app.app.app.app _ hs) ?_
          rintro _ w102 ⟨rfl, hs103⟩
          refine w_pure want_none (y_not rfl rfl) rfl ?_
          refine w_nil ?_
          refine q_then (hK99 _ _ ?_)
          refine w_cond rfl rfl (fun h104 => ?_) (fun h104 => ?_)
          ·
           exfalso
           try simp only [Bool.not_eq_true', Bool.not_eq_false', decide_eq_true_eq, decide_eq_false_iff_not, Int.not_lt, Int.not_le] at h104
           exact Bool.noConfusion (hin.1.symm.trans h104)
          ·
           try simp only [Bool.not_eq_true', Bool.not_eq_false', decide_eq_true_eq, decide_eq_false_iff_not, Int.not_lt, Int.not_le] at h104
           refine w_skip ?_
           refine q_then (hK97 _ _ ?_)
           refine w_seq (fun K106 hK105 => ?_)
           refine w_draw [] [(0, 0), (1, 1), (2, 0), (3, 0), (4, 0), (5, 1), (6, 0), (7, 0), (8, 1), (9, 0)] Try_mo (by kernel_rfl) hs103 (fun w107 hs108 => ?_)
           refine d_any rfl want_none rfl (fun _ => (y_fieldAddr (o := 1) (i := 1) Try.underlying26 rfl Try.sizeOf23 rfl rfl rfl)) ?_
           refine d_take rfl want_none rfl hs108 (fun _ hq => (yd_slice hbs (y_load1 Try.isAgg23 hq.drop.drop.drop.drop.drop rfl rfl (show Ats _ _ _ _ [_] from Ats.part hbx 1 1)))) ?_
           refine d_any rfl want_none rfl (fun _ => (y_move (v := .slice _ _ _) rfl rfl)) ?_
           refine d_any rfl want_none rfl (fun _ => (y_move (v := .int _ _) rfl rfl)) ?_
           refine d_any rfl want_none rfl (fun _ => (y_indexS Try.underlying30 Try.sizeOf3 rfl rfl rfl rfl (i := _) rfl (by omega))) ?_
           refine d_take rfl want_none rfl hs108 (fun _ hq => (y_load1 Try.isAgg3 hq.drop.drop.drop rfl rfl hx0)) ?_
           refine d_any rfl want_none rfl (fun _ => (y_indexS Try.underlying23 Try.sizeOf52 rfl rfl rfl rfl (i := ((proofP m (listL b m.shops.length)).1[i]'hi2).toNat) (by omega) (by omega))) ?_
           refine d_any rfl want_none rfl (fun _ => (y_fieldAddr (o := 2) (i := 2) Try.underlying52 rfl Try.sizeOf3 rfl rfl rfl)) ?_
           refine d_take rfl want_none rfl hs108 (fun _ hq => (y_load1 Try.isAgg3 hq.drop.drop.drop.drop.drop.tail rfl rfl (show Ats _ _ _ _ [_] from Ats.part hxs2 2 1))) ?_
           refine d_any rfl want_none rfl (fun _ => (y_assign (v := .int _ _) rfl rfl)) ?_
           refine d_nil ?_
           refine q_then (hK105 _ _ ?_)
           cases hby2
           refine w_region ?_
           refine w_pure want_none (y_move (v := .int _ _) rfl rfl) rfl ?_
           refine w_pure want_none (y_move (v := .int _ _) rfl rfl) rfl ?_
           refine w_pure want_none (y_add rfl rfl rfl rfl (by omega) (by omega)) rfl ?_
           refine w_pure want_none (y_move (v := .int _ _) rfl rfl) rfl ?_
           refine w_pure want_none (y_move (v := .slice _ _ _) rfl rfl) rfl ?_
           refine w_pure want_none (y_move (v := .slice _ _ _) rfl rfl) rfl ?_
           refine w_pure want_none (y_move (v := .int _ _) rfl rfl) rfl ?_
           refine w_pure want_none (y_indexS Try.underlying30 Try.sizeOf3 rfl rfl rfl rfl (i := _) rfl (by omega)) rfl ?_
           refine w_pure want_none (y_load1 Try.isAgg3 hs108.drop.drop.drop rfl rfl hx0) rfl ?_
           refine w_pure want_none (y_indexS Try.underlying30 Try.sizeOf3 rfl rfl rfl rfl (i := ((proofP m (listL b m.shops.length)).1[i]'hi2).toNat) (by omega) (by omega)) rfl ?_
           refine w_pure want_none (y_load1 Try.isAgg3 hs108 rfl rfl hy0) rfl ?_
           refine w_pure want_none (y_min2 rfl rfl rfl rfl) rfl ?_
           refine w_pure want_none (y_sub rfl rfl rfl rfl (by omega) (by omega)) rfl ?_
           refine w_pure want_none (y_assign (v := .int _ _) rfl rfl) rfl ?_
           refine w_nil ?_
           refine q_blk_normal ?_
           refine q_then (hK95 _ _ ?_)
           refine w_region ?_
           refine w_pure want_none (y_move (v := .int _ _) rfl rfl) rfl ?_
           refine w_pure want_none (y_add rfl rfl rfl rfl (by omega) (by omega)) rfl ?_
           refine w_pure want_none (y_assign (v := .int _ _) rfl rfl) rfl ?_
           refine w_nil ?_
           refine q_then (hN87 _ _ (Nx.intro ((proofP m (listL b m.shops.length)).1.length - (i + 1)) (by omega) (by repeat (first | exact agree_mix | refine agree_upd rfl ?_ | refine agree_updL rfl ?_ _ | refine agree_mixin rfl ?_)) ?_))
           exact ⟨i + 1, by rw [lackN_succ hi2 hjs hjg]; rfl, by omega, rfl, hs108⟩
         ·
          try simp only [Bool.not_eq_true', Bool.not_eq_false', decide_eq_true_eq, decide_eq_false_iff_not, Int.not_lt, Int.not_le] at h94
          refine w_exit ?_
          refine q_then_exit ?_
          refine q_then_exit ?_
          refine q_blk_this ?_
          refine q_then (hK83 _ _ ?_)
          refine w_seq (fun K110 hK109 => ?_)
          have hil : i = (proofP m (listL b m.shops.length)).1.length := by omega
          subst hil
          refine w_region ?_
          refine w_pure want_none (y_move (v := .int _ _) rfl rfl) rfl ?_
          refine w_pure want_none (y_move (v := .int _ _) rfl rfl) rfl ?_
          refine w_pure want_none (y_geq rfl rfl rfl rfl) rfl ?_
          refine w_pure want_none (y_move (v := .bool _) rfl rfl) rfl ?_
          refine w_split (fun h111 => ?_) (fun h111 => ?_)
          ·
           try simp only [Bool.not_eq_true', Bool.not_eq_false', decide_eq_true_eq, decide_eq_false_iff_not, Int.not_lt, Int.not_le] at h111
           refine w_call (want_yes rfl rfl rfl) Try.call21 rfl rfl rfl rfl (c21 hs) ?_
           rintro _ w113 ⟨rfl, hs114⟩
           refine w_pure want_none (y_pickT (v := .bool _) rfl rfl rfl rfl) rfl ?_
           refine w_pure want_none (y_assign (v := .bool _) rfl rfl) rfl ?_
           refine w_nil ?_
           refine q_then (hK109 _ _ ?_)
           refine w_ret ?_
           refine q_ret (l := [.tmp 6]) (vs := [_]) rfl ⟨⟨rfl, show _ = (.bool _ : Value) from rfl⟩, trivial⟩ ?_
           exact ⟨rfl, hs114.drop.drop.drop.drop.drop.tail⟩
          ·
           exfalso
           try simp only [Bool.not_eq_true', Bool.not_eq_false', decide_eq_true_eq, decide_eq_false_iff_not, Int.not_lt, Int.not_le] at h111
           omega

end Go.Proofs
