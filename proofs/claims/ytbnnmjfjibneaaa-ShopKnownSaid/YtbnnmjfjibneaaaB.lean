/- Walks of this seat, printed by gen.py over the engine: what each function returns, in whatever world. No conditions but those of each contract. -/
import Derived.Test.YtbnnmjfjibneaaaA
import Derived.Laws.RangeAny
set_option linter.unusedVariables false
set_option linter.unusedSimpArgs false
set_option maxRecDepth 20000
namespace Go.Proofs
open Go.Rt
attribute [local irreducible] WL WC Con Yd At Ats Sl Agree DW
theorem Try_B_fb0 (x0 : Int) (w : World) : (Instr.buildSlice 30 1 [(0, .int .i64 x0)].toArray).run Try.prog w = .ok (.slice (some ⟨w.heap.size, 0, none⟩) 1 1) (w.alloc (Go.Rt.blk 3 [.int .i64 x0])) := by kernel_rfl
theorem nmBytes_take (l : List UInt8) : ∀ (f : Bool) (i : Nat), nmBytes f l = true → nmBytes f (l.take i) = true := by
  induction l with
  | nil => intro f i h; simpa using h
  | cons x l ih =>
    intro f i h
    cases i with
    | zero => rfl
    | succ i =>
      simp only [nmBytes, Bool.and_eq_true] at h
      simp only [List.take_succ_cons, nmBytes, Bool.and_eq_true]
      exact ⟨h.1, ih _ i h.2⟩
theorem name_bad (s : ByteArray) (i : Nat) (h : i < s.size) (hb : nmByte (decide (i = 0)) s[i] = false) : false = nmOk s := by
  symm
  unfold nmOk
  cases hn : nmBytes true s.data.toList with
  | false => simp
  | true =>
    have := nmBytes_take _ true (i + 1) hn
    rw [name_step s i h, hb] at this
    simp at this
theorem dec (s : ByteArray) (i : Nat) (h : i < s.size) : (s[i].toNat < 128 ∧ (Utf8.decode s i).1 = s[i].toNat ∧ (Utf8.decode s i).2 = 1) ∨ (128 ≤ s[i].toNat ∧ 128 ≤ (Utf8.decode s i).1 ∧ 1 ≤ (Utf8.decode s i).2) := by
  rcases Nat.lt_or_ge s[i].toNat 128 with hlt | hge
  · left; rw [decode_ascii s i h hlt]; exact ⟨hlt, rfl, rfl⟩
  · right; exact ⟨hge, decode_high s i h hge⟩
theorem c81 {w0 w : World} {F : List (Nat × Obj)} (s : ByteArray) (hls : s.size ≤ 9223372036854775807) (hs : St w0 w F) :
  Con Try.prog 81 [.string s] w fun v w' => v = .bool (nmOk s) ∧ St w0 w' F := by
  refine con_of_wc (n := 41) Try.func81 rfl rfl (Nat.le_of_ble_eq_true rfl) ?_
  refine w_seq (fun K2 hK1 => ?_)
  refine w_region ?_
  refine w_pure want_none (y_assign (v := _) rfl rfl) rfl ?_
  refine w_nil ?_
  refine q_then (hK1 _ _ ?_)
  refine w_seq (fun K4 hK3 => ?_)
  refine w_seq (fun K6 hK5 => ?_)
  refine w_region ?_
  refine w_pure want_none (y_move (v := .string _) rfl rfl) rfl ?_
  refine w_rangeStr want_none Try.underlying9 rfl rfl hs (fun b7 w8 hs9 => ?_)
  refine w_nil ?_
  refine q_then (hK5 _ _ ?_)
  refine w_block ?_
  refine w_loop [2, 3, 4, 5, 8, 9, 10, 11, 12, 13, 14, 15, 16, 17, 18, 19, 20, 21, 22, 23, 24, 25, 26, 27, 28, 29, 30, 31, 32, 33, 34, 35] [] (fun k vs w => ∃ i : Nat, vs = [] ∧ i ≤ s.size ∧ k = s.size - i ∧ nmBytes true (s.data.toList.take i) = true ∧ St w0 w ((b7, .stringIter s i) :: F)) (s.size) ?_ ?_
  ·
    exact ⟨0, rfl, by omega, by omega, rfl, hs9⟩
  ·
    intro k vs μ w12 hI K11 hN10
    obtain ⟨i, rfl, hia, rfl, hpre, hs⟩ := hI
    refine w_seq (fun K14 hK13 => ?_)
    refine w_region ?_
    refine w_nextStr (i := 0) want_none rfl rfl hs rfl (fun hp15 w16 hs17 => ?_) (fun hp15 => ?_)
    ·
      refine w_pure want_none (y_extract (v := .bool _) rfl rfl rfl) rfl ?_
      refine w_nil ?_
      refine q_then (hK13 _ _ ?_)
      refine w_seq (fun K19 hK18 => ?_)
      refine w_condT rfl rfl ?_
      refine w_skip ?_
      refine q_then (hK18 _ _ ?_)
      refine w_block ?_
      refine w_seq (fun K21 hK20 => ?_)
      refine w_region ?_
      have hi2 : i < s.size := by omega
      have hd := dec s i hi2
      have hb2 := s[i].toNat_lt
      refine w_pure want_none (y_extract (v := .int _ _) rfl rfl rfl) rfl ?_
      refine w_pure want_none (y_extract (v := .int _ _) rfl rfl rfl) rfl ?_
      refine w_pure want_none (y_assign (v := .int _ _) rfl rfl) rfl ?_
      refine w_pure want_none (y_assign (v := .int _ _) rfl rfl) rfl ?_
      refine w_nil ?_
      refine q_then (hK20 _ _ ?_)
      refine w_seq (fun K23 hK22 => ?_)
      refine w_region ?_
      refine w_pure want_none (y_move (v := .int _ _) rfl rfl) rfl ?_
      refine w_pure want_none (y_geq rfl rfl rfl rfl) rfl ?_
      refine w_pure want_none (y_move (v := .bool _) rfl rfl) rfl ?_
      refine w_split (fun h24 => ?_) (fun h24 => ?_)
      ·
        try simp only [Bool.not_eq_true', Bool.not_eq_false', decide_eq_true_eq, decide_eq_false_iff_not, Int.not_lt, Int.not_le] at h24
        refine w_pure (want_yes rfl rfl rfl) (y_move (v := .int _ _) rfl rfl) rfl ?_
        refine w_pure (want_yes rfl rfl rfl) (y_leq rfl rfl rfl rfl) rfl ?_
        refine w_pure want_none (y_pickT (v := .bool _) rfl rfl rfl rfl) rfl ?_
        refine w_pure want_none (y_assign (v := .bool _) rfl rfl) rfl ?_
        refine w_nil ?_
        refine q_then (hK22 _ _ ?_)
        refine w_seq (fun K26 hK25 => ?_)
        refine w_region ?_
        refine w_pure want_none (y_move (v := .bool _) rfl rfl) rfl ?_
        refine w_pure want_none (y_not rfl rfl) rfl ?_
        refine w_pure want_none (y_move (v := .bool _) rfl rfl) rfl ?_
        refine w_split (fun h27 => ?_) (fun h27 => ?_)
        ·
          try simp only [Bool.not_eq_true', Bool.not_eq_false', decide_eq_true_eq, decide_eq_false_iff_not, Int.not_lt, Int.not_le] at h27
          refine w_pure (want_yes rfl rfl rfl) (y_move (v := .int _ _) rfl rfl) rfl ?_
          refine w_pure (want_yes rfl rfl rfl) (y_eql rfl rfl rfl rfl) rfl ?_
          refine w_pure (want_yes rfl rfl rfl) (y_move (v := .bool _) rfl rfl) rfl ?_
          refine w_split (fun h28 => ?_) (fun h28 => ?_)
          ·
            try simp only [Bool.not_eq_true', Bool.not_eq_false', decide_eq_true_eq, decide_eq_false_iff_not, Int.not_lt, Int.not_le] at h28
            refine w_skipop rfl rfl rfl ?_
            refine w_skipop rfl rfl rfl ?_
            refine w_skipop rfl rfl rfl ?_
            refine w_skipop' rfl rfl rfl ?_
            refine w_skipop' rfl rfl rfl ?_
            refine w_skipop' rfl rfl rfl ?_
            refine w_skipop' rfl rfl rfl ?_
            refine w_skipop' rfl rfl rfl ?_
            refine w_skipop' rfl rfl rfl ?_
            refine w_skipop rfl rfl rfl ?_
            refine w_pure (want_yes rfl rfl rfl) (y_pickT (v := _) rfl rfl rfl rfl) rfl ?_
            refine w_pure want_none (y_pickT (v := .bool _) rfl rfl rfl rfl) rfl ?_
            refine w_nil ?_
            refine q_then (hK25 _ _ ?_)
            refine w_condT rfl rfl ?_
            refine w_seq (fun K30 hK29 => ?_)
            refine w_region ?_
            refine w_pure want_none (y_assign (v := _) rfl rfl) rfl ?_
            refine w_nil ?_
            refine q_then (hK29 _ _ ?_)
            refine w_ret ?_
            refine q_blk_ret ?_
            refine q_then_ret ?_
            refine q_blk_ret ?_
            refine q_then_ret ?_
            refine q_ret (l := [.tmp 2]) (vs := [_]) rfl ⟨⟨rfl, show _ = (.bool _ : Value) from rfl⟩, trivial⟩ ?_
            first
              | exact ⟨congrArg Value.bool (name_bad s i hi2 (by simp [nmByte]; omega)), hs17.tail⟩
              | exact ⟨congrArg Value.bool (by have hil : i = s.size := (by omega); subst hil; rw [List.take_of_length_le (by simp)] at hpre; unfold nmOk; rw [hpre, Bool.eq_iff_iff]; simp [out] <;> omega), hs17.tail.tail⟩
          ·
            try simp only [Bool.not_eq_true', Bool.not_eq_false', decide_eq_true_eq, decide_eq_false_iff_not, Int.not_lt, Int.not_le] at h28
            refine w_pure (want_yes rfl rfl rfl) (y_move (v := .int _ _) rfl rfl) rfl ?_
            refine w_pure (want_yes rfl rfl rfl) (y_neq rfl rfl rfl rfl) rfl ?_
            refine w_pure (want_yes rfl rfl rfl) (y_move (v := .bool _) rfl rfl) rfl ?_
            refine w_split (fun h31 => ?_) (fun h31 => ?_)
            ·
              try simp only [Bool.not_eq_true', Bool.not_eq_false', decide_eq_true_eq, decide_eq_false_iff_not, Int.not_lt, Int.not_le] at h31
              refine w_pure (want_yes rfl rfl rfl) (y_move (v := .int _ _) rfl rfl) rfl ?_
              refine w_pure (want_yes rfl rfl rfl) (y_lss rfl rfl rfl rfl) rfl ?_
              refine w_pure (want_yes rfl rfl rfl) (y_move (v := .bool _) rfl rfl) rfl ?_
              refine w_split (fun h32 => ?_) (fun h32 => ?_)
              ·
                try simp only [Bool.not_eq_true', Bool.not_eq_false', decide_eq_true_eq, decide_eq_false_iff_not, Int.not_lt, Int.not_le] at h32
                refine w_skipop rfl rfl rfl ?_
                refine w_skipop rfl rfl rfl ?_
                refine w_pure (want_yes rfl rfl rfl) (y_pickT (v := _) rfl rfl rfl rfl) rfl ?_
                refine w_pure (want_yes rfl rfl rfl) (y_pickT (v := .bool _) rfl rfl rfl rfl) rfl ?_
                refine w_pure (want_yes rfl rfl rfl) (y_pickF (v := .bool _) rfl rfl rfl rfl) rfl ?_
                refine w_pure want_none (y_pickT (v := .bool _) rfl rfl rfl rfl) rfl ?_
                refine w_nil ?_
                refine q_then (hK25 _ _ ?_)
                refine w_condT rfl rfl ?_
                refine w_seq (fun K34 hK33 => ?_)
                refine w_region ?_
                refine w_pure want_none (y_assign (v := _) rfl rfl) rfl ?_
                refine w_nil ?_
                refine q_then (hK33 _ _ ?_)
                refine w_ret ?_
                refine q_blk_ret ?_
                refine q_then_ret ?_
                refine q_blk_ret ?_
                refine q_then_ret ?_
                refine q_ret (l := [.tmp 2]) (vs := [_]) rfl ⟨⟨rfl, show _ = (.bool _ : Value) from rfl⟩, trivial⟩ ?_
                first
                  | exact ⟨congrArg Value.bool (name_bad s i hi2 (by simp [nmByte]; omega)), hs17.tail⟩
                  | exact ⟨congrArg Value.bool (by have hil : i = s.size := (by omega); subst hil; rw [List.take_of_length_le (by simp)] at hpre; unfold nmOk; rw [hpre, Bool.eq_iff_iff]; simp [out] <;> omega), hs17.tail.tail⟩
              ·
                try simp only [Bool.not_eq_true', Bool.not_eq_false', decide_eq_true_eq, decide_eq_false_iff_not, Int.not_lt, Int.not_le] at h32
                refine w_pure (want_yes rfl rfl rfl) (y_move (v := .int _ _) rfl rfl) rfl ?_
                refine w_pure (want_yes rfl rfl rfl) (y_gtr rfl rfl rfl rfl) rfl ?_
                refine w_pure (want_yes rfl rfl rfl) (y_pickF (v := .bool _) rfl rfl rfl rfl) rfl ?_
                refine w_pure (want_yes rfl rfl rfl) (y_pickT (v := .bool _) rfl rfl rfl rfl) rfl ?_
                refine w_pure (want_yes rfl rfl rfl) (y_pickF (v := .bool _) rfl rfl rfl rfl) rfl ?_
                refine w_pure want_none (y_pickT (v := .bool _) rfl rfl rfl rfl) rfl ?_
                refine w_nil ?_
                refine q_then (hK25 _ _ ?_)
                refine w_cond rfl rfl (fun h35 => ?_) (fun h35 => ?_)
                ·
                  try simp only [Bool.not_eq_true', Bool.not_eq_false', decide_eq_true_eq, decide_eq_false_iff_not, Int.not_lt, Int.not_le] at h35
                  refine w_seq (fun K37 hK36 => ?_)
                  refine w_region ?_
                  refine w_pure want_none (y_assign (v := _) rfl rfl) rfl ?_
                  refine w_nil ?_
                  refine q_then (hK36 _ _ ?_)
                  refine w_ret ?_
                  refine q_blk_ret ?_
                  refine q_then_ret ?_
                  refine q_blk_ret ?_
                  refine q_then_ret ?_
                  refine q_ret (l := [.tmp 2]) (vs := [_]) rfl ⟨⟨rfl, show _ = (.bool _ : Value) from rfl⟩, trivial⟩ ?_
                  first
                    | exact ⟨congrArg Value.bool (name_bad s i hi2 (by simp [nmByte]; omega)), hs17.tail⟩
                    | exact ⟨congrArg Value.bool (by have hil : i = s.size := (by omega); subst hil; rw [List.take_of_length_le (by simp)] at hpre; unfold nmOk; rw [hpre, Bool.eq_iff_iff]; simp [out] <;> omega), hs17.tail.tail⟩
                ·
                  try simp only [Bool.not_eq_true', Bool.not_eq_false', decide_eq_true_eq, decide_eq_false_iff_not, Int.not_lt, Int.not_le] at h35
                  refine w_skip ?_
                  refine q_blk_normal ?_
                  refine q_then (hN10 _ _ (Nx.intro (s.size - (i + (Utf8.decode s i).2)) ((by omega)) (by repeat (first | exact agree_mix | refine agree_upd rfl ?_ | refine agree_updL rfl ?_ _ | refine agree_mixin rfl ?_)) ?_))
                  have hd1 : s[i].toNat < 128 ∧ (Utf8.decode s i).1 = s[i].toNat ∧ (Utf8.decode s i).2 = 1 := (by rcases hd with h | h; exact h; (exfalso; first | omega | (simp only [Bool.or_eq_true, Bool.and_eq_true, decide_eq_true_eq, Bool.not_eq_true', decide_eq_false_iff_not] at *; omega)))
                  have hn1 : nmByte (decide (i = 0)) s[i] = true := (by simp [nmByte]; omega)
                  refine ⟨i + 1, rfl, by omega, by rw [hd1.2.2], ?_, by rw [← hd1.2.2]; exact hs17⟩
                  rw [name_step s i hi2, hpre, hn1]; rfl
            ·
              try simp only [Bool.not_eq_true', Bool.not_eq_false', decide_eq_true_eq, decide_eq_false_iff_not, Int.not_lt, Int.not_le] at h31
              refine w_skipop rfl rfl rfl ?_
              refine w_skipop rfl rfl rfl ?_
              refine w_skipop rfl rfl rfl ?_
              refine w_skipop' rfl rfl rfl ?_
              refine w_skipop' rfl rfl rfl ?_
              refine w_skipop rfl rfl rfl ?_
              refine w_pure (want_yes rfl rfl rfl) (y_pickF (v := _) rfl rfl rfl rfl) rfl ?_
              refine w_pure (want_yes rfl rfl rfl) (y_pickF (v := .bool _) rfl rfl rfl rfl) rfl ?_
              refine w_pure want_none (y_pickT (v := .bool _) rfl rfl rfl rfl) rfl ?_
              refine w_nil ?_
              refine q_then (hK25 _ _ ?_)
              refine w_condF rfl rfl ?_
              refine w_skip ?_
              refine q_blk_normal ?_
              refine q_then (hN10 _ _ (Nx.intro (s.size - (i + (Utf8.decode s i).2)) ((by omega)) (by repeat (first | exact agree_mix | refine agree_upd rfl ?_ | refine agree_updL rfl ?_ _ | refine agree_mixin rfl ?_)) ?_))
              have hd1 : s[i].toNat < 128 ∧ (Utf8.decode s i).1 = s[i].toNat ∧ (Utf8.decode s i).2 = 1 := (by rcases hd with h | h; exact h; (exfalso; first | omega | (simp only [Bool.or_eq_true, Bool.and_eq_true, decide_eq_true_eq, Bool.not_eq_true', decide_eq_false_iff_not] at *; omega)))
              have hn1 : nmByte (decide (i = 0)) s[i] = true := (by simp [nmByte]; omega)
              refine ⟨i + 1, rfl, by omega, by rw [hd1.2.2], ?_, by rw [← hd1.2.2]; exact hs17⟩
              rw [name_step s i hi2, hpre, hn1]; rfl
        ·
          try simp only [Bool.not_eq_true', Bool.not_eq_false', decide_eq_true_eq, decide_eq_false_iff_not, Int.not_lt, Int.not_le] at h27
          refine w_skipop rfl rfl rfl ?_
          refine w_skipop rfl rfl rfl ?_
          refine w_skipop rfl rfl rfl ?_
          refine w_skipop' rfl rfl rfl ?_
          refine w_skipop' rfl rfl rfl ?_
          refine w_skipop' rfl rfl rfl ?_
          refine w_skipop' rfl rfl rfl ?_
          refine w_skipop' rfl rfl rfl ?_
          refine w_skipop' rfl rfl rfl ?_
          refine w_skipop' rfl rfl rfl ?_
          refine w_skipop' rfl rfl rfl ?_
          refine w_skipop' rfl rfl rfl ?_
          refine w_skipop' rfl rfl rfl ?_
          refine w_skipop rfl rfl rfl ?_
          refine w_pure want_none (y_pickF (v := _) rfl rfl rfl rfl) rfl ?_
          refine w_nil ?_
          refine q_then (hK25 _ _ ?_)
          refine w_condF rfl rfl ?_
          refine w_skip ?_
          refine q_blk_normal ?_
          refine q_then (hN10 _ _ (Nx.intro (s.size - (i + (Utf8.decode s i).2)) ((by omega)) (by repeat (first | exact agree_mix | refine agree_upd rfl ?_ | refine agree_updL rfl ?_ _ | refine agree_mixin rfl ?_)) ?_))
          have hd1 : s[i].toNat < 128 ∧ (Utf8.decode s i).1 = s[i].toNat ∧ (Utf8.decode s i).2 = 1 := (by rcases hd with h | h; exact h; (exfalso; first | omega | (simp only [Bool.or_eq_true, Bool.and_eq_true, decide_eq_true_eq, Bool.not_eq_true', decide_eq_false_iff_not] at *; omega)))
          have hn1 : nmByte (decide (i = 0)) s[i] = true := (by simp [nmByte]; omega)
          refine ⟨i + 1, rfl, by omega, by rw [hd1.2.2], ?_, by rw [← hd1.2.2]; exact hs17⟩
          rw [name_step s i hi2, hpre, hn1]; rfl
      ·
        try simp only [Bool.not_eq_true', Bool.not_eq_false', decide_eq_true_eq, decide_eq_false_iff_not, Int.not_lt, Int.not_le] at h24
        refine w_skipop rfl rfl rfl ?_
        refine w_skipop rfl rfl rfl ?_
        refine w_pure want_none (y_pickF (v := _) rfl rfl rfl rfl) rfl ?_
        refine w_pure want_none (y_assign (v := .bool _) rfl rfl) rfl ?_
        refine w_nil ?_
        refine q_then (hK22 _ _ ?_)
        refine w_seq (fun K39 hK38 => ?_)
        refine w_region ?_
        refine w_pure want_none (y_move (v := .bool _) rfl rfl) rfl ?_
        refine w_pure want_none (y_not rfl rfl) rfl ?_
        refine w_pure want_none (y_move (v := .bool _) rfl rfl) rfl ?_
        refine w_pure (want_yes rfl rfl rfl) (y_move (v := .int _ _) rfl rfl) rfl ?_
        refine w_pure (want_yes rfl rfl rfl) (y_eql rfl rfl rfl rfl) rfl ?_
        refine w_pure (want_yes rfl rfl rfl) (y_move (v := .bool _) rfl rfl) rfl ?_
        refine w_split (fun h40 => ?_) (fun h40 => ?_)
        ·
          try simp only [Bool.not_eq_true', Bool.not_eq_false', decide_eq_true_eq, decide_eq_false_iff_not, Int.not_lt, Int.not_le] at h40
          refine w_skipop rfl rfl rfl ?_
          refine w_skipop rfl rfl rfl ?_
          refine w_skipop rfl rfl rfl ?_
          refine w_skipop' rfl rfl rfl ?_
          refine w_skipop' rfl rfl rfl ?_
          refine w_skipop' rfl rfl rfl ?_
          refine w_skipop' rfl rfl rfl ?_
          refine w_skipop' rfl rfl rfl ?_
          refine w_skipop' rfl rfl rfl ?_
          refine w_skipop rfl rfl rfl ?_
          refine w_pure (want_yes rfl rfl rfl) (y_pickT (v := _) rfl rfl rfl rfl) rfl ?_
          refine w_pure want_none (y_pickT (v := .bool _) rfl rfl rfl rfl) rfl ?_
          refine w_nil ?_
          refine q_then (hK38 _ _ ?_)
          refine w_condT rfl rfl ?_
          refine w_seq (fun K42 hK41 => ?_)
          refine w_region ?_
          refine w_pure want_none (y_assign (v := _) rfl rfl) rfl ?_
          refine w_nil ?_
          refine q_then (hK41 _ _ ?_)
          refine w_ret ?_
          refine q_blk_ret ?_
          refine q_then_ret ?_
          refine q_blk_ret ?_
          refine q_then_ret ?_
          refine q_ret (l := [.tmp 2]) (vs := [_]) rfl ⟨⟨rfl, show _ = (.bool _ : Value) from rfl⟩, trivial⟩ ?_
          first
            | exact ⟨congrArg Value.bool (name_bad s i hi2 (by simp [nmByte]; omega)), hs17.tail⟩
            | exact ⟨congrArg Value.bool (by have hil : i = s.size := (by omega); subst hil; rw [List.take_of_length_le (by simp)] at hpre; unfold nmOk; rw [hpre, Bool.eq_iff_iff]; simp [out] <;> omega), hs17.tail.tail⟩
        ·
          try simp only [Bool.not_eq_true', Bool.not_eq_false', decide_eq_true_eq, decide_eq_false_iff_not, Int.not_lt, Int.not_le] at h40
          refine w_pure (want_yes rfl rfl rfl) (y_move (v := .int _ _) rfl rfl) rfl ?_
          refine w_pure (want_yes rfl rfl rfl) (y_neq rfl rfl rfl rfl) rfl ?_
          refine w_pure (want_yes rfl rfl rfl) (y_move (v := .bool _) rfl rfl) rfl ?_
          refine w_split (fun h43 => ?_) (fun h43 => ?_)
          ·
            try simp only [Bool.not_eq_true', Bool.not_eq_false', decide_eq_true_eq, decide_eq_false_iff_not, Int.not_lt, Int.not_le] at h43
            refine w_pure (want_yes rfl rfl rfl) (y_move (v := .int _ _) rfl rfl) rfl ?_
            refine w_pure (want_yes rfl rfl rfl) (y_lss rfl rfl rfl rfl) rfl ?_
            refine w_pure (want_yes rfl rfl rfl) (y_move (v := .bool _) rfl rfl) rfl ?_
            refine w_split (fun h44 => ?_) (fun h44 => ?_)
            ·
              try simp only [Bool.not_eq_true', Bool.not_eq_false', decide_eq_true_eq, decide_eq_false_iff_not, Int.not_lt, Int.not_le] at h44
              refine w_skipop rfl rfl rfl ?_
              refine w_skipop rfl rfl rfl ?_
              refine w_pure (want_yes rfl rfl rfl) (y_pickT (v := _) rfl rfl rfl rfl) rfl ?_
              refine w_pure (want_yes rfl rfl rfl) (y_pickT (v := .bool _) rfl rfl rfl rfl) rfl ?_
              refine w_pure (want_yes rfl rfl rfl) (y_pickF (v := .bool _) rfl rfl rfl rfl) rfl ?_
              refine w_pure want_none (y_pickT (v := .bool _) rfl rfl rfl rfl) rfl ?_
              refine w_nil ?_
              refine q_then (hK38 _ _ ?_)
              refine w_condT rfl rfl ?_
              refine w_seq (fun K46 hK45 => ?_)
              refine w_region ?_
              refine w_pure want_none (y_assign (v := _) rfl rfl) rfl ?_
              refine w_nil ?_
              refine q_then (hK45 _ _ ?_)
              refine w_ret ?_
              refine q_blk_ret ?_
              refine q_then_ret ?_
              refine q_blk_ret ?_
              refine q_then_ret ?_
              refine q_ret (l := [.tmp 2]) (vs := [_]) rfl ⟨⟨rfl, show _ = (.bool _ : Value) from rfl⟩, trivial⟩ ?_
              first
                | exact ⟨congrArg Value.bool (name_bad s i hi2 (by simp [nmByte]; omega)), hs17.tail⟩
                | exact ⟨congrArg Value.bool (by have hil : i = s.size := (by omega); subst hil; rw [List.take_of_length_le (by simp)] at hpre; unfold nmOk; rw [hpre, Bool.eq_iff_iff]; simp [out] <;> omega), hs17.tail.tail⟩
            ·
              try simp only [Bool.not_eq_true', Bool.not_eq_false', decide_eq_true_eq, decide_eq_false_iff_not, Int.not_lt, Int.not_le] at h44
              refine w_pure (want_yes rfl rfl rfl) (y_move (v := .int _ _) rfl rfl) rfl ?_
              refine w_pure (want_yes rfl rfl rfl) (y_gtr rfl rfl rfl rfl) rfl ?_
              refine w_pure (want_yes rfl rfl rfl) (y_pickF (v := .bool _) rfl rfl rfl rfl) rfl ?_
              refine w_pure (want_yes rfl rfl rfl) (y_pickT (v := .bool _) rfl rfl rfl rfl) rfl ?_
              refine w_pure (want_yes rfl rfl rfl) (y_pickF (v := .bool _) rfl rfl rfl rfl) rfl ?_
              refine w_pure want_none (y_pickT (v := .bool _) rfl rfl rfl rfl) rfl ?_
              refine w_nil ?_
              refine q_then (hK38 _ _ ?_)
              refine w_cond rfl rfl (fun h47 => ?_) (fun h47 => ?_)
              ·
                try simp only [Bool.not_eq_true', Bool.not_eq_false', decide_eq_true_eq, decide_eq_false_iff_not, Int.not_lt, Int.not_le] at h47
                refine w_seq (fun K49 hK48 => ?_)
                refine w_region ?_
                refine w_pure want_none (y_assign (v := _) rfl rfl) rfl ?_
                refine w_nil ?_
                refine q_then (hK48 _ _ ?_)
                refine w_ret ?_
                refine q_blk_ret ?_
                refine q_then_ret ?_
                refine q_blk_ret ?_
                refine q_then_ret ?_
                refine q_ret (l := [.tmp 2]) (vs := [_]) rfl ⟨⟨rfl, show _ = (.bool _ : Value) from rfl⟩, trivial⟩ ?_
                first
                  | exact ⟨congrArg Value.bool (name_bad s i hi2 (by simp [nmByte]; omega)), hs17.tail⟩
                  | exact ⟨congrArg Value.bool (by have hil : i = s.size := (by omega); subst hil; rw [List.take_of_length_le (by simp)] at hpre; unfold nmOk; rw [hpre, Bool.eq_iff_iff]; simp [out] <;> omega), hs17.tail.tail⟩
              ·
                try simp only [Bool.not_eq_true', Bool.not_eq_false', decide_eq_true_eq, decide_eq_false_iff_not, Int.not_lt, Int.not_le] at h47
                refine w_skip ?_
                refine q_blk_normal ?_
                refine q_then (hN10 _ _ (Nx.intro (s.size - (i + (Utf8.decode s i).2)) ((by omega)) (by repeat (first | exact agree_mix | refine agree_upd rfl ?_ | refine agree_updL rfl ?_ _ | refine agree_mixin rfl ?_)) ?_))
                have hd1 : s[i].toNat < 128 ∧ (Utf8.decode s i).1 = s[i].toNat ∧ (Utf8.decode s i).2 = 1 := (by rcases hd with h | h; exact h; (exfalso; first | omega | (simp only [Bool.or_eq_true, Bool.and_eq_true, decide_eq_true_eq, Bool.not_eq_true', decide_eq_false_iff_not] at *; omega)))
                have hn1 : nmByte (decide (i = 0)) s[i] = true := (by simp [nmByte]; omega)
                refine ⟨i + 1, rfl, by omega, by rw [hd1.2.2], ?_, by rw [← hd1.2.2]; exact hs17⟩
                rw [name_step s i hi2, hpre, hn1]; rfl
          ·
            try simp only [Bool.not_eq_true', Bool.not_eq_false', decide_eq_true_eq, decide_eq_false_iff_not, Int.not_lt, Int.not_le] at h43
            refine w_skipop rfl rfl rfl ?_
            refine w_skipop rfl rfl rfl ?_
            refine w_skipop rfl rfl rfl ?_
            refine w_skipop' rfl rfl rfl ?_
            refine w_skipop' rfl rfl rfl ?_
            refine w_skipop rfl rfl rfl ?_
            refine w_pure (want_yes rfl rfl rfl) (y_pickF (v := _) rfl rfl rfl rfl) rfl ?_
            refine w_pure (want_yes rfl rfl rfl) (y_pickF (v := .bool _) rfl rfl rfl rfl) rfl ?_
            refine w_pure want_none (y_pickT (v := .bool _) rfl rfl rfl rfl) rfl ?_
            refine w_nil ?_
            refine q_then (hK38 _ _ ?_)
            refine w_condF rfl rfl ?_
            refine w_skip ?_
            refine q_blk_normal ?_
            refine q_then (hN10 _ _ (Nx.intro (s.size - (i + (Utf8.decode s i).2)) ((by omega)) (by repeat (first | exact agree_mix | refine agree_upd rfl ?_ | refine agree_updL rfl ?_ _ | refine agree_mixin rfl ?_)) ?_))
            have hd1 : s[i].toNat < 128 ∧ (Utf8.decode s i).1 = s[i].toNat ∧ (Utf8.decode s i).2 = 1 := (by rcases hd with h | h; exact h; (exfalso; first | omega | (simp only [Bool.or_eq_true, Bool.and_eq_true, decide_eq_true_eq, Bool.not_eq_true', decide_eq_false_iff_not] at *; omega)))
            have hn1 : nmByte (decide (i = 0)) s[i] = true := (by simp [nmByte]; omega)
            refine ⟨i + 1, rfl, by omega, by rw [hd1.2.2], ?_, by rw [← hd1.2.2]; exact hs17⟩
            rw [name_step s i hi2, hpre, hn1]; rfl
    ·
      refine w_pure want_none (y_extract (v := .bool _) rfl rfl rfl) rfl ?_
      refine w_nil ?_
      refine q_then (hK13 _ _ ?_)
      refine w_seq (fun K51 hK50 => ?_)
      refine w_condF rfl rfl ?_
      refine w_exit ?_
      refine q_then_exit ?_
      refine q_then_exit ?_
      refine q_blk_this ?_
      refine q_then (hK3 _ _ ?_)
      refine w_seq (fun K53 hK52 => ?_)
      refine w_region ?_
      refine w_pure want_none (y_move (v := .string _) rfl rfl) rfl ?_
      refine w_pure want_none (y_lenStr Try.underlying9 rfl rfl) rfl ?_
      refine w_bslice (ps := [(0, _)]) (pv := [(0, .int _ _)]) (cs := [_]) want_none rfl rfl (fun w => Try_B_fb0 _ w) hs (fun b54 w55 hs56 => ?_)
      refine w_call want_none Try.call96 rfl rfl rfl rfl (c96 _ _ _ [_] _ (by simp) (sl_own (i := 0) (rows := [[_]]) rfl (by simp) rfl) hs56) ?_
      rintro _ w58 ⟨rfl, hs59⟩
      refine w_pure want_none (y_not rfl rfl) rfl ?_
      refine w_pure want_none (y_assign (v := .bool _) rfl rfl) rfl ?_
      refine w_nil ?_
      refine q_then (hK52 _ _ ?_)
      refine w_ret ?_
      refine q_ret (l := [.tmp 2]) (vs := [_]) rfl ⟨⟨rfl, show _ = (.bool _ : Value) from rfl⟩, trivial⟩ ?_
      first
        | exact ⟨congrArg Value.bool (name_bad s i hi2 (by simp [nmByte]; omega)), hs59.tail⟩
        | exact ⟨congrArg Value.bool (by have hil : i = s.size := (by omega); subst hil; rw [List.take_of_length_le (by simp)] at hpre; unfold nmOk; rw [hpre, Bool.eq_iff_iff]; simp [out] <;> omega), hs59.tail.tail⟩

end Go.Proofs
