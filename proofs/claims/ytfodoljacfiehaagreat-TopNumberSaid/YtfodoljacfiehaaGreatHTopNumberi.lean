/- Own texts of this claim, joined. No conditions. -/
import Derived.OpenShut
import Derived.Test.YtfodoljacfiehaaGreatRows
import Derived.Test.YtfodoljacfiehaaGreatHTopNumbera
import Derived.Test.YtfodoljacfiehaaGreatHTopNumberb
import Derived.Test.YtfodoljacfiehaaGreatHTopNumberc
import Derived.Test.YtfodoljacfiehaaGreatHTopNumberd
import Derived.Test.YtfodoljacfiehaaGreatHTopNumbere
import Derived.Test.YtfodoljacfiehaaGreatHTopNumberf
import Derived.Test.YtfodoljacfiehaaGreatHTopNumberg
import Derived.Test.YtfodoljacfiehaaGreatHTopNumberh
set_option linter.unusedVariables false
set_option linter.unusedSimpArgs false
set_option maxRecDepth 20000
namespace Go.Proofs.Sb
open Go.Proofs.Tryz
open Go.Rt Go.Rt.Sh
attribute [local irreducible] WL WC Con Yd At Ats Sl Agree DW
theorem Try_SN_fb4 (x0 : ByteArray) (w : World) : (Instr.buildSlice 55 1 [(0, .string x0)].toArray).run Tryz.prog w = .ok (.slice (some ⟨w.heap.size, 0, none⟩) 1 1) (w.alloc (Go.Rt.blk 9 [.string x0])) := by kernel_rfl
theorem zHh (a b lo hi : Int) : (ends a b lo hi = 7 ∧ (out lo hi a || out lo hi b) = true) ∨ (ends a b lo hi = 2 ∧ (out lo hi a || out lo hi b) = false ∧ b < a) ∨ (ends a b lo hi = 0 ∧ (out lo hi a || out lo hi b) = false ∧ ¬ b < a) := by
  unfold ends
  cases h : (out lo hi a || out lo hi b)
  · by_cases h2 : b < a
    · exact .inr (.inl ⟨by simp [h2], rfl, h2⟩)
    · exact .inr (.inr ⟨by simp [h2], rfl, h2⟩)
  · exact .inl ⟨rfl, rfl⟩
theorem zDw (lo hi n : Int) : out lo hi n = false ↔ lo ≤ n ∧ n ≤ hi := by unfold out; rw [Bool.or_eq_false_iff]; simp
theorem zFl (lo hi n : Int) : out lo hi n = true ↔ ¬ (lo ≤ n ∧ n ≤ hi) := by rw [← zDw]; simp
theorem room_7 {r : Room} (h : ends r.lo r.hi 0 60 = 7 ∨ ¬ (0 ≤ r.fro ∧ r.fro ≤ 9) ∨ ¬ (0 ≤ r.las ∧ r.las ≤ 9)) : roomOwn r = 7 := by
  unfold roomOwn
  rw [if_pos]
  rw [Bool.or_eq_true, Bool.or_eq_true (out 0 9 r.fro), zFl, zFl]
  rcases h with h | h
  · rcases zHh r.lo r.hi 0 60 with ⟨_, h2⟩ | ⟨h1, _⟩ | ⟨h1, _⟩
    · exact .inl h2
    · omega
    · omega
  · exact .inr h
theorem room_2 {r : Room} (h : ends r.lo r.hi 0 60 ≠ 7) (h1 : 0 ≤ r.fro ∧ r.fro ≤ 9) (h2 : 0 ≤ r.las ∧ r.las ≤ 9) (h3 : ends r.lo r.hi 0 60 = 0) (h4 : r.las < r.fro) : roomOwn r = 2 := by
  unfold roomOwn
  rcases zHh r.lo r.hi 0 60 with ⟨h5, _⟩ | ⟨h5, _⟩ | ⟨_, h5, h6⟩
  · omega
  · omega
  · rw [h5, (zDw _ _ _).2 h1, (zDw _ _ _).2 h2, if_neg (by simp), if_pos (by simp [h4])]
theorem room_e {r : Room} (h : ends r.lo r.hi 0 60 ≠ 7) (h1 : 0 ≤ r.fro ∧ r.fro ≤ 9) (h2 : 0 ≤ r.las ∧ r.las ≤ 9) (h3 : ends r.lo r.hi 0 60 ≠ 0 ∨ ¬ r.las < r.fro) : roomOwn r = ends r.lo r.hi 0 60 := by
  unfold roomOwn
  rcases zHh r.lo r.hi 0 60 with ⟨h5, _⟩ | ⟨h4, h5, h6⟩ | ⟨h4, h5, h6⟩
  · omega
  · rw [h5, (zDw _ _ _).2 h1, (zDw _ _ _).2 h2, if_neg (by simp), if_pos (by simp [h6]), h4]
  · rw [h5, (zDw _ _ _).2 h1, (zDw _ _ _).2 h2, if_neg (by simp), if_neg (by simp; omega), h4]
theorem zGp (b : List ByteArray) (s : ByteArray) : nameE b s = (if nmOk s = false then (6 : Int) else if has b s then 5 else 0) := by unfold nameE; cases nmOk s <;> cases has b s <;> simp
theorem zCp {b : List Room} {r : Room} (h : (if nmOk r.name = false then (6 : Int) else if has (b.map (·.name)) r.name then 5 else 0) = 0) : roomE b r = roomOwn r := by unfold roomE; rw [zGp, h, if_neg (by simp)]
theorem zCx {b : List Room} {r : Room} (h : ¬ (if nmOk r.name = false then (6 : Int) else if has (b.map (·.name)) r.name then 5 else 0) = 0) : roomE b r = (if nmOk r.name = false then (6 : Int) else if has (b.map (·.name)) r.name then 5 else 0) := by unfold roomE; rw [zGp, if_pos h]
theorem zCo {b : List Shop} {r : Shop} (h : (if nmOk r.name = false then (6 : Int) else if has (b.map (·.name)) r.name then 5 else 0) = 0) : shopE b r = shopOwn r := by unfold shopE; rw [zGp, h, if_neg (by simp)]
theorem zCw {b : List Shop} {r : Shop} (h : ¬ (if nmOk r.name = false then (6 : Int) else if has (b.map (·.name)) r.name then 5 else 0) = 0) : shopE b r = (if nmOk r.name = false then (6 : Int) else if has (b.map (·.name)) r.name then 5 else 0) := by unfold shopE; rw [zGp, if_pos h]
theorem zC9 {s : Shop} (h : ¬ (0 ≤ s.day ∧ s.day ≤ 9) ∨ ¬ (1 ≤ s.want ∧ s.want ≤ 60)) : shopOwn s = 7 := by unfold shopOwn; rw [if_pos]; rw [Bool.or_eq_true, zFl, zFl]; exact h
theorem shop_0 {s : Shop} (h : 0 ≤ s.day ∧ s.day ≤ 9) (h2 : 1 ≤ s.want ∧ s.want ≤ 60) : shopOwn s = 0 := by unfold shopOwn; rw [(zDw _ _ _).2 h, (zDw _ _ _).2 h2, if_neg (by simp)]
theorem zCv {m : Market} {b : List Train} {t : Train} (h : ¬ (0 ≤ t.room ∧ t.room ≤ (m.rooms.length : Int) - 1) ∨ ¬ (0 ≤ t.shop ∧ t.shop ≤ (m.shops.length : Int) - 1)) : trainE m b t = 4 := by unfold trainE; rw [if_pos]; rw [Bool.or_eq_true, zFl, zFl]; exact h
theorem zCu {m : Market} {b : List Train} {t : Train} (h1 : 0 ≤ t.room ∧ t.room ≤ (m.rooms.length : Int) - 1) (h2 : 0 ≤ t.shop ∧ t.shop ≤ (m.shops.length : Int) - 1) (h : ¬ (0 ≤ t.days ∧ t.days ≤ 5) ∨ ¬ (1 ≤ t.cap ∧ t.cap ≤ 60)) : trainE m b t = 7 := by
  unfold trainE; rw [(zDw _ _ _).2 h1, (zDw _ _ _).2 h2, if_neg (by simp), if_pos]; rw [Bool.or_eq_true, zFl, zFl]; exact h
theorem train_0 {m : Market} {b : List Train} {t : Train} (h1 : 0 ≤ t.room ∧ t.room ≤ (m.rooms.length : Int) - 1) (h2 : 0 ≤ t.shop ∧ t.shop ≤ (m.shops.length : Int) - 1) (h3 : 0 ≤ t.days ∧ t.days ≤ 5) (h4 : 1 ≤ t.cap ∧ t.cap ≤ 60) : trainE m b t = 0 := by
  unfold trainE; rw [(zDw _ _ _).2 h1, (zDw _ _ _).2 h2, (zDw _ _ _).2 h3, (zDw _ _ _).2 h4]; rfl
theorem zBq {α : Type} {err : List α → α → Int} {most : Int} {l : List α} (h : most < l.length) : failE err most l = (0,3) := by unfold failE; rw [if_pos h]
theorem zA8 {α : Type} {err : List α → α → Int} {most : Int} {l : List α} (h : ¬ most < l.length) : failE err most l = firstE err [] 0 l := by unfold failE; rw [if_neg h]
theorem zDc {m : Market} {a e : Int} (h : failE roomE 3 m.rooms = (a, e)) (he : ¬ e = 0) : check m = (1, a, e) := by unfold check; rw [if_pos (by rw [h]; exact he), h]
theorem zDb {m : Market} {a e : Int} (h1 : (failE roomE 3 m.rooms).2 = 0) (h : failE shopE 4 m.shops = (a, e)) (he : ¬ e = 0) : check m = (2, a, e) := by unfold check; rw [if_neg (by simp [h1]), if_pos (by rw [h]; exact he), h]
theorem zDa {m : Market} {a e : Int} (h1 : (failE roomE 3 m.rooms).2 = 0) (h2 : (failE shopE 4 m.shops).2 = 0) (h : failE (trainE m) 6 m.trains = (a, e)) (he : ¬ e = 0) : check m = (3, a, e) := by unfold check; rw [if_neg (by simp [h1]), if_neg (by simp [h2]), if_pos (by rw [h]; exact he), h]
theorem zGz {m : Market} (h1 : (failE roomE 3 m.rooms).2 = 0) (h2 : (failE shopE 4 m.shops).2 = 0) (h3 : (failE (trainE m) 6 m.trains).2 = 0) : check m = (0,0,0) := by unfold check; rw [if_neg (by simp [h1]), if_neg (by simp [h2]), if_neg (by simp [h3])]
theorem rnames_len {α : Type} {f : α → ByteArray} {l : List α} {i : Nat} (hi : i ≤ l.length) : ((l.take i).map f).length = i := by simp; omega
theorem zFd {α : Type} {f : α → ByteArray} {l : List α} {i : Nat} (hi : i < l.length) : strs ((l.take i).map f) ++ [Value.string (f l[i])] = strs ((l.take (i + 1)).map f) := by
  rw [List.take_succ_eq_append_getElem hi]; simp only [strs, List.map_append, List.map_cons, List.map_nil]
theorem c16 {w0 w : World} {F : List (Nat × Obj)} (r : Room) (hs : St w0 w F) :
  Con Tryz.prog 16 [.agg r.cells.toArray] w fun v w' => v = .int .i64 (roomOwn r) ∧ St w0 w' F := by
  refine zAo (n := 31) func16 rfl rfl (zNl rfl) ?_
  refine zAf (fun K2 gf => (zAa (zCd (v := .agg #[.string _, .int _ _, .int _ _, .int _ _, .int _ _]) (cs := [_,_,_,_,_]) zAc rfl rfl rfl hs (fun b3 w4 gd => ?_))))
  refine zA9 rfl rfl (zAe (zAb (gf _ _ (zAf (fun K7 gg => (zAa (w_p (zAd (o := 1) (i := 1) underlying44 rfl sizeOf28 rfl rfl rfl) rfl (w_p (zAs (vs := [_,_]) isAgg28 sizeOf28 gd rfl rfl (aow 0 [_,_])) rfl ?_))))))))
  refine zCi zAc call18 rfl rfl rfl rfl (c18 _ _ _ _ gd) (fun w9 g4 => ?_)
  refine zBg rfl rfl (zAe (zAb (gg _ _ (zAf (fun gr gh => (zAf (fun gt g6 => (zAa (zA2 rfl rfl (w_p (zCk rfl rfl rfl rfl) rfl (w_p (zAn rfl rfl) rfl ?_)))))))))))
  refine zBk (fun g7 => ?_) (fun g7 => ?_)
  ·
   try simp only [zS] at g7
   refine zAg rfl rfl rfl ?_
   refine zAg rfl rfl rfl ?_
   refine zAg rfl rfl rfl ?_
   refine zAg rfl rfl rfl ?_
   refine w_p (zAt (v := _) rfl rfl rfl rfl) rfl (w_p (zAn rfl rfl) rfl (zAg rfl rfl rfl ?_))
   refine zAg rfl rfl rfl ?_
   refine zAg rfl rfl rfl ?_
   refine zAg rfl rfl rfl ?_
   refine w_p (zAt (v := _) rfl rfl rfl rfl) rfl (zAe (zAb (g6 _ _ (zBz rfl rfl ?_))))
   refine zAf (fun gu gi => (zAa (zA9 rfl rfl (zAe (zAb (gi _ _ (zA0 (zAh (zA1 (l := [.tmp 2]) (vs := [_]) rfl ⟨⟨rfl, (rfl : _ = Value.int _ _)⟩, trivial⟩ ?_)))))))))
   first
     | exact ⟨congrArg (Value.int .i64) (room_7 (by first | exact .inl (by assumption) | exact .inr (.inl (by omega)) | exact .inr (.inr (by omega)))).symm, g4.tail⟩
     | exact ⟨congrArg (Value.int .i64) (room_2 (by omega) (by omega) (by omega) (by omega) (by omega)).symm, g4.tail⟩
     | exact ⟨congrArg (Value.int .i64) (room_e (by omega) (by omega) (by omega) (by omega)).symm, g4.tail⟩
  try simp only [zS] at g7
  refine w_y rfl rfl rfl (zAd (o := 3) (i := 2) underlying44 rfl sizeOf3 rfl rfl rfl) rfl ?_
  refine w_y rfl rfl rfl (zAi isAgg3 g4 rfl rfl (aow 0 [_])) rfl ?_
  refine zA4 (zAm rfl rfl rfl) call17 rfl rfl rfl rfl (c17 _ _ _ g4) ?_
  rintro _ gw ⟨rfl, g5⟩
  refine w_y rfl rfl rfl (zC0 rfl rfl) rfl ?_
  refine w_p (zBb (v := .bool _) rfl rfl rfl rfl) rfl (w_p (zAn rfl rfl) rfl (zBk (fun g8 => ?_) (fun g8 => ?_)))
  ·
   try simp only [zS] at g8
   refine zAg rfl rfl rfl ?_
   refine zAg rfl rfl rfl ?_
   refine zAg rfl rfl rfl ?_
   refine zAg rfl rfl rfl ?_
   refine w_p (zAt (v := _) rfl rfl rfl rfl) rfl (zAe (zAb (g6 _ _ (zBz rfl rfl ?_))))
   refine zAf (fun gx gj => (zAa (zA9 rfl rfl (zAe (zAb (gj _ _ (zA0 (zAh (zA1 (l := [.tmp 2]) (vs := [_]) rfl ⟨⟨rfl, (rfl : _ = Value.int _ _)⟩, trivial⟩ ?_)))))))))
   first
     | exact ⟨congrArg (Value.int .i64) (room_7 (by first | exact .inl (by assumption) | exact .inr (.inl (by omega)) | exact .inr (.inr (by omega)))).symm, g5.tail⟩
     | exact ⟨congrArg (Value.int .i64) (room_2 (by omega) (by omega) (by omega) (by omega) (by omega)).symm, g5.tail⟩
     | exact ⟨congrArg (Value.int .i64) (room_e (by omega) (by omega) (by omega) (by omega)).symm, g5.tail⟩
  try simp only [zS] at g8
  refine w_y rfl rfl rfl (zAd (o := 4) (i := 3) underlying44 rfl sizeOf3 rfl rfl rfl) rfl ?_
  refine w_y rfl rfl rfl (zAi isAgg3 g5 rfl rfl (aow 0 [_])) rfl ?_
  refine zA4 (zAm rfl rfl rfl) call17 rfl rfl rfl rfl (c17 _ _ _ g5) ?_
  rintro _ gy ⟨rfl, g3⟩
  refine w_y rfl rfl rfl (zC0 rfl rfl) rfl ?_
  refine w_p (zBb (v := .bool _) rfl rfl rfl rfl) rfl (zAe (zAb (g6 _ _ (zAv rfl rfl (fun g9 => ?_) (fun g9 => ?_)))))
  ·
   try simp only [zS] at g9
   refine zAf (fun gz gk => (zAa (zA9 rfl rfl (zAe (zAb (gk _ _ (zA0 (zAh (zA1 (l := [.tmp 2]) (vs := [_]) rfl ⟨⟨rfl, (rfl : _ = Value.int _ _)⟩, trivial⟩ ?_)))))))))
   first
     | exact ⟨congrArg (Value.int .i64) (room_7 (by first | exact .inl (by assumption) | exact .inr (.inl (by omega)) | exact .inr (.inr (by omega)))).symm, g3.tail⟩
     | exact ⟨congrArg (Value.int .i64) (room_2 (by omega) (by omega) (by omega) (by omega) (by omega)).symm, g3.tail⟩
     | exact ⟨congrArg (Value.int .i64) (room_e (by omega) (by omega) (by omega) (by omega)).symm, g3.tail⟩
  try simp only [zS] at g9
  refine zAr (zAb (gh _ _ (zAf (fun gA ga => (zAf (fun gB ge => (zAa (zA2 rfl rfl (w_p (zCk rfl rfl rfl rfl) rfl (w_p (zAn rfl rfl) rfl ?_))))))))))
  refine zBk (fun gb => ?_) (fun gb => ?_)
  ·
   try simp only [zS] at gb
   refine w_y rfl rfl rfl (zAd (o := 3) (i := 2) underlying44 rfl sizeOf3 rfl rfl rfl) rfl ?_
   refine w_y rfl rfl rfl (zAi isAgg3 g3 rfl rfl (aow 0 [_])) rfl ?_
   refine w_y rfl rfl rfl (zAd (o := 4) (i := 3) underlying44 rfl sizeOf3 rfl rfl rfl) rfl ?_
   refine w_y rfl rfl rfl (zAi isAgg3 g3 rfl rfl (aow 0 [_])) rfl ?_
   refine w_y rfl rfl rfl (zD5 rfl rfl rfl rfl) rfl ?_
   refine w_p (zAt (v := .bool _) rfl rfl rfl rfl) rfl (zAe (zAb (ge _ _ (zAv rfl rfl (fun gc => ?_) (fun gc => ?_)))))
   ·
    try simp only [zS] at gc
    refine zAa (zA9 rfl rfl (zAe (zAb (ga _ _ (zAf (fun gC gm => (zAa (zA2 rfl rfl (zBg rfl rfl (zAe (zAb (gm _ _ (zA0 (zA1 (l := [.tmp 2]) (vs := [_]) rfl ⟨⟨rfl, (rfl : _ = Value.int _ _)⟩, trivial⟩ ?_))))))))))))))
    first
      | exact ⟨congrArg (Value.int .i64) (room_7 (by first | exact .inl (by assumption) | exact .inr (.inl (by omega)) | exact .inr (.inr (by omega)))).symm, g3.tail⟩
      | exact ⟨congrArg (Value.int .i64) (room_2 (by omega) (by omega) (by omega) (by omega) (by omega)).symm, g3.tail⟩
      | exact ⟨congrArg (Value.int .i64) (room_e (by omega) (by omega) (by omega) (by omega)).symm, g3.tail⟩
   try simp only [zS] at gc
   refine zAr (zAb (ga _ _ (zAf (fun gD gn => (zAa (zA2 rfl rfl (zBg rfl rfl (zAe (zAb (gn _ _ (zA0 (zA1 (l := [.tmp 2]) (vs := [_]) rfl ⟨⟨rfl, (rfl : _ = Value.int _ _)⟩, trivial⟩ ?_))))))))))))
   first
     | exact ⟨congrArg (Value.int .i64) (room_7 (by first | exact .inl (by assumption) | exact .inr (.inl (by omega)) | exact .inr (.inr (by omega)))).symm, g3.tail⟩
     | exact ⟨congrArg (Value.int .i64) (room_2 (by omega) (by omega) (by omega) (by omega) (by omega)).symm, g3.tail⟩
     | exact ⟨congrArg (Value.int .i64) (room_e (by omega) (by omega) (by omega) (by omega)).symm, g3.tail⟩
  try simp only [zS] at gb
  refine zAg rfl rfl rfl ?_
  refine zAg rfl rfl rfl ?_
  refine zAg rfl rfl rfl ?_
  refine zAg rfl rfl rfl ?_
  refine zAg rfl rfl rfl ?_
  refine w_p (zBb (v := _) rfl rfl rfl rfl) rfl (zAe (zAb (ge _ _ (zBj rfl rfl ?_))))
  refine zAr (zAb (ga _ _ (zAf (fun gE gq => (zAa (zA2 rfl rfl (zBg rfl rfl (zAe (zAb (gq _ _ (zA0 (zA1 (l := [.tmp 2]) (vs := [_]) rfl ⟨⟨rfl, (rfl : _ = Value.int _ _)⟩, trivial⟩ ?_))))))))))))
  first
    | exact ⟨congrArg (Value.int .i64) (room_7 (by first | exact .inl (by assumption) | exact .inr (.inl (by omega)) | exact .inr (.inr (by omega)))).symm, g3.tail⟩
    | exact ⟨congrArg (Value.int .i64) (room_2 (by omega) (by omega) (by omega) (by omega) (by omega)).symm, g3.tail⟩
    | exact ⟨congrArg (Value.int .i64) (room_e (by omega) (by omega) (by omega) (by omega)).symm, g3.tail⟩

theorem c4 {w0 w : World} {F : List (Nat × Obj)} (m : Market) (p : At3) (hm : MIn w0 F m p)  (hs : St w0 w F) :
  Con Tryz.prog 4 [.agg (m.cells p).toArray] w fun v w' => v = .tuple #[.int .i64 (check m).1, .int .i64 (check m).2.1, .int .i64 (check m).2.2] ∧ St w0 w' F := by
  refine zAo (n := 142) func4 rfl rfl (zNl rfl) ?_
  obtain ⟨ar, cr, as_, cs, at_, ct⟩ := p
  have hlr := hm.lr
  have hls := hm.ls
  have hlt := hm.lt
  refine zAf (fun K2 gR => (zAa (zCd (v := .agg #[.slice _ _ _, .slice _ _ _, .slice _ _ _]) (cs := [_,_,_]) zAc rfl rfl rfl hs (fun b3 w4 g7 => ?_))))
  refine zA9 rfl rfl (zA9 rfl rfl (zA9 rfl rfl (zAe (zAb (gR _ _ (zAf (fun K7 gS => (zAf (fun K9 gT => (zAa (w_p (zAd (o := 0) (i := 0) underlying26 rfl sizeOf22 rfl rfl rfl) rfl ?_)))))))))))
  refine w_p (zAi isAgg22 g7 rfl rfl (aow 0 [_])) rfl (w_p (zBd underlying22 rfl rfl) rfl (w_p (zD5 rfl rfl rfl rfl) rfl (zAe ?_)))
  refine zAb (gT _ _ (zAv rfl rfl (fun gg => ?_) (fun gg => ?_)))
  ·
   try simp only [zS] at gg
   refine zAf (fun jN gU => (zAa (zA9 rfl rfl (zA9 rfl rfl (zA9 rfl rfl (zAe (zAb (gU _ _ (zA0 (zAh (zA1 (l := [.tmp 2, .tmp 3, .tmp 4]) (vs := [_,_,_]) rfl ⟨⟨rfl, (rfl : _ = Value.int _ _)⟩, ⟨rfl, (rfl : _ = Value.int _ _)⟩, ⟨rfl, (rfl : _ = Value.int _ _)⟩, trivial⟩ ?_)))))))))))
   first
     | contradiction
     | exact ⟨tup3 (zDc (zBq (by omega)) (by decide)), g7.tail⟩
     | exact ⟨tup3 (zDb hE1 (zBq (by omega)) (by decide)), g7.tail⟩
     | exact ⟨tup3 (zDa hE1 hE2 (zBq (by omega)) (by decide)), g7.tail⟩
     | exact ⟨tup3 (zDc (by rw [zA8 (by omega), hinv, zAp hi2 (by rw [zCx (by assumption)]; assumption), zCx (by assumption)]) (by assumption)), g7.tail⟩
     | exact ⟨tup3 (zDc (by rw [zA8 (by omega), hinv, zAp hi2 (by rw [zCp (by assumption)]; assumption), zCp (by assumption)]) (by assumption)), g7.tail⟩
     | exact ⟨tup3 (zDb hE1 (by rw [zA8 (by omega), hinv, zAp hi2 (by rw [zCw (by assumption)]; assumption), zCw (by assumption)]) (by assumption)), g7.tail⟩
     | exact ⟨tup3 (zDb hE1 (by rw [zA8 (by omega), hinv, zAp hi2 (by rw [zCo (by assumption), zC9 (by omega)]; decide), zCo (by assumption), zC9 (by omega)]) (by decide)), g7.tail⟩
     | exact ⟨tup3 (zDa hE1 hE2 (by rw [zA8 (by omega), hinv, zAp hi2 (by rw [zCv (by omega)]; decide), zCv (by omega)]) (by decide)), g7.tail⟩
     | exact ⟨tup3 (zDa hE1 hE2 (by rw [zA8 (by omega), hinv, zAp hi2 (by rw [zCu (by omega) (by omega) (by omega)]; decide), zCu (by omega) (by omega) (by omega)]) (by decide)), g7.tail⟩
     | exact ⟨tup3 (zGz hE1 hE2 (by rw [zA8 (by omega), hinv, zB4 (by omega)])), g7.tail⟩
  try simp only [zS] at gg
  refine zAr (zAb (gS _ _ (zAf (fun jO gV => (zAa (zA9 rfl rfl (zAe (zAb (gV _ _ (zAf (fun jP gW => (zAf (fun jQ gX => (zAa (zA9 rfl rfl ?_)))))))))))))))
  refine zAe (zAb (gX _ _ (zAw ?_)))
  refine zB2 [2,3,4,5,6,7,17,18,19,20,21,22,23,24,25,26,27,28,29,30,31,32,33,34,35,36,37,38,39,40,41,42,43,44,45,46,47,48,49,50,51,52] [5,6] (fun k vs w => ∃ (i : Nat) (v : Value) (B : List (Nat × Obj)), vs = [v, .int .i64 i] ∧ i ≤ m.rooms.length ∧ k = m.rooms.length - i ∧ firstE roomE [] 0 m.rooms = firstE roomE (m.rooms.take i) (i : Nat) (m.rooms.drop i) ∧ Rt.Own v 9 1 i (strs ((m.rooms.take i).map (·.name))) B ∧ St w0 w ((b3, blk 26 (m.cells ⟨ar, cr, as_, cs, at_, ct⟩)) :: (B ++ F))) (m.rooms.length) ?_ ?_
  ·
   exact ⟨0, _, [], rfl, by omega, by omega, by simp, zEv 9 1, g7⟩
  intro k vs μ jR hI jS gG
  obtain ⟨i, v, B, rfl, hia, rfl, hinv, hown, hs⟩ := hI
  refine zAf (fun jT gY => (zAf (fun jU gZ => (zAa (zA2 rfl rfl (w_p (zAd (o := 0) (i := 0) underlying26 rfl sizeOf22 rfl rfl rfl) rfl (w_p (zAi isAgg22 hs rfl rfl (aow 0 [_])) rfl ?_)))))))
  refine w_p (zBd underlying22 rfl rfl) rfl (w_p (zCb rfl rfl rfl rfl) rfl (zAe (zAb (gZ _ _ (zAv rfl rfl (fun gh => ?_) (fun gh => ?_))))))
  ·
   try simp only [zS] at gh
   refine zAr (zAb (gY _ _ (zAf (fun jV gH => (zAw ?_)))))
   refine zAf (fun jW hG => ?_)
   have hi2 : i < m.rooms.length := by omega
   have hn2 := rnames_len (f := (·.name)) hia
   obtain ⟨r1, or1, hbr1, hxr1⟩ := sl_rrows hm.r hi2
   obtain ⟨an, cn, rfl, hsn⟩ := zEe (w0 := w0) hown hn2 F
   have hnl : ((m.rooms.take i).map (·.name)).length ≤ 1000000 := by omega
   subst hbr1
   refine zAa (w_p (zAd (o := 0) (i := 0) underlying26 rfl sizeOf22 rfl rfl rfl) rfl (w_p (zAi isAgg22 hs rfl rfl (aow 0 [_])) rfl (zA2 rfl rfl (w_p (zA7 underlying22 sizeOf44 rfl rfl rfl rfl (i := _) rfl (by omega)) rfl ?_))))
   refine w_p (zAd (o := 0) (i := 0) underlying44 rfl sizeOf9 rfl rfl rfl) rfl (w_p (zAi isAgg9 hs.tail.drop rfl rfl (show Ats _ _ _ _ [_] from Ats.part hxr1 0 1)) rfl (w_p (zAx rfl rfl) rfl (zCi zAc call15 rfl rfl rfl rfl (c15 _ _ _ _ (hm.nr _ (List.getElem_mem hi2)) (by omega) hsn.cons hs) (fun jX gi => ?_))))
   refine zBg rfl rfl (zAe (zAb (hG _ _ (zAf (fun jY hH => (zAa (w_p (zAx rfl rfl) rfl (w_p (zAd (o := 0) (i := 0) underlying26 rfl sizeOf22 rfl rfl rfl) rfl ?_))))))))
   refine w_p (zAi isAgg22 gi rfl rfl (aow 0 [_])) rfl (zA2 rfl rfl (w_p (zA7 underlying22 sizeOf44 rfl rfl rfl rfl (i := _) rfl (by omega)) rfl (w_p (zAd (o := 0) (i := 0) underlying44 rfl sizeOf9 rfl rfl rfl) rfl (w_p (zAi isAgg9 gi.tail.drop rfl rfl (show Ats _ _ _ _ [_] from Ats.part hxr1 0 1)) rfl ?_))))
   refine zBc (ps := [(0, _)]) (pv := [(0, .string _)]) (cs := [_]) zAc rfl rfl (fun w => Try_SN_fb4 _ w) gi (fun jZ k4 hO => ?_)
   refine zDd (X := (_ :: _ :: [])) (B := B) (rows := [[_]]) (sz := 1) (bytes := 16) zAc underlying55 zE3 rfl rfl rfl rfl rfl rfl rfl rfl rfl hO hown (zBx (i := 0) rfl (by simp) rfl) rfl (by simp) (by simp [Value.oneCell']) (by simp only [maxLen]; omega) (by omega) (fun hY k5 j0 gI g4 => ?_)
   replace g4 := (show St _ _ (_ :: _ :: j0 ++ (F)) from g4)
   refine w_p (zB9 (v := hY) rfl rfl) rfl (zAe (zAb (hH _ _ (zAf (fun k6 gJ => (zAf (fun k7 j1 => (zAa (zA2 rfl rfl (w_p (zCk rfl rfl rfl rfl) rfl ?_))))))))))
   refine zAe (zAb (j1 _ _ (zAv rfl rfl (fun gj => ?_) (fun gj => ?_))))
   ·
    try simp only [zS] at gj
    refine zAa (w_p (zAd (o := 0) (i := 0) underlying26 rfl sizeOf22 rfl rfl rfl) rfl (w_p (zAi isAgg22 g4 rfl rfl (aow 1 [_])) rfl (zA2 rfl rfl (w_p (zA7 underlying22 sizeOf44 rfl rfl rfl rfl (i := _) rfl (by omega)) rfl ?_))))
    refine w_p (zAs (vs := [_,_,_,_,_]) isAgg44 sizeOf44 g4.tail.tail.drop rfl rfl hxr1) rfl (zCi zAc call16 rfl rfl rfl rfl (c16 _ g4) (fun k8 gd => ?_))
    refine zBg rfl rfl (zAe (zAb (gJ _ _ (zAf (fun k9 j3 => (zAa (zA2 rfl rfl (w_p (zCj rfl rfl rfl rfl) rfl (zAe (zAb (j3 _ _ (zAv rfl rfl (fun gk => ?_) (fun gk => ?_)))))))))))))
    ·
     try simp only [zS] at gk
     refine zAf (fun ka j4 => (zAa (zA2 rfl rfl (zA2 rfl rfl (zA9 rfl rfl (zBg rfl rfl (zBg rfl rfl (zAe (zAb (j4 _ _ (zA0 (zAz (zAh (zAh (zAz (zAh (zA1 (l := [.tmp 2, .tmp 3, .tmp 4]) (vs := [_,_,_]) rfl ⟨⟨rfl, (rfl : _ = Value.int _ _)⟩, ⟨rfl, (rfl : _ = Value.int _ _)⟩, ⟨rfl, (rfl : _ = Value.int _ _)⟩, trivial⟩ ?_)))))))))))))))))
     first
       | contradiction
       | exact ⟨tup3 (zDc (zBq (by omega)) (by decide)), gd.tail.tail.drop⟩
       | exact ⟨tup3 (zDb hE1 (zBq (by omega)) (by decide)), gd.tail.tail.drop⟩
       | exact ⟨tup3 (zDa hE1 hE2 (zBq (by omega)) (by decide)), gd.tail.tail.drop⟩
       | exact ⟨tup3 (zDc (by rw [zA8 (by omega), hinv, zAp hi2 (by rw [zCx (by assumption)]; assumption), zCx (by assumption)]) (by assumption)), gd.tail.tail.drop⟩
       | exact ⟨tup3 (zDc (by rw [zA8 (by omega), hinv, zAp hi2 (by rw [zCp (by assumption)]; assumption), zCp (by assumption)]) (by assumption)), gd.tail.tail.drop⟩
       | exact ⟨tup3 (zDb hE1 (by rw [zA8 (by omega), hinv, zAp hi2 (by rw [zCw (by assumption)]; assumption), zCw (by assumption)]) (by assumption)), gd.tail.tail.drop⟩
       | exact ⟨tup3 (zDb hE1 (by rw [zA8 (by omega), hinv, zAp hi2 (by rw [zCo (by assumption), zC9 (by omega)]; decide), zCo (by assumption), zC9 (by omega)]) (by decide)), gd.tail.tail.drop⟩
       | exact ⟨tup3 (zDa hE1 hE2 (by rw [zA8 (by omega), hinv, zAp hi2 (by rw [zCv (by omega)]; decide), zCv (by omega)]) (by decide)), gd.tail.tail.drop⟩
       | exact ⟨tup3 (zDa hE1 hE2 (by rw [zA8 (by omega), hinv, zAp hi2 (by rw [zCu (by omega) (by omega) (by omega)]; decide), zCu (by omega) (by omega) (by omega)]) (by decide)), gd.tail.tail.drop⟩
       | exact ⟨tup3 (zGz hE1 hE2 (by rw [zA8 (by omega), hinv, zB4 (by omega)])), gd.tail.tail.drop⟩
    try simp only [zS] at gk
    refine zAr (zAk (zAb (gH _ _ (zAa (zA2 rfl rfl (w_p (zBe rfl rfl rfl rfl (by omega) (by omega)) rfl (zBg rfl rfl (zAe (zAb (gG _ _ (nxI (m.rooms.length - (i + 1)) (by omega) ?_)))))))))))
    first
      | contradiction
      | exact ⟨i + 1, _,_, rfl, by omega, rfl, hinv.trans (zDj hi2 (by rw [zCp (by assumption)]; assumption)), by rw [← zFd hi2]; exact gI, gd.tail⟩
   try simp only [zS] at gj
   refine zAr (zAb (gJ _ _ (zAf (fun kb j5 => (zAa (zA2 rfl rfl (w_p (zCj rfl rfl rfl rfl) rfl (zAe (zAb (j5 _ _ (zAv rfl rfl (fun gm => ?_) (fun gm => ?_))))))))))))
   ·
    try simp only [zS] at gm
    refine zAf (fun kc j6 => (zAa (zA2 rfl rfl (zA2 rfl rfl (zA9 rfl rfl (zBg rfl rfl (zBg rfl rfl (zAe (zAb (j6 _ _ (zA0 (zAz (zAh (zAh (zAz (zAh (zA1 (l := [.tmp 2, .tmp 3, .tmp 4]) (vs := [_,_,_]) rfl ⟨⟨rfl, (rfl : _ = Value.int _ _)⟩, ⟨rfl, (rfl : _ = Value.int _ _)⟩, ⟨rfl, (rfl : _ = Value.int _ _)⟩, trivial⟩ ?_)))))))))))))))))
    first
      | contradiction
      | exact ⟨tup3 (zDc (zBq (by omega)) (by decide)), g4.tail.tail.drop⟩
      | exact ⟨tup3 (zDb hE1 (zBq (by omega)) (by decide)), g4.tail.tail.drop⟩
      | exact ⟨tup3 (zDa hE1 hE2 (zBq (by omega)) (by decide)), g4.tail.tail.drop⟩
      | exact ⟨tup3 (zDc (by rw [zA8 (by omega), hinv, zAp hi2 (by rw [zCx (by assumption)]; assumption), zCx (by assumption)]) (by assumption)), g4.tail.tail.drop⟩
      | exact ⟨tup3 (zDc (by rw [zA8 (by omega), hinv, zAp hi2 (by rw [zCp (by assumption)]; assumption), zCp (by assumption)]) (by assumption)), g4.tail.tail.drop⟩
      | exact ⟨tup3 (zDb hE1 (by rw [zA8 (by omega), hinv, zAp hi2 (by rw [zCw (by assumption)]; assumption), zCw (by assumption)]) (by assumption)), g4.tail.tail.drop⟩
      | exact ⟨tup3 (zDb hE1 (by rw [zA8 (by omega), hinv, zAp hi2 (by rw [zCo (by assumption), zC9 (by omega)]; decide), zCo (by assumption), zC9 (by omega)]) (by decide)), g4.tail.tail.drop⟩
      | exact ⟨tup3 (zDa hE1 hE2 (by rw [zA8 (by omega), hinv, zAp hi2 (by rw [zCv (by omega)]; decide), zCv (by omega)]) (by decide)), g4.tail.tail.drop⟩
      | exact ⟨tup3 (zDa hE1 hE2 (by rw [zA8 (by omega), hinv, zAp hi2 (by rw [zCu (by omega) (by omega) (by omega)]; decide), zCu (by omega) (by omega) (by omega)]) (by decide)), g4.tail.tail.drop⟩
      | exact ⟨tup3 (zGz hE1 hE2 (by rw [zA8 (by omega), hinv, zB4 (by omega)])), g4.tail.tail.drop⟩
   try simp only [zS] at gm
   refine zAr (zAk (zAb (gH _ _ (zAa (zA2 rfl rfl (w_p (zBe rfl rfl rfl rfl (by omega) (by omega)) rfl (zBg rfl rfl (zAe (zAb (gG _ _ (nxI (m.rooms.length - (i + 1)) (by omega) ?_)))))))))))
   first
     | contradiction
     | exact ⟨i + 1, _,_, rfl, by omega, rfl, hinv.trans (zDj hi2 (by rw [zCp (by assumption)]; assumption)), by rw [← zFd hi2]; exact gI, g4.tail⟩
  try simp only [zS] at gh
  refine zBr (zAj (zAj (zAy (zAb (gW _ _ (zAf (fun kd j7 => (zAf (fun ke j9 => ?_)))))))))
  have hE1 : (failE roomE 3 m.rooms).2 = 0 := by rw [zA8 (by omega), hinv, zB4 (by omega)]
  have g8 := zFs (Y := B) (show St _ _ (_ :: (B ++ F)) from hs)
  refine zAa (w_p (zAd (o := 1) (i := 1) underlying26 rfl sizeOf23 rfl rfl rfl) rfl (w_p (zAi isAgg23 g8 rfl rfl (aow 0 [_])) rfl (w_p (zBd underlying23 rfl rfl) rfl (w_p (zD5 rfl rfl rfl rfl) rfl (zAe ?_)))))
  refine zAb (j9 _ _ (zAv rfl rfl (fun gn => ?_) (fun gn => ?_)))
  ·
   try simp only [zS] at gn
   refine zAf (fun kf ja => (zAa (zA9 rfl rfl (zA9 rfl rfl (zA9 rfl rfl (zAe (zAb (ja _ _ (zA0 (zAh (zA1 (l := [.tmp 2, .tmp 3, .tmp 4]) (vs := [_,_,_]) rfl ⟨⟨rfl, (rfl : _ = Value.int _ _)⟩, ⟨rfl, (rfl : _ = Value.int _ _)⟩, ⟨rfl, (rfl : _ = Value.int _ _)⟩, trivial⟩ ?_)))))))))))
   first
     | contradiction
     | exact ⟨tup3 (zDc (zBq (by omega)) (by decide)), g8.tail⟩
     | exact ⟨tup3 (zDb hE1 (zBq (by omega)) (by decide)), g8.tail⟩
     | exact ⟨tup3 (zDa hE1 hE2 (zBq (by omega)) (by decide)), g8.tail⟩
     | exact ⟨tup3 (zDc (by rw [zA8 (by omega), hinv, zAp hi2 (by rw [zCx (by assumption)]; assumption), zCx (by assumption)]) (by assumption)), g8.tail⟩
     | exact ⟨tup3 (zDc (by rw [zA8 (by omega), hinv, zAp hi2 (by rw [zCp (by assumption)]; assumption), zCp (by assumption)]) (by assumption)), g8.tail⟩
     | exact ⟨tup3 (zDb hE1 (by rw [zA8 (by omega), hinv, zAp hi2 (by rw [zCw (by assumption)]; assumption), zCw (by assumption)]) (by assumption)), g8.tail⟩
     | exact ⟨tup3 (zDb hE1 (by rw [zA8 (by omega), hinv, zAp hi2 (by rw [zCo (by assumption), zC9 (by omega)]; decide), zCo (by assumption), zC9 (by omega)]) (by decide)), g8.tail⟩
     | exact ⟨tup3 (zDa hE1 hE2 (by rw [zA8 (by omega), hinv, zAp hi2 (by rw [zCv (by omega)]; decide), zCv (by omega)]) (by decide)), g8.tail⟩
     | exact ⟨tup3 (zDa hE1 hE2 (by rw [zA8 (by omega), hinv, zAp hi2 (by rw [zCu (by omega) (by omega) (by omega)]; decide), zCu (by omega) (by omega) (by omega)]) (by decide)), g8.tail⟩
     | exact ⟨tup3 (zGz hE1 hE2 (by rw [zA8 (by omega), hinv, zB4 (by omega)])), g8.tail⟩
  try simp only [zS] at gn
  refine zAr (zAb (j7 _ _ (zAf (fun kg jb => (zAa (zA9 rfl rfl (zAe (zAb (jb _ _ (zAf (fun kh jc => (zAf (fun ki jd => (zAa (zA9 rfl rfl ?_)))))))))))))))
  refine zAe (zAb (jd _ _ (zAw ?_)))
  refine zB2 [2,3,4,5,8,9,10,57,58,59,60,61,62,63,64,65,66,67,68,69,70,71,72,73,74,75,76,77,78,79,80,81,82,83,84,85,86,87,88,89,90,91,92,93,94,95] [5,8] (fun k vs w => ∃ (i : Nat) (v : Value) (B : List (Nat × Obj)), vs = [v, .int .i64 i] ∧ i ≤ m.shops.length ∧ k = m.shops.length - i ∧ firstE shopE [] 0 m.shops = firstE shopE (m.shops.take i) (i : Nat) (m.shops.drop i) ∧ Rt.Own v 9 1 i (strs ((m.shops.take i).map (·.name))) B ∧ St w0 w ((b3, blk 26 (m.cells ⟨ar, cr, as_, cs, at_, ct⟩)) :: (B ++ F))) (m.shops.length) ?_ ?_
  ·
   exact ⟨0, _, [], rfl, by omega, by omega, by simp, zEv 9 1, g8⟩
  intro k vs μ kj hI km gK
  obtain ⟨i, v, B, rfl, hia, rfl, hinv, hown, hs⟩ := hI
  refine zAf (fun kn je => (zAf (fun ko jf => (zAa (zA2 rfl rfl (w_p (zAd (o := 1) (i := 1) underlying26 rfl sizeOf23 rfl rfl rfl) rfl (w_p (zAi isAgg23 hs rfl rfl (aow 0 [_])) rfl ?_)))))))
  refine w_p (zBd underlying23 rfl rfl) rfl (w_p (zCb rfl rfl rfl rfl) rfl (zAe (zAb (jf _ _ (zAv rfl rfl (fun gq => ?_) (fun gq => ?_))))))
  ·
   try simp only [zS] at gq
   refine zAr (zAb (je _ _ (zAf (fun kp gL => (zAw ?_)))))
   refine zAf (fun kr jg => ?_)
   have hi2 : i < m.shops.length := by omega
   have hn2 := rnames_len (f := (·.name)) hia
   obtain ⟨s1, os1, hbs1, hxs1⟩ := sl_srows hm.s hi2
   obtain ⟨an, cn, rfl, hsn⟩ := zEe (w0 := w0) hown hn2 F
   have hnl : ((m.shops.take i).map (·.name)).length ≤ 1000000 := by omega
   subst hbs1
   refine zAa (w_p (zAd (o := 1) (i := 1) underlying26 rfl sizeOf23 rfl rfl rfl) rfl (w_p (zAi isAgg23 hs rfl rfl (aow 0 [_])) rfl (zA2 rfl rfl (w_p (zA7 underlying23 sizeOf51 rfl rfl rfl rfl (i := _) rfl (by omega)) rfl ?_))))
   refine w_p (zAs (vs := [_,_,_]) isAgg51 sizeOf51 hs.tail.drop rfl rfl hxs1) rfl (zA5 (cs := [_,_,_]) zAc zeroValue51 rfl hs (fun ku kw jh => ?_))
   refine zBt 0 (.agg #[.string _, .int _ _, .int _ _]) [_,_,_] sizeOf51 jh (fun kx gM => ?_)
   refine zAe (zAb (jg _ _ (zAf (fun ky ji => (zAa (w_p (zAd (o := 0) (i := 0) underlying51 rfl sizeOf9 rfl rfl rfl) rfl (w_p (zAi isAgg9 gM rfl rfl (aow 0 [_])) rfl ?_)))))))
   refine w_p (zAx rfl rfl) rfl (zCi zAc call15 rfl rfl rfl rfl (c15 _ _ _ _ (hm.ns _ (List.getElem_mem hi2)) (by omega) hsn.cons.cons gM) (fun kz gN => ?_))
   refine zBg rfl rfl (zAe (zAb (ji _ _ (zAf (fun kA jj => (zAa (w_p (zAx rfl rfl) rfl (w_p (zAd (o := 0) (i := 0) underlying51 rfl sizeOf9 rfl rfl rfl) rfl ?_))))))))
   refine w_p (zAi isAgg9 gN rfl rfl (aow 0 [_])) rfl ?_
   refine zBc (ps := [(0, _)]) (pv := [(0, .string _)]) (cs := [_]) zAc rfl rfl (fun w => Try_SN_fb4 _ w) gN (fun kB kC jk => ?_)
   refine zDd (X := (_ :: _ :: _ :: [])) (B := B) (rows := [[_]]) (sz := 1) (bytes := 16) zAc underlying55 zE3 rfl rfl rfl rfl rfl rfl rfl rfl rfl jk hown (zBx (i := 0) rfl (by simp) rfl) rfl (by simp) (by simp [Value.oneCell']) (by simp only [maxLen]; omega) (by omega) (fun jl kD jm gO g5 => ?_)
   replace g5 := (show St _ _ (_ :: _ :: _ :: jm ++ (F)) from g5)
   refine w_p (zB9 (v := jl) rfl rfl) rfl (zAe (zAb (jj _ _ (zAf (fun kE gf => (zAf (fun kF gr => (zAa (zA2 rfl rfl (w_p (zCk rfl rfl rfl rfl) rfl ?_))))))))))
   refine w_p (zAn rfl rfl) rfl (zBk (fun gt => ?_) (fun gt => ?_))
   ·
    try simp only [zS] at gt
    refine w_y rfl rfl rfl (zAd (o := 1) (i := 1) underlying51 rfl sizeOf3 rfl rfl rfl) rfl ?_
    refine w_y rfl rfl rfl (zAi isAgg3 g5 rfl rfl (aow 1 [_])) rfl ?_
    refine zA4 (zAm rfl rfl rfl) call17 rfl rfl rfl rfl (c17 _ _ _ g5) ?_
    rintro _ kG ⟨rfl, g9⟩
    refine w_y rfl rfl rfl (zC0 rfl rfl) rfl ?_
    refine w_y rfl rfl rfl (zAn rfl rfl) rfl ?_
    refine zBk (fun gu => ?_) (fun gu => ?_)
    ·
     try simp only [zS] at gu
     refine zAg rfl rfl rfl ?_
     refine zAg rfl rfl rfl ?_
     refine zAg rfl rfl rfl ?_
     refine zAg rfl rfl rfl ?_
     refine w_y rfl rfl rfl (zAt (v := _) rfl rfl rfl rfl) rfl ?_
     refine w_p (zAt (v := .bool _) rfl rfl rfl rfl) rfl (zAe (zAb (gr _ _ (zBz rfl rfl ?_))))
     refine zAa (zA9 rfl rfl (zAe (zAb (gf _ _ (zAf (fun kH jo => (zAa (zA2 rfl rfl (w_p (zCj rfl rfl rfl rfl) rfl (zAe (zAb (jo _ _ (zBz rfl rfl ?_)))))))))))))
     refine zAf (fun kI jp => (zAa (zA2 rfl rfl (zA2 rfl rfl (zA9 rfl rfl (zBg rfl rfl (zBg rfl rfl (zAe (zAb (jp _ _ (zA0 (zAz (zAh (zAh (zAz (zAh (zA1 (l := [.tmp 2, .tmp 3, .tmp 4]) (vs := [_,_,_]) rfl ⟨⟨rfl, (rfl : _ = Value.int _ _)⟩, ⟨rfl, (rfl : _ = Value.int _ _)⟩, ⟨rfl, (rfl : _ = Value.int _ _)⟩, trivial⟩ ?_)))))))))))))))))
     first
       | contradiction
       | exact ⟨tup3 (zDc (zBq (by omega)) (by decide)), g9.tail.tail.tail.drop⟩
       | exact ⟨tup3 (zDb hE1 (zBq (by omega)) (by decide)), g9.tail.tail.tail.drop⟩
       | exact ⟨tup3 (zDa hE1 hE2 (zBq (by omega)) (by decide)), g9.tail.tail.tail.drop⟩
       | exact ⟨tup3 (zDc (by rw [zA8 (by omega), hinv, zAp hi2 (by rw [zCx (by assumption)]; assumption), zCx (by assumption)]) (by assumption)), g9.tail.tail.tail.drop⟩
       | exact ⟨tup3 (zDc (by rw [zA8 (by omega), hinv, zAp hi2 (by rw [zCp (by assumption)]; assumption), zCp (by assumption)]) (by assumption)), g9.tail.tail.tail.drop⟩
       | exact ⟨tup3 (zDb hE1 (by rw [zA8 (by omega), hinv, zAp hi2 (by rw [zCw (by assumption)]; assumption), zCw (by assumption)]) (by assumption)), g9.tail.tail.tail.drop⟩
       | exact ⟨tup3 (zDb hE1 (by rw [zA8 (by omega), hinv, zAp hi2 (by rw [zCo (by assumption), zC9 (by omega)]; decide), zCo (by assumption), zC9 (by omega)]) (by decide)), g9.tail.tail.tail.drop⟩
       | exact ⟨tup3 (zDa hE1 hE2 (by rw [zA8 (by omega), hinv, zAp hi2 (by rw [zCv (by omega)]; decide), zCv (by omega)]) (by decide)), g9.tail.tail.tail.drop⟩
       | exact ⟨tup3 (zDa hE1 hE2 (by rw [zA8 (by omega), hinv, zAp hi2 (by rw [zCu (by omega) (by omega) (by omega)]; decide), zCu (by omega) (by omega) (by omega)]) (by decide)), g9.tail.tail.tail.drop⟩
       | exact ⟨tup3 (zGz hE1 hE2 (by rw [zA8 (by omega), hinv, zB4 (by omega)])), g9.tail.tail.tail.drop⟩
    try simp only [zS] at gu
    refine w_y rfl rfl rfl (zAd (o := 2) (i := 2) underlying51 rfl sizeOf3 rfl rfl rfl) rfl ?_
    refine w_y rfl rfl rfl (zAi isAgg3 g9 rfl rfl (aow 1 [_])) rfl ?_
    refine zA4 (zAm rfl rfl rfl) call17 rfl rfl rfl rfl (c17 _ _ _ g9) ?_
    rintro _ kJ ⟨rfl, g3⟩
    refine w_y rfl rfl rfl (zC0 rfl rfl) rfl ?_
    refine w_y rfl rfl rfl (zBb (v := .bool _) rfl rfl rfl rfl) rfl ?_
    refine w_p (zAt (v := .bool _) rfl rfl rfl rfl) rfl (zAe (zAb (gr _ _ (zAv rfl rfl (fun gw => ?_) (fun gw => ?_)))))
    ·
     try simp only [zS] at gw
     refine zAa (zA9 rfl rfl (zAe (zAb (gf _ _ (zAf (fun kK jq => (zAa (zA2 rfl rfl (w_p (zCj rfl rfl rfl rfl) rfl (zAe (zAb (jq _ _ (zBz rfl rfl ?_)))))))))))))
     refine zAf (fun kL jr => (zAa (zA2 rfl rfl (zA2 rfl rfl (zA9 rfl rfl (zBg rfl rfl (zBg rfl rfl (zAe (zAb (jr _ _ (zA0 (zAz (zAh (zAh (zAz (zAh (zA1 (l := [.tmp 2, .tmp 3, .tmp 4]) (vs := [_,_,_]) rfl ⟨⟨rfl, (rfl : _ = Value.int _ _)⟩, ⟨rfl, (rfl : _ = Value.int _ _)⟩, ⟨rfl, (rfl : _ = Value.int _ _)⟩, trivial⟩ ?_)))))))))))))))))
     first
       | contradiction
       | exact ⟨tup3 (zDc (zBq (by omega)) (by decide)), g3.tail.tail.tail.drop⟩
       | exact ⟨tup3 (zDb hE1 (zBq (by omega)) (by decide)), g3.tail.tail.tail.drop⟩
       | exact ⟨tup3 (zDa hE1 hE2 (zBq (by omega)) (by decide)), g3.tail.tail.tail.drop⟩
       | exact ⟨tup3 (zDc (by rw [zA8 (by omega), hinv, zAp hi2 (by rw [zCx (by assumption)]; assumption), zCx (by assumption)]) (by assumption)), g3.tail.tail.tail.drop⟩
       | exact ⟨tup3 (zDc (by rw [zA8 (by omega), hinv, zAp hi2 (by rw [zCp (by assumption)]; assumption), zCp (by assumption)]) (by assumption)), g3.tail.tail.tail.drop⟩
       | exact ⟨tup3 (zDb hE1 (by rw [zA8 (by omega), hinv, zAp hi2 (by rw [zCw (by assumption)]; assumption), zCw (by assumption)]) (by assumption)), g3.tail.tail.tail.drop⟩
       | exact ⟨tup3 (zDb hE1 (by rw [zA8 (by omega), hinv, zAp hi2 (by rw [zCo (by assumption), zC9 (by omega)]; decide), zCo (by assumption), zC9 (by omega)]) (by decide)), g3.tail.tail.tail.drop⟩
       | exact ⟨tup3 (zDa hE1 hE2 (by rw [zA8 (by omega), hinv, zAp hi2 (by rw [zCv (by omega)]; decide), zCv (by omega)]) (by decide)), g3.tail.tail.tail.drop⟩
       | exact ⟨tup3 (zDa hE1 hE2 (by rw [zA8 (by omega), hinv, zAp hi2 (by rw [zCu (by omega) (by omega) (by omega)]; decide), zCu (by omega) (by omega) (by omega)]) (by decide)), g3.tail.tail.tail.drop⟩
       | exact ⟨tup3 (zGz hE1 hE2 (by rw [zA8 (by omega), hinv, zB4 (by omega)])), g3.tail.tail.tail.drop⟩
    try simp only [zS] at gw
    refine zAr (zAb (gf _ _ (zAf (fun kM js => (zAa (zA2 rfl rfl (w_p (zCj rfl rfl rfl rfl) rfl (zAe (zAb (js _ _ (zAv rfl rfl (fun gx => ?_) (fun gx => ?_))))))))))))
    ·
     try simp only [zS] at gx
     refine zAf (fun kN jt => (zAa (zA2 rfl rfl (zA2 rfl rfl (zA9 rfl rfl (zBg rfl rfl (zBg rfl rfl (zAe (zAb (jt _ _ (zA0 (zAz (zAh (zAh (zAz (zAh (zA1 (l := [.tmp 2, .tmp 3, .tmp 4]) (vs := [_,_,_]) rfl ⟨⟨rfl, (rfl : _ = Value.int _ _)⟩, ⟨rfl, (rfl : _ = Value.int _ _)⟩, ⟨rfl, (rfl : _ = Value.int _ _)⟩, trivial⟩ ?_)))))))))))))))))
     first
       | contradiction
       | exact ⟨tup3 (zDc (zBq (by omega)) (by decide)), g3.tail.tail.tail.drop⟩
       | exact ⟨tup3 (zDb hE1 (zBq (by omega)) (by decide)), g3.tail.tail.tail.drop⟩
       | exact ⟨tup3 (zDa hE1 hE2 (zBq (by omega)) (by decide)), g3.tail.tail.tail.drop⟩
       | exact ⟨tup3 (zDc (by rw [zA8 (by omega), hinv, zAp hi2 (by rw [zCx (by assumption)]; assumption), zCx (by assumption)]) (by assumption)), g3.tail.tail.tail.drop⟩
       | exact ⟨tup3 (zDc (by rw [zA8 (by omega), hinv, zAp hi2 (by rw [zCp (by assumption)]; assumption), zCp (by assumption)]) (by assumption)), g3.tail.tail.tail.drop⟩
       | exact ⟨tup3 (zDb hE1 (by rw [zA8 (by omega), hinv, zAp hi2 (by rw [zCw (by assumption)]; assumption), zCw (by assumption)]) (by assumption)), g3.tail.tail.tail.drop⟩
       | exact ⟨tup3 (zDb hE1 (by rw [zA8 (by omega), hinv, zAp hi2 (by rw [zCo (by assumption), zC9 (by omega)]; decide), zCo (by assumption), zC9 (by omega)]) (by decide)), g3.tail.tail.tail.drop⟩
       | exact ⟨tup3 (zDa hE1 hE2 (by rw [zA8 (by omega), hinv, zAp hi2 (by rw [zCv (by omega)]; decide), zCv (by omega)]) (by decide)), g3.tail.tail.tail.drop⟩
       | exact ⟨tup3 (zDa hE1 hE2 (by rw [zA8 (by omega), hinv, zAp hi2 (by rw [zCu (by omega) (by omega) (by omega)]; decide), zCu (by omega) (by omega) (by omega)]) (by decide)), g3.tail.tail.tail.drop⟩
       | exact ⟨tup3 (zGz hE1 hE2 (by rw [zA8 (by omega), hinv, zB4 (by omega)])), g3.tail.tail.tail.drop⟩
    try simp only [zS] at gx
    refine zAr (zAk (zAb (gL _ _ (zAa (zA2 rfl rfl (w_p (zBe rfl rfl rfl rfl (by omega) (by omega)) rfl (zBg rfl rfl (zAe (zAb (gK _ _ (nxI (m.shops.length - (i + 1)) (by omega) ?_)))))))))))
    first
      | contradiction
      | exact ⟨i + 1, _,_, rfl, by omega, rfl, hinv.trans (zDj hi2 (by rw [zCo (by assumption)]; exact shop_0 (by omega) (by omega))), by rw [← zFd hi2]; exact gO, g3.tail.tail⟩
   try simp only [zS] at gt
   refine zAg rfl rfl rfl ?_
   refine zAg rfl rfl rfl ?_
   refine zAg rfl rfl rfl ?_
   refine zAg rfl rfl rfl ?_
   refine zAg rfl rfl rfl ?_
   refine zBa rfl rfl rfl ?_
   refine zBa rfl rfl rfl ?_
   refine zBa rfl rfl rfl ?_
   refine zBa rfl rfl rfl ?_
   refine zAg rfl rfl rfl ?_
   refine w_p (zBb (v := _) rfl rfl rfl rfl) rfl (zAe (zAb (gr _ _ (zBj rfl rfl ?_))))
   refine zAr (zAb (gf _ _ (zAf (fun kO ju => (zAa (zA2 rfl rfl (w_p (zCj rfl rfl rfl rfl) rfl (zAe (zAb (ju _ _ (zAv rfl rfl (fun gy => ?_) (fun gy => ?_))))))))))))
   ·
    try simp only [zS] at gy
    refine zAf (fun kP jv => (zAa (zA2 rfl rfl (zA2 rfl rfl (zA9 rfl rfl (zBg rfl rfl (zBg rfl rfl (zAe (zAb (jv _ _ (zA0 (zAz (zAh (zAh (zAz (zAh (zA1 (l := [.tmp 2, .tmp 3, .tmp 4]) (vs := [_,_,_]) rfl ⟨⟨rfl, (rfl : _ = Value.int _ _)⟩, ⟨rfl, (rfl : _ = Value.int _ _)⟩, ⟨rfl, (rfl : _ = Value.int _ _)⟩, trivial⟩ ?_)))))))))))))))))
    first
      | contradiction
      | exact ⟨tup3 (zDc (zBq (by omega)) (by decide)), g5.tail.tail.tail.drop⟩
      | exact ⟨tup3 (zDb hE1 (zBq (by omega)) (by decide)), g5.tail.tail.tail.drop⟩
      | exact ⟨tup3 (zDa hE1 hE2 (zBq (by omega)) (by decide)), g5.tail.tail.tail.drop⟩
      | exact ⟨tup3 (zDc (by rw [zA8 (by omega), hinv, zAp hi2 (by rw [zCx (by assumption)]; assumption), zCx (by assumption)]) (by assumption)), g5.tail.tail.tail.drop⟩
      | exact ⟨tup3 (zDc (by rw [zA8 (by omega), hinv, zAp hi2 (by rw [zCp (by assumption)]; assumption), zCp (by assumption)]) (by assumption)), g5.tail.tail.tail.drop⟩
      | exact ⟨tup3 (zDb hE1 (by rw [zA8 (by omega), hinv, zAp hi2 (by rw [zCw (by assumption)]; assumption), zCw (by assumption)]) (by assumption)), g5.tail.tail.tail.drop⟩
      | exact ⟨tup3 (zDb hE1 (by rw [zA8 (by omega), hinv, zAp hi2 (by rw [zCo (by assumption), zC9 (by omega)]; decide), zCo (by assumption), zC9 (by omega)]) (by decide)), g5.tail.tail.tail.drop⟩
      | exact ⟨tup3 (zDa hE1 hE2 (by rw [zA8 (by omega), hinv, zAp hi2 (by rw [zCv (by omega)]; decide), zCv (by omega)]) (by decide)), g5.tail.tail.tail.drop⟩
      | exact ⟨tup3 (zDa hE1 hE2 (by rw [zA8 (by omega), hinv, zAp hi2 (by rw [zCu (by omega) (by omega) (by omega)]; decide), zCu (by omega) (by omega) (by omega)]) (by decide)), g5.tail.tail.tail.drop⟩
      | exact ⟨tup3 (zGz hE1 hE2 (by rw [zA8 (by omega), hinv, zB4 (by omega)])), g5.tail.tail.tail.drop⟩
   try simp only [zS] at gy
   refine zAr (zAk (zAb (gL _ _ (zAa (zA2 rfl rfl (w_p (zBe rfl rfl rfl rfl (by omega) (by omega)) rfl (zBg rfl rfl (zAe (zAb (gK _ _ (nxI (m.shops.length - (i + 1)) (by omega) ?_)))))))))))
   first
     | contradiction
     | exact ⟨i + 1, _,_, rfl, by omega, rfl, hinv.trans (zDj hi2 (by rw [zCo (by assumption)]; exact shop_0 (by omega) (by omega))), by rw [← zFd hi2]; exact gO, g5.tail.tail⟩
  try simp only [zS] at gq
  refine zBr (zAj (zAj (zAy (zAb (jc _ _ (zAf (fun kQ jw => (zAf (fun kR jx => ?_)))))))))
  have hE2 : (failE shopE 4 m.shops).2 = 0 := by rw [zA8 (by omega), hinv, zB4 (by omega)]
  have ga := zFs (Y := B) (show St _ _ (_ :: (B ++ F)) from hs)
  refine zAa (w_p (zAd (o := 2) (i := 2) underlying26 rfl sizeOf24 rfl rfl rfl) rfl (w_p (zAi isAgg24 ga rfl rfl (aow 0 [_])) rfl (w_p (zBd underlying24 rfl rfl) rfl (w_p (zD5 rfl rfl rfl rfl) rfl (zAe ?_)))))
  refine zAb (jx _ _ (zAv rfl rfl (fun gz => ?_) (fun gz => ?_)))
  ·
   try simp only [zS] at gz
   refine zAf (fun kS jy => (zAa (zA9 rfl rfl (zA9 rfl rfl (zA9 rfl rfl (zAe (zAb (jy _ _ (zA0 (zAh (zA1 (l := [.tmp 2, .tmp 3, .tmp 4]) (vs := [_,_,_]) rfl ⟨⟨rfl, (rfl : _ = Value.int _ _)⟩, ⟨rfl, (rfl : _ = Value.int _ _)⟩, ⟨rfl, (rfl : _ = Value.int _ _)⟩, trivial⟩ ?_)))))))))))
   first
     | contradiction
     | exact ⟨tup3 (zDc (zBq (by omega)) (by decide)), ga.tail⟩
     | exact ⟨tup3 (zDb hE1 (zBq (by omega)) (by decide)), ga.tail⟩
     | exact ⟨tup3 (zDa hE1 hE2 (zBq (by omega)) (by decide)), ga.tail⟩
     | exact ⟨tup3 (zDc (by rw [zA8 (by omega), hinv, zAp hi2 (by rw [zCx (by assumption)]; assumption), zCx (by assumption)]) (by assumption)), ga.tail⟩
     | exact ⟨tup3 (zDc (by rw [zA8 (by omega), hinv, zAp hi2 (by rw [zCp (by assumption)]; assumption), zCp (by assumption)]) (by assumption)), ga.tail⟩
     | exact ⟨tup3 (zDb hE1 (by rw [zA8 (by omega), hinv, zAp hi2 (by rw [zCw (by assumption)]; assumption), zCw (by assumption)]) (by assumption)), ga.tail⟩
     | exact ⟨tup3 (zDb hE1 (by rw [zA8 (by omega), hinv, zAp hi2 (by rw [zCo (by assumption), zC9 (by omega)]; decide), zCo (by assumption), zC9 (by omega)]) (by decide)), ga.tail⟩
     | exact ⟨tup3 (zDa hE1 hE2 (by rw [zA8 (by omega), hinv, zAp hi2 (by rw [zCv (by omega)]; decide), zCv (by omega)]) (by decide)), ga.tail⟩
     | exact ⟨tup3 (zDa hE1 hE2 (by rw [zA8 (by omega), hinv, zAp hi2 (by rw [zCu (by omega) (by omega) (by omega)]; decide), zCu (by omega) (by omega) (by omega)]) (by decide)), ga.tail⟩
     | exact ⟨tup3 (zGz hE1 hE2 (by rw [zA8 (by omega), hinv, zB4 (by omega)])), ga.tail⟩
  try simp only [zS] at gz
  refine zAr (zAb (jw _ _ (zAf (fun kT jz => (zAf (fun kU jA => (zAa (zA9 rfl rfl (zAe (zAb (jA _ _ (zAw ?_))))))))))))
  refine zB2 [2,3,4,11,12,100,101,102,103,104,105,106,107,108,109,110,111,112,113,114,115,116,117,118,119,120,121,122,123,124,125,126,127,128,129,130,131,132,133,134,135,136,137,138,139,140,141] [11] (fun k vs w => ∃ i : Nat, vs = [.int .i64 i] ∧ i ≤ m.trains.length ∧ k = m.trains.length - i ∧ firstE (trainE m) [] 0 m.trains = firstE (trainE m) (m.trains.take i) (i : Nat) (m.trains.drop i) ∧ St w0 w ((b3, blk 26 (m.cells ⟨ar, cr, as_, cs, at_, ct⟩)) :: F)) (m.trains.length) ?_ ?_
  ·
   exact ⟨0, rfl, by omega, by omega, by simp, ga⟩
  intro k vs μ kV hI kW jB
  obtain ⟨i, rfl, hia, rfl, hinv, hs⟩ := hI
  refine zAf (fun kX jC => (zAf (fun kY jD => (zAa (zA2 rfl rfl (w_p (zAd (o := 2) (i := 2) underlying26 rfl sizeOf24 rfl rfl rfl) rfl (w_p (zAi isAgg24 hs rfl rfl (aow 0 [_])) rfl ?_)))))))
  refine w_p (zBd underlying24 rfl rfl) rfl (w_p (zCb rfl rfl rfl rfl) rfl (zAe (zAb (jD _ _ (zAv rfl rfl (fun gA => ?_) (fun gA => ?_))))))
  ·
   try simp only [zS] at gA
   refine zAr (zAb (jC _ _ (zAf (fun kZ jE => (zAw ?_)))))
   refine zAf (fun m0 jF => ?_)
   have hi2 : i < m.trains.length := by omega
   obtain ⟨t1, ot1, hbt1, hxt1⟩ := sl_trows hm.t hi2
   subst hbt1
   refine zAa (w_p (zAd (o := 2) (i := 2) underlying26 rfl sizeOf24 rfl rfl rfl) rfl (w_p (zAi isAgg24 hs rfl rfl (aow 0 [_])) rfl (zA2 rfl rfl (w_p (zA7 underlying24 sizeOf53 rfl rfl rfl rfl (i := _) rfl (by omega)) rfl ?_))))
   refine w_p (zAs (vs := [_,_,_,_]) isAgg53 sizeOf53 hs.tail rfl rfl hxt1) rfl (zA5 (cs := [_,_,_,_]) zAc zeroValue53 rfl hs (fun m5 m6 jG => ?_))
   refine zBt 0 (.agg #[.int _ _, .int _ _, .int _ _, .int _ _]) [_,_,_,_] sizeOf53 jG (fun m7 gB => ?_)
   refine zAe (zAb (jF _ _ (zAf (fun m8 jH => (zAf (fun m9 gP => (zAa (w_p (zAd (o := 0) (i := 0) underlying53 rfl sizeOf3 rfl rfl rfl) rfl (w_p (zAi isAgg3 gB rfl rfl (aow 0 [_])) rfl ?_)))))))))
   refine w_p (zAd (o := 0) (i := 0) underlying26 rfl sizeOf22 rfl rfl rfl) rfl (w_p (zAi isAgg22 gB rfl rfl (aow 1 [_])) rfl (w_p (zBd underlying22 rfl rfl) rfl (w_p (zDk rfl rfl rfl rfl (by omega) (by omega)) rfl ?_)))
   refine zCi zAc call17 rfl rfl rfl rfl (c17 _ _ _ gB) (fun ma g6 => ?_)
   refine w_p (zC0 rfl rfl) rfl (w_p (zAn rfl rfl) rfl (zBk (fun gC => ?_) (fun gC => ?_)))
   ·
    try simp only [zS] at gC
    refine zAg rfl rfl rfl ?_
    refine zAg rfl rfl rfl ?_
    refine zAg rfl rfl rfl ?_
    refine zAg rfl rfl rfl ?_
    refine zAg rfl rfl rfl ?_
    refine zAg rfl rfl rfl ?_
    refine zAg rfl rfl rfl ?_
    refine zAg rfl rfl rfl ?_
    refine w_p (zAt (v := _) rfl rfl rfl rfl) rfl (zAe (zAb (gP _ _ (zBz rfl rfl ?_))))
    refine zAf (fun mc jI => (zAa (zA2 rfl rfl (zA9 rfl rfl (zBg rfl rfl (zA9 rfl rfl (zAe (zAb (jI _ _ (zA0 (zAh (zAz (zAh (zAh (zAz (zAh (zA1 (l := [.tmp 2, .tmp 3, .tmp 4]) (vs := [_,_,_]) rfl ⟨⟨rfl, (rfl : _ = Value.int _ _)⟩, ⟨rfl, (rfl : _ = Value.int _ _)⟩, ⟨rfl, (rfl : _ = Value.int _ _)⟩, trivial⟩ ?_)))))))))))))))))
    first
      | contradiction
      | exact ⟨tup3 (zDc (zBq (by omega)) (by decide)), g6.tail.tail⟩
      | exact ⟨tup3 (zDb hE1 (zBq (by omega)) (by decide)), g6.tail.tail⟩
      | exact ⟨tup3 (zDa hE1 hE2 (zBq (by omega)) (by decide)), g6.tail.tail⟩
      | exact ⟨tup3 (zDc (by rw [zA8 (by omega), hinv, zAp hi2 (by rw [zCx (by assumption)]; assumption), zCx (by assumption)]) (by assumption)), g6.tail.tail⟩
      | exact ⟨tup3 (zDc (by rw [zA8 (by omega), hinv, zAp hi2 (by rw [zCp (by assumption)]; assumption), zCp (by assumption)]) (by assumption)), g6.tail.tail⟩
      | exact ⟨tup3 (zDb hE1 (by rw [zA8 (by omega), hinv, zAp hi2 (by rw [zCw (by assumption)]; assumption), zCw (by assumption)]) (by assumption)), g6.tail.tail⟩
      | exact ⟨tup3 (zDb hE1 (by rw [zA8 (by omega), hinv, zAp hi2 (by rw [zCo (by assumption), zC9 (by omega)]; decide), zCo (by assumption), zC9 (by omega)]) (by decide)), g6.tail.tail⟩
      | exact ⟨tup3 (zDa hE1 hE2 (by rw [zA8 (by omega), hinv, zAp hi2 (by rw [zCv (by omega)]; decide), zCv (by omega)]) (by decide)), g6.tail.tail⟩
      | exact ⟨tup3 (zDa hE1 hE2 (by rw [zA8 (by omega), hinv, zAp hi2 (by rw [zCu (by omega) (by omega) (by omega)]; decide), zCu (by omega) (by omega) (by omega)]) (by decide)), g6.tail.tail⟩
      | exact ⟨tup3 (zGz hE1 hE2 (by rw [zA8 (by omega), hinv, zB4 (by omega)])), g6.tail.tail⟩
   try simp only [zS] at gC
   refine w_y rfl rfl rfl (zAd (o := 1) (i := 1) underlying53 rfl sizeOf3 rfl rfl rfl) rfl ?_
   refine w_y rfl rfl rfl (zAi isAgg3 g6 rfl rfl (aow 0 [_])) rfl ?_
   refine w_y rfl rfl rfl (zAd (o := 1) (i := 1) underlying26 rfl sizeOf23 rfl rfl rfl) rfl ?_
   refine w_y rfl rfl rfl (zAi isAgg23 g6 rfl rfl (aow 1 [_])) rfl ?_
   refine w_y rfl rfl rfl (zBd underlying23 rfl rfl) rfl ?_
   refine w_y rfl rfl rfl (zDk rfl rfl rfl rfl (by omega) (by omega)) rfl ?_
   refine zA4 (zAm rfl rfl rfl) call17 rfl rfl rfl rfl (c17 _ _ _ g6) ?_
   rintro _ md ⟨rfl, gb⟩
   refine w_y rfl rfl rfl (zC0 rfl rfl) rfl ?_
   refine w_p (zBb (v := .bool _) rfl rfl rfl rfl) rfl (zAe (zAb (gP _ _ (zAv rfl rfl (fun gD => ?_) (fun gD => ?_)))))
   ·
    try simp only [zS] at gD
    refine zAf (fun me jJ => (zAa (zA2 rfl rfl (zA9 rfl rfl (zBg rfl rfl (zA9 rfl rfl (zAe (zAb (jJ _ _ (zA0 (zAh (zAz (zAh (zAh (zAz (zAh (zA1 (l := [.tmp 2, .tmp 3, .tmp 4]) (vs := [_,_,_]) rfl ⟨⟨rfl, (rfl : _ = Value.int _ _)⟩, ⟨rfl, (rfl : _ = Value.int _ _)⟩, ⟨rfl, (rfl : _ = Value.int _ _)⟩, trivial⟩ ?_)))))))))))))))))
    first
      | contradiction
      | exact ⟨tup3 (zDc (zBq (by omega)) (by decide)), gb.tail.tail⟩
      | exact ⟨tup3 (zDb hE1 (zBq (by omega)) (by decide)), gb.tail.tail⟩
      | exact ⟨tup3 (zDa hE1 hE2 (zBq (by omega)) (by decide)), gb.tail.tail⟩
      | exact ⟨tup3 (zDc (by rw [zA8 (by omega), hinv, zAp hi2 (by rw [zCx (by assumption)]; assumption), zCx (by assumption)]) (by assumption)), gb.tail.tail⟩
      | exact ⟨tup3 (zDc (by rw [zA8 (by omega), hinv, zAp hi2 (by rw [zCp (by assumption)]; assumption), zCp (by assumption)]) (by assumption)), gb.tail.tail⟩
      | exact ⟨tup3 (zDb hE1 (by rw [zA8 (by omega), hinv, zAp hi2 (by rw [zCw (by assumption)]; assumption), zCw (by assumption)]) (by assumption)), gb.tail.tail⟩
      | exact ⟨tup3 (zDb hE1 (by rw [zA8 (by omega), hinv, zAp hi2 (by rw [zCo (by assumption), zC9 (by omega)]; decide), zCo (by assumption), zC9 (by omega)]) (by decide)), gb.tail.tail⟩
      | exact ⟨tup3 (zDa hE1 hE2 (by rw [zA8 (by omega), hinv, zAp hi2 (by rw [zCv (by omega)]; decide), zCv (by omega)]) (by decide)), gb.tail.tail⟩
      | exact ⟨tup3 (zDa hE1 hE2 (by rw [zA8 (by omega), hinv, zAp hi2 (by rw [zCu (by omega) (by omega) (by omega)]; decide), zCu (by omega) (by omega) (by omega)]) (by decide)), gb.tail.tail⟩
      | exact ⟨tup3 (zGz hE1 hE2 (by rw [zA8 (by omega), hinv, zB4 (by omega)])), gb.tail.tail⟩
   try simp only [zS] at gD
   refine zAr (zAb (jH _ _ (zAf (fun mf gQ => (zAa (w_p (zAd (o := 2) (i := 2) underlying53 rfl sizeOf3 rfl rfl rfl) rfl (w_p (zAi isAgg3 gb rfl rfl (aow 0 [_])) rfl ?_)))))))
   refine zCi zAc call17 rfl rfl rfl rfl (c17 _ _ _ gb) (fun mg gc => ?_)
   refine w_p (zC0 rfl rfl) rfl (w_p (zAn rfl rfl) rfl (zBk (fun gE => ?_) (fun gE => ?_)))
   ·
    try simp only [zS] at gE
    refine zAg rfl rfl rfl ?_
    refine zAg rfl rfl rfl ?_
    refine zAg rfl rfl rfl ?_
    refine zAg rfl rfl rfl ?_
    refine w_p (zAt (v := _) rfl rfl rfl rfl) rfl (zAe (zAb (gQ _ _ (zBz rfl rfl ?_))))
    refine zAf (fun mh jK => (zAa (zA2 rfl rfl (zA9 rfl rfl (zBg rfl rfl (zA9 rfl rfl (zAe (zAb (jK _ _ (zA0 (zAz (zAh (zAh (zAz (zAh (zA1 (l := [.tmp 2, .tmp 3, .tmp 4]) (vs := [_,_,_]) rfl ⟨⟨rfl, (rfl : _ = Value.int _ _)⟩, ⟨rfl, (rfl : _ = Value.int _ _)⟩, ⟨rfl, (rfl : _ = Value.int _ _)⟩, trivial⟩ ?_))))))))))))))))
    first
      | contradiction
      | exact ⟨tup3 (zDc (zBq (by omega)) (by decide)), gc.tail.tail⟩
      | exact ⟨tup3 (zDb hE1 (zBq (by omega)) (by decide)), gc.tail.tail⟩
      | exact ⟨tup3 (zDa hE1 hE2 (zBq (by omega)) (by decide)), gc.tail.tail⟩
      | exact ⟨tup3 (zDc (by rw [zA8 (by omega), hinv, zAp hi2 (by rw [zCx (by assumption)]; assumption), zCx (by assumption)]) (by assumption)), gc.tail.tail⟩
      | exact ⟨tup3 (zDc (by rw [zA8 (by omega), hinv, zAp hi2 (by rw [zCp (by assumption)]; assumption), zCp (by assumption)]) (by assumption)), gc.tail.tail⟩
      | exact ⟨tup3 (zDb hE1 (by rw [zA8 (by omega), hinv, zAp hi2 (by rw [zCw (by assumption)]; assumption), zCw (by assumption)]) (by assumption)), gc.tail.tail⟩
      | exact ⟨tup3 (zDb hE1 (by rw [zA8 (by omega), hinv, zAp hi2 (by rw [zCo (by assumption), zC9 (by omega)]; decide), zCo (by assumption), zC9 (by omega)]) (by decide)), gc.tail.tail⟩
      | exact ⟨tup3 (zDa hE1 hE2 (by rw [zA8 (by omega), hinv, zAp hi2 (by rw [zCv (by omega)]; decide), zCv (by omega)]) (by decide)), gc.tail.tail⟩
      | exact ⟨tup3 (zDa hE1 hE2 (by rw [zA8 (by omega), hinv, zAp hi2 (by rw [zCu (by omega) (by omega) (by omega)]; decide), zCu (by omega) (by omega) (by omega)]) (by decide)), gc.tail.tail⟩
      | exact ⟨tup3 (zGz hE1 hE2 (by rw [zA8 (by omega), hinv, zB4 (by omega)])), gc.tail.tail⟩
   try simp only [zS] at gE
   refine w_y rfl rfl rfl (zAd (o := 3) (i := 3) underlying53 rfl sizeOf3 rfl rfl rfl) rfl ?_
   refine w_y rfl rfl rfl (zAi isAgg3 gc rfl rfl (aow 0 [_])) rfl ?_
   refine zA4 (zAm rfl rfl rfl) call17 rfl rfl rfl rfl (c17 _ _ _ gc) ?_
   rintro _ mi ⟨rfl, ge⟩
   refine w_y rfl rfl rfl (zC0 rfl rfl) rfl ?_
   refine w_p (zBb (v := .bool _) rfl rfl rfl rfl) rfl (zAe (zAb (gQ _ _ (zAv rfl rfl (fun gF => ?_) (fun gF => ?_)))))
   ·
    try simp only [zS] at gF
    refine zAf (fun mj jL => (zAa (zA2 rfl rfl (zA9 rfl rfl (zBg rfl rfl (zA9 rfl rfl (zAe (zAb (jL _ _ (zA0 (zAz (zAh (zAh (zAz (zAh (zA1 (l := [.tmp 2, .tmp 3, .tmp 4]) (vs := [_,_,_]) rfl ⟨⟨rfl, (rfl : _ = Value.int _ _)⟩, ⟨rfl, (rfl : _ = Value.int _ _)⟩, ⟨rfl, (rfl : _ = Value.int _ _)⟩, trivial⟩ ?_))))))))))))))))
    first
      | contradiction
      | exact ⟨tup3 (zDc (zBq (by omega)) (by decide)), ge.tail.tail⟩
      | exact ⟨tup3 (zDb hE1 (zBq (by omega)) (by decide)), ge.tail.tail⟩
      | exact ⟨tup3 (zDa hE1 hE2 (zBq (by omega)) (by decide)), ge.tail.tail⟩
      | exact ⟨tup3 (zDc (by rw [zA8 (by omega), hinv, zAp hi2 (by rw [zCx (by assumption)]; assumption), zCx (by assumption)]) (by assumption)), ge.tail.tail⟩
      | exact ⟨tup3 (zDc (by rw [zA8 (by omega), hinv, zAp hi2 (by rw [zCp (by assumption)]; assumption), zCp (by assumption)]) (by assumption)), ge.tail.tail⟩
      | exact ⟨tup3 (zDb hE1 (by rw [zA8 (by omega), hinv, zAp hi2 (by rw [zCw (by assumption)]; assumption), zCw (by assumption)]) (by assumption)), ge.tail.tail⟩
      | exact ⟨tup3 (zDb hE1 (by rw [zA8 (by omega), hinv, zAp hi2 (by rw [zCo (by assumption), zC9 (by omega)]; decide), zCo (by assumption), zC9 (by omega)]) (by decide)), ge.tail.tail⟩
      | exact ⟨tup3 (zDa hE1 hE2 (by rw [zA8 (by omega), hinv, zAp hi2 (by rw [zCv (by omega)]; decide), zCv (by omega)]) (by decide)), ge.tail.tail⟩
      | exact ⟨tup3 (zDa hE1 hE2 (by rw [zA8 (by omega), hinv, zAp hi2 (by rw [zCu (by omega) (by omega) (by omega)]; decide), zCu (by omega) (by omega) (by omega)]) (by decide)), ge.tail.tail⟩
      | exact ⟨tup3 (zGz hE1 hE2 (by rw [zA8 (by omega), hinv, zB4 (by omega)])), ge.tail.tail⟩
   try simp only [zS] at gF
   refine zAr (zAk (zAb (jE _ _ (zAa (zA2 rfl rfl (w_p (zBe rfl rfl rfl rfl (by omega) (by omega)) rfl (zBg rfl rfl (zAe (zAb (jB _ _ (nxI (m.trains.length - (i + 1)) (by omega) ?_)))))))))))
   exact ⟨i + 1, rfl, by omega, rfl, hinv.trans (zDj hi2 (train_0 (by omega) (by omega) (by omega) (by omega))), ge.tail⟩
  try simp only [zS] at gA
  refine zBr (zAj (zAj (zAy (zAb (jz _ _ (zAf (fun ml jM => (zAa (zA9 rfl rfl (zA9 rfl rfl (zA9 rfl rfl (zAe (zAb (jM _ _ (zA0 (zA1 (l := [.tmp 2, .tmp 3, .tmp 4]) (vs := [_,_,_]) rfl ⟨⟨rfl, (rfl : _ = Value.int _ _)⟩, ⟨rfl, (rfl : _ = Value.int _ _)⟩, ⟨rfl, (rfl : _ = Value.int _ _)⟩, trivial⟩ ?_))))))))))))))))
  first
    | contradiction
    | exact ⟨tup3 (zDc (zBq (by omega)) (by decide)), hs.tail⟩
    | exact ⟨tup3 (zDb hE1 (zBq (by omega)) (by decide)), hs.tail⟩
    | exact ⟨tup3 (zDa hE1 hE2 (zBq (by omega)) (by decide)), hs.tail⟩
    | exact ⟨tup3 (zDc (by rw [zA8 (by omega), hinv, zAp hi2 (by rw [zCx (by assumption)]; assumption), zCx (by assumption)]) (by assumption)), hs.tail⟩
    | exact ⟨tup3 (zDc (by rw [zA8 (by omega), hinv, zAp hi2 (by rw [zCp (by assumption)]; assumption), zCp (by assumption)]) (by assumption)), hs.tail⟩
    | exact ⟨tup3 (zDb hE1 (by rw [zA8 (by omega), hinv, zAp hi2 (by rw [zCw (by assumption)]; assumption), zCw (by assumption)]) (by assumption)), hs.tail⟩
    | exact ⟨tup3 (zDb hE1 (by rw [zA8 (by omega), hinv, zAp hi2 (by rw [zCo (by assumption), zC9 (by omega)]; decide), zCo (by assumption), zC9 (by omega)]) (by decide)), hs.tail⟩
    | exact ⟨tup3 (zDa hE1 hE2 (by rw [zA8 (by omega), hinv, zAp hi2 (by rw [zCv (by omega)]; decide), zCv (by omega)]) (by decide)), hs.tail⟩
    | exact ⟨tup3 (zDa hE1 hE2 (by rw [zA8 (by omega), hinv, zAp hi2 (by rw [zCu (by omega) (by omega) (by omega)]; decide), zCu (by omega) (by omega) (by omega)]) (by decide)), hs.tail⟩
    | exact ⟨tup3 (zGz hE1 hE2 (by rw [zA8 (by omega), hinv, zB4 (by omega)])), hs.tail⟩

end Go.Proofs.Sb
/- Plain words of the shop layer: the document's example. No conditions. -/
namespace Go.Rt.Sh
def nAlta : ByteArray := ⟨#[97,108,116,97]⟩
def nBaja : ByteArray := ⟨#[98,97,106,97]⟩
def nApple : ByteArray := ⟨#[97,112,112,108,101]⟩
def nBerry : ByteArray := ⟨#[98,101,114,114,121]⟩
def nCherry : ByteArray := ⟨#[99,104,101,114,114,121]⟩
def exM (x y : Int) : Market := ⟨[⟨nAlta, 20,25, x, 4⟩, ⟨nBaja, 10,10,3,6⟩], [⟨nApple, 5,15⟩, ⟨nBerry, 5, y⟩, ⟨nCherry, 8,8⟩], [⟨0,0,1,20⟩, ⟨0,1,2,8⟩, ⟨1,1,1,6⟩, ⟨1,2,2,10⟩, ⟨0,2,2,9⟩]⟩
theorem ex_goes : goesP (exM 2 10) = ([0,1,2,3], 0) := by decide +kernel
theorem ex_can1 : canP (exM 2 10) [0,1,2] = (0,0) := by decide +kernel
theorem ex_can2 : canP (exM 2 10) [1,2] = (1,0) := by decide +kernel
theorem ex_can3 : canP (exM 3 15) [1] = (2,0) := by decide +kernel
theorem ex_can4 : canP (exM 2 10) [1,0] = (0,2) := by decide +kernel
theorem ex_proof1 : proofP (exM 2 10) [0,1,2] = ([0,1,2], 3,0) := by decide +kernel
theorem ex_proof2 : proofP (exM 2 10) [1,2] = ([], 0,9) := by decide +kernel
theorem ex_without : withoutP (exM 2 10) = ([0], 0) := by decide +kernel
theorem ex_give : giveP (exM 2 10) = ([0,8,2,8,0], 0) := by decide +kernel
theorem ex_more : moreP (exM 2 10) 0 = (3,0) := by decide +kernel
theorem ex_late : lateP (exM 3 10) 1 = (5,0) := by decide +kernel
end Go.Rt.Sh
set_option maxRecDepth 20000
namespace Go.Proofs.Sb
open Go.Proofs.Tryz
open Go.Rt Go.Rt.Sh
attribute [local irreducible] WL WC Con Yd At Ats Sl Agree DW
theorem Try_SP_fb4 (x0 : Int) (x1 : Int) (w : World) : (Instr.build 28 [(0, .int .i64 x0),(1, .int .i64 x1)].toArray).run Tryz.prog w = .ok (.agg #[.int .i64 x0, .int .i64 x1]) w := by kernel_rfl
theorem Try_SP_fb5 (x0 : ByteArray) (x1 : Int) (x2 : Int) (x3 : Int) (x4 : Int) (w : World) : (Instr.build 44 [(0, .string x0),(1, .agg #[.int .i64 x1, .int .i64 x2]),(2, .int .i64 x3),(3, .int .i64 x4)].toArray).run Tryz.prog w = .ok (.agg #[.string x0, .int .i64 x1, .int .i64 x2, .int .i64 x3, .int .i64 x4]) w := by kernel_rfl
theorem Try_SP_fb6 (x0 : ByteArray) (x1 : Int) (x2 : Int) (x3 : Int) (x4 : Int) (x5 : ByteArray) (x6 : Int) (x7 : Int) (x8 : Int) (x9 : Int) (w : World) : (Instr.buildSlice 22 2 [(0, .agg #[.string x0, .int .i64 x1, .int .i64 x2, .int .i64 x3, .int .i64 x4]),(1, .agg #[.string x5, .int .i64 x6, .int .i64 x7, .int .i64 x8, .int .i64 x9])].toArray).run Tryz.prog w = .ok (.slice (some ⟨w.heap.size, 0, none⟩) 2 2) (w.alloc (Go.Rt.blk 44 [.string x0, .int .i64 x1, .int .i64 x2, .int .i64 x3, .int .i64 x4, .string x5, .int .i64 x6, .int .i64 x7, .int .i64 x8, .int .i64 x9])) := by kernel_rfl
theorem zHj (x0 : ByteArray) (x1 : Int) (x2 : Int) (w : World) : (Instr.build 51 [(0, .string x0),(1, .int .i64 x1),(2, .int .i64 x2)].toArray).run Tryz.prog w = .ok (.agg #[.string x0, .int .i64 x1, .int .i64 x2]) w := by kernel_rfl
theorem Try_SP_fb8 (x0 : ByteArray) (x1 : Int) (x2 : Int) (x3 : ByteArray) (x4 : Int) (x5 : Int) (x6 : ByteArray) (x7 : Int) (x8 : Int) (w : World) : (Instr.buildSlice 23 3 [(0, .agg #[.string x0, .int .i64 x1, .int .i64 x2]),(1, .agg #[.string x3, .int .i64 x4, .int .i64 x5]),(2, .agg #[.string x6, .int .i64 x7, .int .i64 x8])].toArray).run Tryz.prog w = .ok (.slice (some ⟨w.heap.size, 0, none⟩) 3 3) (w.alloc (Go.Rt.blk 51 [.string x0, .int .i64 x1, .int .i64 x2, .string x3, .int .i64 x4, .int .i64 x5, .string x6, .int .i64 x7, .int .i64 x8])) := by kernel_rfl
theorem Try_SP_fb9 (x0 : Int) (x1 : Int) (w : World) : (Instr.build 53 [(2, .int .i64 x0),(3, .int .i64 x1)].toArray).run Tryz.prog w = .ok (.agg #[.int .i64 0, .int .i64 0, .int .i64 x0, .int .i64 x1]) w := by kernel_rfl
theorem Try_SP_fb10 (x0 : Int) (x1 : Int) (x2 : Int) (w : World) : (Instr.build 53 [(1, .int .i64 x0),(2, .int .i64 x1),(3, .int .i64 x2)].toArray).run Tryz.prog w = .ok (.agg #[.int .i64 0, .int .i64 x0, .int .i64 x1, .int .i64 x2]) w := by kernel_rfl
theorem Try_SP_fb11 (x0 : Int) (x1 : Int) (x2 : Int) (x3 : Int) (w : World) : (Instr.build 53 [(0, .int .i64 x0),(1, .int .i64 x1),(2, .int .i64 x2),(3, .int .i64 x3)].toArray).run Tryz.prog w = .ok (.agg #[.int .i64 x0, .int .i64 x1, .int .i64 x2, .int .i64 x3]) w := by kernel_rfl
theorem Try_SP_fb12 (x0 : Int) (x1 : Int) (x2 : Int) (x3 : Int) (x4 : Int) (x5 : Int) (x6 : Int) (x7 : Int) (x8 : Int) (x9 : Int) (x10 : Int) (x11 : Int) (x12 : Int) (x13 : Int) (x14 : Int) (x15 : Int) (x16 : Int) (x17 : Int) (x18 : Int) (x19 : Int) (w : World) : (Instr.buildSlice 24 5 [(0, .agg #[.int .i64 x0, .int .i64 x1, .int .i64 x2, .int .i64 x3]),(1, .agg #[.int .i64 x4, .int .i64 x5, .int .i64 x6, .int .i64 x7]),(2, .agg #[.int .i64 x8, .int .i64 x9, .int .i64 x10, .int .i64 x11]),(3, .agg #[.int .i64 x12, .int .i64 x13, .int .i64 x14, .int .i64 x15]),(4, .agg #[.int .i64 x16, .int .i64 x17, .int .i64 x18, .int .i64 x19])].toArray).run Tryz.prog w = .ok (.slice (some ⟨w.heap.size, 0, none⟩) 5 5) (w.alloc (Go.Rt.blk 53 [.int .i64 x0, .int .i64 x1, .int .i64 x2, .int .i64 x3, .int .i64 x4, .int .i64 x5, .int .i64 x6, .int .i64 x7, .int .i64 x8, .int .i64 x9, .int .i64 x10, .int .i64 x11, .int .i64 x12, .int .i64 x13, .int .i64 x14, .int .i64 x15, .int .i64 x16, .int .i64 x17, .int .i64 x18, .int .i64 x19])) := by kernel_rfl
theorem Try_SP_fb13 (x0 : Option Addr) (l0 c0 : Nat) (x1 : Option Addr) (l1 c1 : Nat) (x2 : Option Addr) (l2 c2 : Nat) (w : World) : (Instr.build 26 [(0, .slice x0 l0 c0),(1, .slice x1 l1 c1),(2, .slice x2 l2 c2)].toArray).run Tryz.prog w = .ok (.agg #[.slice x0 l0 c0, .slice x1 l1 c1, .slice x2 l2 c2]) w := by kernel_rfl
theorem zF7 (x0 : Int) (x1 : Int) (x2 : Int) (w : World) : (Instr.buildSlice 30 3 [(0, .int .i64 x0),(1, .int .i64 x1),(2, .int .i64 x2)].toArray).run Tryz.prog w = .ok (.slice (some ⟨w.heap.size, 0, none⟩) 3 3) (w.alloc (Go.Rt.blk 3 [.int .i64 x0, .int .i64 x1, .int .i64 x2])) := by kernel_rfl
theorem zF6 (x0 : Int) (x1 : Int) (w : World) : (Instr.buildSlice 30 2 [(0, .int .i64 x0),(1, .int .i64 x1)].toArray).run Tryz.prog w = .ok (.slice (some ⟨w.heap.size, 0, none⟩) 2 2) (w.alloc (Go.Rt.blk 3 [.int .i64 x0, .int .i64 x1])) := by kernel_rfl
theorem Try_SP_fb16 (x0 : Int) (w : World) : (Instr.buildSlice 30 1 [(0, .int .i64 x0)].toArray).run Tryz.prog w = .ok (.slice (some ⟨w.heap.size, 0, none⟩) 1 1) (w.alloc (Go.Rt.blk 3 [.int .i64 x0])) := by kernel_rfl
theorem Try_SP_fb17 (x0 : Int) (x1 : Int) (x2 : Int) (x3 : Int) (w : World) : (Instr.buildSlice 30 4 [(0, .int .i64 x0),(1, .int .i64 x1),(2, .int .i64 x2),(3, .int .i64 x3)].toArray).run Tryz.prog w = .ok (.slice (some ⟨w.heap.size, 0, none⟩) 4 4) (w.alloc (Go.Rt.blk 3 [.int .i64 x0, .int .i64 x1, .int .i64 x2, .int .i64 x3])) := by kernel_rfl
theorem Try_SP_fb18 (x0 : Int) (x1 : Int) (x2 : Int) (x3 : Int) (x4 : Int) (w : World) : (Instr.buildSlice 30 5 [(0, .int .i64 x0),(1, .int .i64 x1),(2, .int .i64 x2),(3, .int .i64 x3),(4, .int .i64 x4)].toArray).run Tryz.prog w = .ok (.slice (some ⟨w.heap.size, 0, none⟩) 5 5) (w.alloc (Go.Rt.blk 3 [.int .i64 x0, .int .i64 x1, .int .i64 x2, .int .i64 x3, .int .i64 x4])) := by kernel_rfl
theorem gen_Z {w0 w : World} {L : List (Nat × Obj)} (hs : St w0 w L) : ∃ Z, Z = L ∧ St w0 w Z := ⟨L, rfl, hs⟩
theorem zD2 {k : FuncId} {args : List Value} {w : World} {x : Bool} {S : World → Prop} (h : Con Tryz.prog k args w fun v w' => v = .bool x ∧ S w') (hx : x = true) : Con Tryz.prog k args w fun v w' => v = .bool true ∧ S w' := by subst hx; exact h
theorem drop_4th {w0 w : World} {F : List (Nat × Obj)} {a b c d : Nat × Obj} (h : St w0 w (a :: b :: c :: d :: F)) : St w0 w (a :: b :: c :: F) := (h.perm (zB3 [a, b, c] [d] F)).tail
theorem ex_min {w0 : World} {L : List (Nat × Obj)} {i1 i2 i3 bt bs br : Nat} {x y : Int} (ht : L[i1]? = some (bt, blk 53 (trows (exM x y).trains).flatten)) (hs : L[i2]? = some (bs, blk 51 (srows (exM x y).shops).flatten)) (hr : L[i3]? = some (br, blk 44 (rrows (exM x y).rooms).flatten)) : MIn w0 L (exM x y) ⟨some ⟨br, 0, none⟩, 2, some ⟨bs, 0, none⟩, 3, some ⟨bt, 0, none⟩, 5⟩ where
  r := zBx hr (by intro row h; obtain ⟨q, _, rfl⟩ := List.mem_map.1 h; rfl) rfl
  s := zBx hs (by intro row h; obtain ⟨q, _, rfl⟩ := List.mem_map.1 h; rfl) rfl
  t := zBx ht (by intro row h; obtain ⟨q, _, rfl⟩ := List.mem_map.1 h; rfl) rfl
  lr := by simp [exM]
  ls := by simp [exM]
  lt := by simp [exM]
  cr := by simp [exM]
  cs := by simp [exM]
  ct := by simp [exM]
  nr := by intro q hq; simp only [exM, List.mem_cons, List.not_mem_nil, or_false] at hq; rcases hq with rfl | rfl <;> (dsimp only; decide)
  ns := by intro q hq; simp only [exM, List.mem_cons, List.not_mem_nil, or_false] at hq; rcases hq with rfl | rfl | rfl <;> (dsimp only; decide)
theorem c67 {w0 w : World} {F : List (Nat × Obj)} (x y : Int) (hs : St w0 w F) :
  Con Tryz.prog 67 [.int .i64 x, .int .i64 y] w fun v w' => v = .agg #[.int .i64 x, .int .i64 y] ∧ St w0 w' F := by
  refine zAo (n := 8) func67 rfl rfl (zNl rfl) ?_
  refine zAf (fun K2 g4 => (zAa (zA5 (cs := [_,_]) zAc zeroValue28 rfl hs (fun b3 w4 g5 => ?_))))
  refine zAe (zAb (g4 _ _ (zAf (fun K7 g6 => (zAa (zA2 rfl rfl (zA2 rfl rfl (w_p (zCh (ps := [(0, _),(1, _)]) (pv := [(0, .int _ _),(1, .int _ _)]) rfl rfl (fun w => Try_SP_fb4 _ _ w)) rfl ?_))))))))
  refine zBt 0 (.agg #[.int _ _, .int _ _]) [_,_] sizeOf28 g5 (fun w8 g3 => ?_)
  refine zAe (zAb (g6 _ _ (zA0 (zA1 (l := [.cell 4 28]) (vs := [_]) rfl ⟨⟨rfl, _, rfl, zBv (vs := [_,_]) isAgg28 sizeOf28 g3 (aow 0 [_,_])⟩, trivial⟩ ?_))))
  exact ⟨rfl, g3.tail⟩

theorem c34 {w0 w : World} {F : List (Nat × Obj)} (x y : Int) (hs : St w0 w F) :
  Con Tryz.prog 34 [.int .i64 x, .int .i64 y] w fun v w' => ∃ bt bs br, v = .agg #[.slice (some ⟨br, 0, none⟩) 2 2, .slice (some ⟨bs, 0, none⟩) 3 3, .slice (some ⟨bt, 0, none⟩) 5 5] ∧ St w0 w' ((bt, blk 53 (trows (exM x y).trains).flatten) :: (bs, blk 51 (srows (exM x y).shops).flatten) :: (br, blk 44 (rrows (exM x y).rooms).flatten) :: F) := by
  refine zAo (n := 23) func34 rfl rfl (zNl rfl) ?_
  refine zAf (fun K2 g4 => (zAa (zA5 (cs := [_,_,_]) zAc zeroValue26 rfl hs (fun b3 w4 g5 => ?_))))
  refine zAe (zAb (g4 _ _ (zAf (fun K7 g6 => (zAa (zCi zAc call67 rfl rfl rfl rfl (c67 _ _ g5) (fun w9 g7 => ?_)))))))
  refine zA2 rfl rfl (w_p (zCh (ps := [(0, _),(1, _),(2, _),(3, _)]) (pv := [(0, .string _),(1, .agg #[.int _ _, .int _ _]),(2, .int _ _),(3, .int _ _)]) rfl rfl (fun w => Try_SP_fb5 _ _ _ _ _ w)) rfl ?_)
  refine zCi zAc call67 rfl rfl rfl rfl (c67 _ _ g7) (fun gc g8 => ?_)
  refine w_p (zCh (ps := [(0, _),(1, _),(2, _),(3, _)]) (pv := [(0, .string _),(1, .agg #[.int _ _, .int _ _]),(2, .int _ _),(3, .int _ _)]) rfl rfl (fun w => Try_SP_fb5 _ _ _ _ _ w)) rfl ?_
  refine zBc (ps := [(0, _),(1, _)]) (pv := [(0, .agg #[.string _, .int _ _, .int _ _, .int _ _, .int _ _]),(1, .agg #[.string _, .int _ _, .int _ _, .int _ _, .int _ _])]) (cs := [_,_,_,_,_,_,_,_,_,_]) zAc rfl rfl (fun w => Try_SP_fb6 _ _ _ _ _ _ _ _ _ _ w) g8 (fun gd ge g9 => ?_)
  refine w_p (zCh (ps := [(0, _),(1, _),(2, _)]) (pv := [(0, .string _),(1, .int _ _),(2, .int _ _)]) rfl rfl (fun w => zHj _ _ _ w)) rfl (zA2 rfl rfl (w_p (zCh (ps := [(0, _),(1, _),(2, _)]) (pv := [(0, .string _),(1, .int _ _),(2, .int _ _)]) rfl rfl (fun w => zHj _ _ _ w)) rfl ?_))
  refine w_p (zCh (ps := [(0, _),(1, _),(2, _)]) (pv := [(0, .string _),(1, .int _ _),(2, .int _ _)]) rfl rfl (fun w => zHj _ _ _ w)) rfl (zBc (ps := [(0, _),(1, _),(2, _)]) (pv := [(0, .agg #[.string _, .int _ _, .int _ _]),(1, .agg #[.string _, .int _ _, .int _ _]),(2, .agg #[.string _, .int _ _, .int _ _])]) (cs := [_,_,_,_,_,_,_,_,_]) zAc rfl rfl (fun w => Try_SP_fb8 _ _ _ _ _ _ _ _ _ w) g9 (fun gf gg ga => ?_))
  refine w_p (zCh (ps := [(2, _),(3, _)]) (pv := [(2, .int _ _),(3, .int _ _)]) rfl rfl (fun w => Try_SP_fb9 _ _ w)) rfl (w_p (zCh (ps := [(1, _),(2, _),(3, _)]) (pv := [(1, .int _ _),(2, .int _ _),(3, .int _ _)]) rfl rfl (fun w => Try_SP_fb10 _ _ _ w)) rfl ?_)
  refine w_p (zCh (ps := [(0, _),(1, _),(2, _),(3, _)]) (pv := [(0, .int _ _),(1, .int _ _),(2, .int _ _),(3, .int _ _)]) rfl rfl (fun w => Try_SP_fb11 _ _ _ _ w)) rfl ?_
  refine w_p (zCh (ps := [(0, _),(1, _),(2, _),(3, _)]) (pv := [(0, .int _ _),(1, .int _ _),(2, .int _ _),(3, .int _ _)]) rfl rfl (fun w => Try_SP_fb11 _ _ _ _ w)) rfl ?_
  refine w_p (zCh (ps := [(1, _),(2, _),(3, _)]) (pv := [(1, .int _ _),(2, .int _ _),(3, .int _ _)]) rfl rfl (fun w => Try_SP_fb10 _ _ _ w)) rfl (zBc (ps := [(0, _),(1, _),(2, _),(3, _),(4, _)]) (pv := [(0, .agg #[.int _ _, .int _ _, .int _ _, .int _ _]),(1, .agg #[.int _ _, .int _ _, .int _ _, .int _ _]),(2, .agg #[.int _ _, .int _ _, .int _ _, .int _ _]),(3, .agg #[.int _ _, .int _ _, .int _ _, .int _ _]),(4, .agg #[.int _ _, .int _ _, .int _ _, .int _ _])]) (cs := [_,_,_,_,_,_,_,_,_,_,_,_,_,_,_,_,_,_,_,_]) zAc rfl rfl (fun w => Try_SP_fb12 _ _ _ _ _ _ _ _ _ _ _ _ _ _ _ _ _ _ _ _ w) ga (fun gh gi gb => ?_))
  refine w_p (zCh (ps := [(0, _),(1, _),(2, _)]) (pv := [(0, .slice _ _ _),(1, .slice _ _ _),(2, .slice _ _ _)]) rfl rfl (fun w => Try_SP_fb13 _ _ _ _ _ _ _ _ _ w)) rfl (zBt 3 (.agg #[.slice _ _ _, .slice _ _ _, .slice _ _ _]) [_,_,_] sizeOf26 gb (fun gj g3 => ?_))
  refine zAe (zAb (g6 _ _ (zA0 (zA1 (l := [.cell 4 26]) (vs := [_]) rfl ⟨⟨rfl, _, rfl, zBv (vs := [_,_,_]) isAgg26 sizeOf26 g3 (aow 3 [_,_,_])⟩, trivial⟩ ?_))))
  exact ⟨_, _,_, rfl, drop_4th g3⟩

theorem c8 {w0 w : World} {F : List (Nat × Obj)}  (hs : St w0 w F) :
  Con Tryz.prog 8 [] w fun v w' => v = .bool true ∧ St w0 w' F := by
  refine zAo (n := 178) func8 rfl rfl (zNl rfl) ?_
  refine zAf (fun K2 gd => (zAa (zA9 rfl rfl (zAe (zAb (gd _ _ (zAf (fun K4 ge => (zAa (zA4 zAc call34 rfl rfl rfl rfl (c34 2 10 hs) ?_))))))))))
  rintro _ w6 ⟨t1, s1, r1, rfl, gf⟩
  refine zA4 zAc call34 rfl rfl rfl rfl (c34 3 10 gf) ?_
  rintro _ w9 ⟨t2, s2, r2, rfl, gg⟩
  refine zA5 (cs := [_,_,_]) zAc zeroValue26 rfl gg (fun gh hO gi => ?_)
  refine zA5 (cs := [_,_,_]) zAc zeroValue26 rfl gi (fun gj hY gk => ?_)
  refine zBt 1 (.agg #[.slice _ _ _, .slice _ _ _, .slice _ _ _]) [_,_,_] sizeOf26 gk (fun j0 gm => ?_)
  refine zBt 0 (.agg #[.slice _ _ _, .slice _ _ _, .slice _ _ _]) [_,_,_] sizeOf26 gm (fun j1 gn => ?_)
  refine zAe (zAb (ge _ _ (zAf (fun j3 gq => ?_))))
  obtain ⟨Z, hZ, hsZ⟩ := gen_Z gn
  have hP1 : Ats w0 Z gh 0 ((exM 2 10).cells ⟨some ⟨r1,0, none⟩, 2, some ⟨s1,0, none⟩, 3, some ⟨t1,0, none⟩, 5⟩) := by rw [hZ]; exact zBm (i := 1) (vs := [_,_,_]) rfl rfl
  have g3 : MIn w0 Z (exM 2 10) ⟨some ⟨r1,0, none⟩, 2, some ⟨s1,0, none⟩, 3, some ⟨t1,0, none⟩, 5⟩ := by rw [hZ]; exact ex_min (i1 := 5) (i2 := 6) (i3 := 7) rfl rfl rfl
  have hP2 : Ats w0 Z gj 0 ((exM 3 10).cells ⟨some ⟨r2,0, none⟩, 2, some ⟨s2,0, none⟩, 3, some ⟨t2,0, none⟩, 5⟩) := by rw [hZ]; exact zBm (i := 0) (vs := [_,_,_]) rfl rfl
  have gr : MIn w0 Z (exM 3 10) ⟨some ⟨r2,0, none⟩, 2, some ⟨s2,0, none⟩, 3, some ⟨t2,0, none⟩, 5⟩ := by rw [hZ]; exact ex_min (i1 := 2) (i2 := 3) (i3 := 4) rfl rfl rfl
  refine zAa (w_p (zAs (vs := [_,_,_]) isAgg26 sizeOf26 hsZ rfl rfl hP1) rfl (zA4 zAc call10 rfl rfl rfl rfl ((c10 (exM 2 10) ⟨some ⟨r1,0, none⟩, 2, some ⟨s1,0, none⟩, 3, some ⟨t1,0, none⟩, 5⟩ g3 hsZ).mono (fun v w' h => by rw [ex_goes] at h; exact h)) ?_))
  rintro _ j4 ⟨B1, a1, c1, rfl, hq1, g4⟩
  replace g4 := (show St _ _ (B1 ++ (Z)) from g4)
  refine w_p (zA6 rfl rfl) rfl (w_p (zCm rfl rfl rfl) rfl (w_p (zAq rfl rfl rfl) rfl (w_p (zBh rfl rfl) rfl (zBg rfl rfl (zAe (zAb (gq _ _ (zAf (fun j5 gt => (zAa (w_p (zAs (vs := [_,_,_]) isAgg26 sizeOf26 g4.drop rfl rfl hP1) rfl ?_)))))))))))
  refine zBc (ps := [(0, _),(1, _),(2, _)]) (pv := [(0, .int _ _),(1, .int _ _),(2, .int _ _)]) (cs := [_,_,_]) zAc rfl rfl (fun w => zF7 _ _ _ w) g4 (fun gu j6 gw => ?_)
  refine zCi zAc call35 rfl rfl rfl rfl ((c35 (exM 2 10) ⟨some ⟨r1,0, none⟩, 2, some ⟨s1,0, none⟩, 3, some ⟨t1,0, none⟩, 5⟩ g3.app.cons (some ⟨gu,0, none⟩) 3 [0,1,2] (by decide) (zBx (i := 0) (rows := [[_], [_], [_]]) rfl (by simp) rfl) gw).mono (fun v w' h => by rw [ex_can1] at h; exact h)) (fun j7 g9 => ?_)
  refine w_p (zA6 rfl rfl) rfl (w_p (zAq rfl rfl rfl) rfl (w_p (zAq rfl rfl rfl) rfl (zBg rfl rfl (zBg rfl rfl (zAe (zAb (gt _ _ (zAf (fun j9 gx => (zAa (w_p (zAs (vs := [_,_,_]) isAgg26 sizeOf26 g9.tail.drop rfl rfl hP1) rfl ?_)))))))))))
  refine zBc (ps := [(0, _),(1, _)]) (pv := [(0, .int _ _),(1, .int _ _)]) (cs := [_,_]) zAc rfl rfl (fun w => zF6 _ _ w) g9 (fun gy ja gz => ?_)
  refine zCi zAc call35 rfl rfl rfl rfl ((c35 (exM 2 10) ⟨some ⟨r1,0, none⟩, 2, some ⟨s1,0, none⟩, 3, some ⟨t1,0, none⟩, 5⟩ g3.app.cons.cons (some ⟨gy,0, none⟩) 2 [1,2] (by decide) (zBx (i := 0) (rows := [[_], [_]]) rfl (by simp) rfl) gz).mono (fun v w' h => by rw [ex_can2] at h; exact h)) (fun jb gA => ?_)
  refine w_p (zA6 rfl rfl) rfl (w_p (zAq rfl rfl rfl) rfl (w_p (zAq rfl rfl rfl) rfl (zBg rfl rfl (zBg rfl rfl (zAe (zAb (gx _ _ (zAf (fun jc gB => (zAa (zA4 zAc call34 rfl rfl rfl rfl (c34 3 15 gA) ?_)))))))))))
  rintro _ jd ⟨t3, s3, r3, rfl, gC⟩
  refine zBc (ps := [(0, _)]) (pv := [(0, .int _ _)]) (cs := [_]) zAc rfl rfl (fun w => Try_SP_fb16 _ w) gC (fun gD je gE => ?_)
  refine zCi zAc call35 rfl rfl rfl rfl ((c35 (exM 3 15) ⟨some ⟨r3,0, none⟩, 2, some ⟨s3,0, none⟩, 3, some ⟨t3,0, none⟩, 5⟩ (ex_min (i1 := 1) (i2 := 2) (i3 := 3) rfl rfl rfl) (some ⟨gD,0, none⟩) 1 [1] (by decide) (zBx (i := 0) (rows := [[_]]) rfl (by simp) rfl) gE).mono (fun v w' h => by rw [ex_can3] at h; exact h)) (fun jf ga => ?_)
  refine w_p (zA6 rfl rfl) rfl (w_p (zAq rfl rfl rfl) rfl (w_p (zAq rfl rfl rfl) rfl (zBg rfl rfl (zBg rfl rfl (zAe (zAb (gB _ _ (zAf (fun jg gF => (zAa (w_p (zAs (vs := [_,_,_]) isAgg26 sizeOf26 ga.tail.tail.tail.tail.tail.tail.drop rfl rfl hP1) rfl ?_)))))))))))
  refine zBc (ps := [(0, _),(1, _),(2, _)]) (pv := [(0, .int _ _),(1, .int _ _),(2, .int _ _)]) (cs := [_,_,_]) zAc rfl rfl (fun w => zF7 _ _ _ w) ga (fun gG jh gH => ?_)
  refine zA4 zAc call36 rfl rfl rfl rfl ((c36 (exM 2 10) ⟨some ⟨r1,0, none⟩, 2, some ⟨s1,0, none⟩, 3, some ⟨t1,0, none⟩, 5⟩ g3.app.cons.cons.cons.cons.cons.cons.cons (some ⟨gG,0, none⟩) 3 [0,1,2] (by decide) (zBx (i := 0) (rows := [[_], [_], [_]]) rfl (by simp) rfl) gH).mono (fun v w' h => by rw [ex_proof1] at h; exact h)) ?_
  rintro _ ji ⟨B2, a2, c2, rfl, hq2, g5⟩
  replace g5 := (show St _ _ (B2 ++ (_ :: _ :: _ :: _ :: _ :: _ :: _ :: B1 ++ (Z))) from g5)
  refine w_p (zA6 rfl rfl) rfl (w_p (zCm rfl rfl rfl) rfl (w_p (zAq rfl rfl rfl) rfl (w_p (zAq rfl rfl rfl) rfl (w_p (zBh rfl rfl) rfl (zBg rfl rfl (zBg rfl rfl (zAe (zAb (gF _ _ (zAf (fun jj gI => (zAa (w_p (zAs (vs := [_,_,_]) isAgg26 sizeOf26 g5.drop.tail.tail.tail.tail.tail.tail.tail.drop rfl rfl hP1) rfl ?_)))))))))))))
  refine zBc (ps := [(0, _),(1, _)]) (pv := [(0, .int _ _),(1, .int _ _)]) (cs := [_,_]) zAc rfl rfl (fun w => zF6 _ _ w) g5 (fun gJ jk gK => ?_)
  refine zA4 zAc call36 rfl rfl rfl rfl ((c36 (exM 2 10) ⟨some ⟨r1,0, none⟩, 2, some ⟨s1,0, none⟩, 3, some ⟨t1,0, none⟩, 5⟩ g3.app.cons.cons.cons.cons.cons.cons.cons.app.cons (some ⟨gJ,0, none⟩) 2 [1,2] (by decide) (zBx (i := 0) (rows := [[_], [_]]) rfl (by simp) rfl) gK).mono (fun v w' h => by rw [ex_proof2] at h; exact h)) ?_
  rintro _ jl ⟨B3, a3, c3, rfl, hq3, g6⟩
  replace g6 := (show St _ _ (B3 ++ (_ :: B2 ++ (_ :: _ :: _ :: _ :: _ :: _ :: _ :: B1 ++ (Z)))) from g6)
  refine w_p (zA6 rfl rfl) rfl (w_p (zCm rfl rfl rfl) rfl (w_p (zAq rfl rfl rfl) rfl (w_p (zAq rfl rfl rfl) rfl (w_p (zBh rfl rfl) rfl (zBg rfl rfl (zBg rfl rfl (zAe (zAb (gI _ _ (zAf (fun jm gL => (zAa (w_p (zAs (vs := [_,_,_]) isAgg26 sizeOf26 g6.drop.tail.drop.tail.tail.tail.tail.tail.tail.tail.drop rfl rfl hP1) rfl ?_)))))))))))))
  refine zA4 zAc call37 rfl rfl rfl rfl ((c37 (exM 2 10) ⟨some ⟨r1,0, none⟩, 2, some ⟨s1,0, none⟩, 3, some ⟨t1,0, none⟩, 5⟩ g3.app.cons.cons.cons.cons.cons.cons.cons.app.cons.app g6).mono (fun v w' h => by rw [ex_without] at h; exact h)) ?_
  rintro _ jo ⟨B4, a4, c4, rfl, hq4, g7⟩
  replace g7 := (show St _ _ (B4 ++ (B3 ++ (_ :: B2 ++ (_ :: _ :: _ :: _ :: _ :: _ :: _ :: B1 ++ (Z))))) from g7)
  refine w_p (zA6 rfl rfl) rfl (w_p (zCm rfl rfl rfl) rfl (w_p (zAq rfl rfl rfl) rfl (w_p (zBh rfl rfl) rfl (zBg rfl rfl (zAe (zAb (gL _ _ (zAf (fun jp gM => (zAa (w_p (zAs (vs := [_,_,_]) isAgg26 sizeOf26 g7.drop.drop.tail.drop.tail.tail.tail.tail.tail.tail.tail.drop rfl rfl hP1) rfl ?_)))))))))))
  refine zA4 zAc call11 rfl rfl rfl rfl ((c11 (exM 2 10) ⟨some ⟨r1,0, none⟩, 2, some ⟨s1,0, none⟩, 3, some ⟨t1,0, none⟩, 5⟩ g3.app.cons.cons.cons.cons.cons.cons.cons.app.cons.app.app g7).mono (fun v w' h => by rw [ex_give] at h; exact h)) ?_
  rintro _ jq ⟨B5, a5, c5, rfl, hq5, g8⟩
  replace g8 := (show St _ _ (B5 ++ (B4 ++ (B3 ++ (_ :: B2 ++ (_ :: _ :: _ :: _ :: _ :: _ :: _ :: B1 ++ (Z)))))) from g8)
  refine w_p (zA6 rfl rfl) rfl (w_p (zCm rfl rfl rfl) rfl (w_p (zAq rfl rfl rfl) rfl (w_p (zBh rfl rfl) rfl (zBg rfl rfl (zAe (zAb (gM _ _ (zAf (fun jr gN => (zAa (w_p (zAs (vs := [_,_,_]) isAgg26 sizeOf26 g8.drop.drop.drop.tail.drop.tail.tail.tail.tail.tail.tail.tail.drop rfl rfl hP1) rfl ?_)))))))))))
  refine zCi zAc call38 rfl rfl rfl rfl ((c38 (exM 2 10) ⟨some ⟨r1,0, none⟩, 2, some ⟨s1,0, none⟩, 3, some ⟨t1,0, none⟩, 5⟩ g3.app.cons.cons.cons.cons.cons.cons.cons.app.cons.app.app.app 0 g8).mono (fun v w' h => by rw [ex_more] at h; exact h)) (fun js gb => ?_)
  refine w_p (zA6 rfl rfl) rfl (w_p (zAq rfl rfl rfl) rfl (w_p (zAq rfl rfl rfl) rfl (zBg rfl rfl (zBg rfl rfl (zAe (zAb (gN _ _ (zAf (fun jt gO => (zAa (w_p (zAs (vs := [_,_,_]) isAgg26 sizeOf26 gb.drop.drop.drop.tail.drop.tail.tail.tail.tail.tail.tail.tail.drop rfl rfl hP2) rfl ?_)))))))))))
  refine zCi zAc call39 rfl rfl rfl rfl ((c39 (exM 3 10) ⟨some ⟨r2,0, none⟩, 2, some ⟨s2,0, none⟩, 3, some ⟨t2,0, none⟩, 5⟩ gr.app.cons.cons.cons.cons.cons.cons.cons.app.cons.app.app.app 1 gb).mono (fun v w' h => by rw [ex_late] at h; exact h)) (fun ju gc => ?_)
  refine w_p (zA6 rfl rfl) rfl (w_p (zAq rfl rfl rfl) rfl (w_p (zAq rfl rfl rfl) rfl (zBg rfl rfl (zBg rfl rfl (zAe (zAb (gO _ _ (zAf (fun jv gP => (zAa (w_p (zAs (vs := [_,_,_]) isAgg26 sizeOf26 gc.drop.drop.drop.tail.drop.tail.tail.tail.tail.tail.tail.tail.drop rfl rfl hP1) rfl ?_)))))))))))
  refine zBc (ps := [(0, _),(1, _)]) (pv := [(0, .int _ _),(1, .int _ _)]) (cs := [_,_]) zAc rfl rfl (fun w => zF6 _ _ w) gc (fun gQ jw gR => ?_)
  refine zCi zAc call35 rfl rfl rfl rfl ((c35 (exM 2 10) ⟨some ⟨r1,0, none⟩, 2, some ⟨s1,0, none⟩, 3, some ⟨t1,0, none⟩, 5⟩ g3.app.cons.cons.cons.cons.cons.cons.cons.app.cons.app.app.app.cons (some ⟨gQ,0, none⟩) 2 [1,0] (by decide) (zBx (i := 0) (rows := [[_], [_]]) rfl (by simp) rfl) gR).mono (fun v w' h => by rw [ex_can4] at h; exact h)) (fun jx gS => ?_)
  refine w_p (zA6 rfl rfl) rfl (w_p (zAq rfl rfl rfl) rfl (w_p (zAq rfl rfl rfl) rfl (zBg rfl rfl (zBg rfl rfl (zAe (zAb (gP _ _ (zAf (fun jy gT => (zAa (zA2 rfl rfl ?_)))))))))))
  refine w_p (zCk rfl rfl rfl rfl) rfl (w_p (zAn rfl rfl) rfl (w_y rfl rfl rfl (zAu rfl rfl) rfl (w_y rfl rfl rfl (zCk rfl rfl rfl rfl) rfl (w_p (zAt (v := .bool _) rfl rfl rfl rfl) rfl (w_p (zAn rfl rfl) rfl ?_)))))
  refine w_y rfl rfl rfl (zAu rfl rfl) rfl ?_
  refine w_y rfl rfl rfl (zCk rfl rfl rfl rfl) rfl ?_
  refine w_p (zAt (v := .bool _) rfl rfl rfl rfl) rfl (w_p (zAn rfl rfl) rfl (w_y rfl rfl rfl (zAu rfl rfl) rfl (w_y rfl rfl rfl (zCk rfl rfl rfl rfl) rfl (w_p (zAt (v := .bool _) rfl rfl rfl rfl) rfl (w_p (zAn rfl rfl) rfl ?_)))))
  refine w_y rfl rfl rfl (zAu rfl rfl) rfl ?_
  refine w_y rfl rfl rfl (zCk rfl rfl rfl rfl) rfl ?_
  refine w_p (zAt (v := .bool _) rfl rfl rfl rfl) rfl (w_p (zAn rfl rfl) rfl (w_y rfl rfl rfl (zAu rfl rfl) rfl (w_y rfl rfl rfl (zCk rfl rfl rfl rfl) rfl (w_p (zAt (v := .bool _) rfl rfl rfl rfl) rfl (w_p (zAn rfl rfl) rfl ?_)))))
  refine w_y rfl rfl rfl (zAu rfl rfl) rfl ?_
  refine w_y rfl rfl rfl (zCk rfl rfl rfl rfl) rfl ?_
  refine w_p (zAt (v := .bool _) rfl rfl rfl rfl) rfl (w_p (zAn rfl rfl) rfl (w_y rfl rfl rfl (zAu rfl rfl) rfl (w_y rfl rfl rfl (zCk rfl rfl rfl rfl) rfl (w_p (zAt (v := .bool _) rfl rfl rfl rfl) rfl (w_p (zAn rfl rfl) rfl ?_)))))
  refine w_y rfl rfl rfl (zAu rfl rfl) rfl ?_
  refine w_y rfl rfl rfl (zCk rfl rfl rfl rfl) rfl ?_
  refine w_p (zAt (v := .bool _) rfl rfl rfl rfl) rfl (w_p (zAn rfl rfl) rfl (w_y rfl rfl rfl (zAu rfl rfl) rfl (w_y rfl rfl rfl (zCk rfl rfl rfl rfl) rfl (w_p (zAt (v := .bool _) rfl rfl rfl rfl) rfl (w_p (zAn rfl rfl) rfl ?_)))))
  refine w_y rfl rfl rfl (zAu rfl rfl) rfl ?_
  refine w_y rfl rfl rfl (zCk rfl rfl rfl rfl) rfl ?_
  refine w_p (zAt (v := .bool _) rfl rfl rfl rfl) rfl (w_p (zAn rfl rfl) rfl (w_y rfl rfl rfl (zAx rfl rfl) rfl (zBc (ps := [(0, _),(1, _),(2, _),(3, _)]) (pv := [(0, .int _ _),(1, .int _ _),(2, .int _ _),(3, .int _ _)]) (cs := [_,_,_,_]) (zAm rfl rfl rfl) rfl rfl (fun w => Try_SP_fb17 _ _ _ _ w) gS (fun jz jA gU => ?_))))
  refine zA4 (zAm rfl rfl rfl) call33 rfl rfl rfl rfl (zD2 (c33 _ _ [0,1,2,3] [0,1,2,3] _ _ (by decide) hq1.top.cons.cons.cons.cons.cons.cons.cons.app.cons.app.app.app.cons.cons (zBx (i := 0) (rows := [[_], [_], [_], [_]]) rfl (by simp) rfl) gU) (by decide)) ?_
  rintro _ jB ⟨rfl, gV⟩
  refine w_p (zAt (v := .bool _) rfl rfl rfl rfl) rfl (w_p (zAn rfl rfl) rfl (w_y rfl rfl rfl (zAu rfl rfl) rfl (w_y rfl rfl rfl (zCk rfl rfl rfl rfl) rfl (w_p (zAt (v := .bool _) rfl rfl rfl rfl) rfl (w_p (zAn rfl rfl) rfl ?_)))))
  refine w_y rfl rfl rfl (zAu rfl rfl) rfl ?_
  refine w_y rfl rfl rfl (zCk rfl rfl rfl rfl) rfl ?_
  refine w_p (zAt (v := .bool _) rfl rfl rfl rfl) rfl (w_p (zAn rfl rfl) rfl (w_y rfl rfl rfl (zAu rfl rfl) rfl (w_y rfl rfl rfl (zCk rfl rfl rfl rfl) rfl (w_p (zAt (v := .bool _) rfl rfl rfl rfl) rfl (w_p (zAn rfl rfl) rfl ?_)))))
  refine w_y rfl rfl rfl (zAx rfl rfl) rfl ?_
  refine zBc (ps := [(0, _),(1, _),(2, _)]) (pv := [(0, .int _ _),(1, .int _ _),(2, .int _ _)]) (cs := [_,_,_]) (zAm rfl rfl rfl) rfl rfl (fun w => zF7 _ _ _ w) gV (fun jC jD gW => ?_)
  refine zA4 (zAm rfl rfl rfl) call33 rfl rfl rfl rfl (zD2 (c33 _ _ [0,1,2] [0,1,2] _ _ (by decide) hq2.top.cons.app.app.app.cons.cons.cons (zBx (i := 0) (rows := [[_], [_], [_]]) rfl (by simp) rfl) gW) (by decide)) ?_
  rintro _ jE ⟨rfl, gX⟩
  refine w_p (zAt (v := .bool _) rfl rfl rfl rfl) rfl (w_p (zAn rfl rfl) rfl (w_y rfl rfl rfl (zAu rfl rfl) rfl (w_y rfl rfl rfl (zCk rfl rfl rfl rfl) rfl (w_p (zAt (v := .bool _) rfl rfl rfl rfl) rfl (w_p (zAn rfl rfl) rfl ?_)))))
  refine w_y rfl rfl rfl (zAx rfl rfl) rfl ?_
  refine zBc (ps := [(0, _)]) (pv := [(0, .int _ _)]) (cs := [_]) (zAm rfl rfl rfl) rfl rfl (fun w => Try_SP_fb16 _ w) gX (fun jF jG gY => ?_)
  refine zA4 (zAm rfl rfl rfl) call33 rfl rfl rfl rfl (zD2 (c33 _ _ [0] [0] _ _ (by decide) hq4.top.app.cons.cons.cons.cons (zBx (i := 0) (rows := [[_]]) rfl (by simp) rfl) gY) (by decide)) ?_
  rintro _ jH ⟨rfl, gZ⟩
  refine w_p (zAt (v := .bool _) rfl rfl rfl rfl) rfl (w_p (zAn rfl rfl) rfl (w_y rfl rfl rfl (zAx rfl rfl) rfl (zBc (ps := [(0, _),(1, _),(2, _),(3, _),(4, _)]) (pv := [(0, .int _ _),(1, .int _ _),(2, .int _ _),(3, .int _ _),(4, .int _ _)]) (cs := [_,_,_,_,_]) (zAm rfl rfl rfl) rfl rfl (fun w => Try_SP_fb18 _ _ _ _ _ w) gZ (fun jI jJ hG => ?_))))
  refine zA4 (zAm rfl rfl rfl) call33 rfl rfl rfl rfl (zD2 (c33 _ _ [0,8,2,8,0] [0,8,2,8,0] _ _ (by decide) hq5.top.cons.cons.cons.cons.cons (zBx (i := 0) (rows := [[_], [_], [_], [_], [_]]) rfl (by simp) rfl) hG) (by decide)) ?_
  rintro _ jK ⟨rfl, hH⟩
  refine w_p (zAt (v := .bool _) rfl rfl rfl rfl) rfl (w_p (zAn rfl rfl) rfl (w_y rfl rfl rfl (zAu rfl rfl) rfl (w_y rfl rfl rfl (zCk rfl rfl rfl rfl) rfl (w_p (zAt (v := .bool _) rfl rfl rfl rfl) rfl (w_p (zAn rfl rfl) rfl ?_)))))
  refine w_y rfl rfl rfl (zAu rfl rfl) rfl ?_
  refine w_y rfl rfl rfl (zCk rfl rfl rfl rfl) rfl ?_
  refine w_p (zAt (v := .bool _) rfl rfl rfl rfl) rfl (w_p (zAl rfl rfl) rfl (zAe (zAb (gT _ _ (zA0 (zA1 (l := [.tmp 0]) (vs := [_]) rfl ⟨⟨rfl, (rfl : _ = Value.bool _)⟩, trivial⟩ ?_))))))
  exact ⟨rfl, (St.cast hZ hH.tail.tail.tail.tail.tail.drop.drop.drop.tail.drop.tail.tail.tail.tail.tail.tail.tail.drop).tail.tail.tail.tail.tail.tail.tail.tail⟩

end Go.Proofs.Sb
set_option maxRecDepth 20000
namespace Go.Proofs.Tn
open Go.Proofs.Tryz
open Go.Rt Go.Rt.Tn
attribute [local irreducible] WL WC Con Yd At Ats Sl Agree DW
theorem Try_TB_fb0  (w : World) : (Instr.buildSlice 22 0 [].toArray).run Tryz.prog w = .ok (.slice (some ⟨w.heap.size, 0, none⟩) 0 0) (w.alloc (Go.Rt.blk 44 [])) := by kernel_rfl
theorem Try_info44 : Tryz.prog.info? 44 = some Tryz.t44 := by kernel_rfl
theorem Try_TB_fb2 (x0 : Int) (x1 : Int) (w : World) : (Instr.build 28 [(0, .int .i64 x0),(1, .int .i64 x1)].toArray).run Tryz.prog w = .ok (.agg #[.int .i64 x0, .int .i64 x1]) w := by kernel_rfl
theorem zDg : flatInts Tryz.prog 28 2 = true := by kernel_rfl
theorem zCq {P : Program} {a : Act} {o : Oper} {w : World} {x y : Option Addr} {l c : Nat} (h : x = y) (hy : Yd P a o w (.slice x l c)) : Yd P a o w (.slice y l c) := h ▸ hy
theorem zCt {P : Program} {a : Act} {o : Oper} {w : World} {k : IntKind} {z z' : Int} (h : z = z') (hy : Yd P a o w (.int k z)) : Yd P a o w (.int k z') := h ▸ hy
theorem gen_Z {w0 w : World} {L : List (Nat × Obj)} (hs : St w0 w L) : ∃ Z, Z = L ∧ St w0 w Z := ⟨L, rfl, hs⟩
theorem ats_ofN {w0 w : World} {L : List (Nat × Obj)} {i b : Nat} {t : TypeId} {cs vs vs2 : List Value} (_hs : St w0 w L) (hi : L[i]? = some (b, blk t cs)) (e : vs2 = vs) (h : (cs.drop 0).take vs.length = vs) : Ats w0 L b 0 vs2 := by rw [e]; exact zBm hi h
theorem own_some {t : TypeId} {sz n : Nat} {v : Value} {xs : List Value} {B : List (Nat × Obj)} (h : Rt.Own v t sz n xs B) (hn : 0 < n) : ∃ b cap cs, v = .slice (some ⟨b, 0, none⟩) n cap ∧ B = [(b, blk t cs)] ∧ n ≤ cap ∧ cap ≤ maxLen ∧ cs.length = cap * sz ∧ cs.take (n * sz) = xs := by
  rcases h.2 with ⟨_, h0, _⟩ | ⟨b, cap, cs, h1, h2, h3, h4, h5, h6⟩
  · omega
  · exact ⟨b, cap, cs, h1, h2, h3, h4, h5, h6⟩
theorem zD2 {k : FuncId} {args : List Value} {w : World} {x : Bool} {S : World → Prop} (h : Con Tryz.prog k args w fun v w' => v = .bool x ∧ S w') (hx : x = true) : Con Tryz.prog k args w fun v w' => v = .bool true ∧ S w' := by subst hx; exact h
theorem rrow5 (l : List Sh.Room) : ∀ row ∈ Sh.rrows l, row.length = 5 := by intro row h; obtain ⟨x, _, rfl⟩ := List.mem_map.1 h; rfl
theorem rrow1 (l : List Sh.Room) : ∀ row ∈ Sh.rrows l, ∀ u ∈ row, u.oneCell' = true := by
  intro row h u hu
  obtain ⟨x, _, rfl⟩ := List.mem_map.1 h
  simp only [Sh.Room.cells, List.mem_cons, List.not_mem_nil, or_false] at hu
  rcases hu with rfl | rfl | rfl | rfl | rfl <;> rfl
theorem zGi (l : List Sh.Room) : (Sh.rrows l).length = l.length := List.length_map _
theorem row_at {w0 w : World} {L : List (Nat × Obj)} (_hs : St w0 w L) {j b n : Nat} {t : TypeId} {cs : List Value} {rs : List Sh.Room} (hj : L[j]? = some (b, blk t cs)) (h : cs.take (n * 5) = (Sh.rrows rs).flatten) (hn : rs.length = n) {i : Nat} (hi : i < rs.length) : Ats w0 L b (0 + i * 5) rs[i].cells := by
  obtain ⟨b', off, e, hat⟩ := Sb.sl_rrows (zBx (w0 := w0) hj (rrow5 _) (by rw [zGi, hn]; exact h)) hi
  cases e; exact hat
theorem put_first {m : Sh.Market} {D : Int} {n : Nat} {cs : List Value} (h : cs.take (n * 5) = (Sh.rrows m.rooms).flatten) (hn : m.rooms.length = n) (h0 : 0 < m.rooms.length) : (setMany cs (0 * 5) (onD D m.rooms[0]).cells).take ((firstM D m).rooms.length * 5) = (Sh.rrows (firstM D m).rooms).flatten := by
  rw [zEq, hn, first_set h0]
  have := zHq (rows := Sh.rrows m.rooms) (sz := 5) (i := 0) (n := n) (row := (onD D m.rooms[0]).cells) (cs := cs) (by rw [zGi]; exact hn) (rrow5 _) (by rw [zGi]; exact h0) rfl h
  rw [this]; unfold Sh.rrows; rw [List.map_set]
theorem min_first {w0 : World} {Z : List (Nat × Obj)} {m : Sh.Market} {p : Sh.At3} {D : Int} {b i cap : Nat} {t : TypeId} {cs : List Value} (hm : Sb.MIn w0 Z m p) (hi : Z[i]? = some (b, blk t cs)) (hc : cs.take ((firstM D m).rooms.length * 5) = (Sh.rrows (firstM D m).rooms).flatten) (hcap : m.rooms.length ≤ cap) : Sb.MIn w0 Z (firstM D m) ⟨some ⟨b, 0, none⟩, cap, p.az, p.cs, p.at_, p.ct⟩ :=
  ⟨zBx hi (rrow5 _) (by rw [zGi]; exact hc), hm.s, hm.t, by rw [zEq]; exact hm.lr, hm.ls, hm.lt, by rw [zEq]; exact hcap, hm.cs, hm.ct, fun x hx => by
    obtain ⟨rs, ss, ts⟩ := m
    cases rs with
    | nil => simp [firstM] at hx
    | cons r l =>
      rcases List.mem_cons.1 hx with h | h
      · rw [h]; exact hm.nr r (.head _)
      · exact hm.nr x (.tail _ h), hm.ns⟩
theorem c3 {w0 w : World} {F : List (Nat × Obj)} (m : Sh.Market) (p : Sh.At3) (hm : Sb.MIn w0 F m p) (hnil : p.ar = none → p.cr = 0) (r : Ro.Room) (q : Ro.AtR) (hm2 : Ro.RIn w0 F r q) (x0 x1 : Int) (hx0 : 0 ≤ x0 ∧ x0 ≤ 255) (hx1 : 0 ≤ x1 ∧ x1 ≤ 255) (hs : St w0 w F) :
  Con Tryz.prog 3 [.agg (m.cells p).toArray, .agg (r.cells q).toArray, .agg #[.int .u8 x0, .int .u8 x1]] w fun v w' => v = .bool true ∧ St w0 w' F := by
  refine zAo (n := 217) func3 rfl rfl (zNl rfl) ?_
  have hmt0 := hm.lt
  have hmr0 := hm.lr
  refine zAf (fun K2 gG => (zAa (zCd (v := .agg #[.slice _ _ _, .slice _ _ _, .slice _ _ _]) (cs := [_,_,_]) zAc rfl rfl rfl hs (fun b3 w4 gH => ?_))))
  refine zCd (v := .agg #[.int _ _, .int _ _, .int _ _, .slice _ _ _, .int _ _, .slice _ _ _, .slice _ _ _]) (cs := [_,_,_,_,_,_,_]) zAc rfl rfl rfl gH (fun b6 w7 gI => ?_)
  refine zCd (v := .agg #[.int _ _, .int _ _]) (cs := [_,_]) zAc rfl rfl rfl gI (fun b9 jv gz => ?_)
  refine zA9 rfl rfl (zAe (zAb (gG _ _ (zAf (fun jw gJ => (zAa (w_p (zAs (vs := [_,_,_]) isAgg26 sizeOf26 gz rfl rfl (aow 2 [_,_,_])) rfl ?_)))))))
  refine zCi zAc call4 rfl rfl rfl rfl (Sb.c4 m p hm.cons.cons.cons gz) (fun jx gA => ?_)
  refine w_p (zA6 rfl rfl) rfl (w_p (zAq rfl rfl rfl) rfl (w_p (zAq rfl rfl rfl) rfl (w_p (zAq rfl rfl rfl) rfl (zBg rfl rfl (zBg rfl rfl (zBg rfl rfl (zAe (zAb (gJ _ _ (zAf (fun jy gK => (zAa (w_p (zAs (vs := [_,_,_,_,_,_,_]) isAgg33 sizeOf33 gA rfl rfl (aow 1 [_,_,_,_,_,_,_])) rfl ?_)))))))))))))
  refine zA4 zAc call5 rfl rfl rfl rfl (Rr.c5 r q hm2.cons.cons.cons gA) ?_
  rintro _ jz ⟨i8, j8, e8, rfl, hok8, g4⟩
  refine w_p (zA6 rfl rfl) rfl (w_p (zAq rfl rfl rfl) rfl (w_p (zAq rfl rfl rfl) rfl (w_p (zAq rfl rfl rfl) rfl (zBg rfl rfl (zBg rfl rfl (zBg rfl rfl (zAe (zAb (gK _ _ (zAf (fun jA gL => (zAf (fun jB g9 => (zAa (zA2 rfl rfl ?_)))))))))))))))
  refine w_p (zCj rfl rfl rfl rfl) rfl (w_p (zAn rfl rfl) rfl (zBk (fun gi => ?_) (fun gi => ?_)))
  ·
   try simp only [zS] at gi
   refine zAg rfl rfl rfl ?_
   refine zAg rfl rfl rfl ?_
   refine w_p (zAt (v := _) rfl rfl rfl rfl) rfl (w_p (zAn rfl rfl) rfl (zAg rfl rfl rfl ?_))
   refine zAg rfl rfl rfl ?_
   refine zAg rfl rfl rfl ?_
   refine zAg rfl rfl rfl ?_
   refine w_p (zAt (v := _) rfl rfl rfl rfl) rfl (w_p (zAn rfl rfl) rfl (zAg rfl rfl rfl ?_))
   refine zAg rfl rfl rfl ?_
   refine zAg rfl rfl rfl ?_
   refine w_p (zAt (v := _) rfl rfl rfl rfl) rfl (zAe (zAb (g9 _ _ (zBz rfl rfl ?_))))
   refine zAf (fun jC gM => (zAa (zCi zAc call7 rfl rfl rfl rfl (Ro.c7 g4) (fun jD gN => ?_))))
   refine w_p (zAn rfl rfl) rfl (zA4 (zAm rfl rfl rfl) call8 rfl rfl rfl rfl (Sb.c8 gN) ?_)
   rintro _ jE ⟨rfl, gO⟩
   refine w_p (zAt (v := .bool _) rfl rfl rfl rfl) rfl (w_p (zAl rfl rfl) rfl (zAe (zAb (gM _ _ (zA0 (zAh (zA1 (l := [.tmp 6]) (vs := [_]) rfl ⟨⟨rfl, (rfl : _ = Value.bool _)⟩, trivial⟩ ?_)))))))
   exact ⟨rfl, gO.tail.tail.tail⟩
  try simp only [zS] at gi
  refine w_y rfl rfl rfl (zAu rfl rfl) rfl ?_
  refine w_y rfl rfl rfl (zCj rfl rfl rfl rfl) rfl ?_
  refine w_p (zBb (v := .bool _) rfl rfl rfl rfl) rfl (w_p (zAn rfl rfl) rfl (zBk (fun gj => ?_) (fun gj => ?_)))
  ·
   try simp only [zS] at gj
   refine zAg rfl rfl rfl ?_
   refine zAg rfl rfl rfl ?_
   refine zAg rfl rfl rfl ?_
   refine zAg rfl rfl rfl ?_
   refine w_p (zAt (v := _) rfl rfl rfl rfl) rfl (w_p (zAn rfl rfl) rfl (zAg rfl rfl rfl ?_))
   refine zAg rfl rfl rfl ?_
   refine zAg rfl rfl rfl ?_
   refine w_p (zAt (v := _) rfl rfl rfl rfl) rfl (zAe (zAb (g9 _ _ (zBz rfl rfl ?_))))
   refine zAf (fun jF gP => (zAa (zCi zAc call7 rfl rfl rfl rfl (Ro.c7 g4) (fun jG gQ => ?_))))
   refine w_p (zAn rfl rfl) rfl (zA4 (zAm rfl rfl rfl) call8 rfl rfl rfl rfl (Sb.c8 gQ) ?_)
   rintro _ jH ⟨rfl, gR⟩
   refine w_p (zAt (v := .bool _) rfl rfl rfl rfl) rfl (w_p (zAl rfl rfl) rfl (zAe (zAb (gP _ _ (zA0 (zAh (zA1 (l := [.tmp 6]) (vs := [_]) rfl ⟨⟨rfl, (rfl : _ = Value.bool _)⟩, trivial⟩ ?_)))))))
   exact ⟨rfl, gR.tail.tail.tail⟩
  try simp only [zS] at gj
  refine w_y rfl rfl rfl (zAd (o := 0) (i := 0) underlying26 rfl sizeOf22 rfl rfl rfl) rfl ?_
  refine w_y rfl rfl rfl (zAi isAgg22 g4 rfl rfl (aow 2 [_])) rfl ?_
  refine w_y rfl rfl rfl (zBd underlying22 rfl rfl) rfl ?_
  refine w_y rfl rfl rfl (zCk rfl rfl rfl rfl) rfl ?_
  refine w_p (zBb (v := .bool _) rfl rfl rfl rfl) rfl (w_p (zAn rfl rfl) rfl (zBk (fun gk => ?_) (fun gk => ?_)))
  ·
   try simp only [zS] at gk
   refine zAg rfl rfl rfl ?_
   refine zAg rfl rfl rfl ?_
   refine zAg rfl rfl rfl ?_
   refine w_p (zAt (v := _) rfl rfl rfl rfl) rfl (zAe (zAb (g9 _ _ (zBz rfl rfl ?_))))
   refine zAf (fun jI gS => (zAa (zCi zAc call7 rfl rfl rfl rfl (Ro.c7 g4) (fun jJ gT => ?_))))
   refine w_p (zAn rfl rfl) rfl (zA4 (zAm rfl rfl rfl) call8 rfl rfl rfl rfl (Sb.c8 gT) ?_)
   rintro _ jK ⟨rfl, gU⟩
   refine w_p (zAt (v := .bool _) rfl rfl rfl rfl) rfl (w_p (zAl rfl rfl) rfl (zAe (zAb (gS _ _ (zA0 (zAh (zA1 (l := [.tmp 6]) (vs := [_]) rfl ⟨⟨rfl, (rfl : _ = Value.bool _)⟩, trivial⟩ ?_)))))))
   exact ⟨rfl, gU.tail.tail.tail⟩
  try simp only [zS] at gk
  refine w_y rfl rfl rfl (zAs (vs := [_,_,_,_,_,_,_]) isAgg33 sizeOf33 g4 rfl rfl (aow 1 [_,_,_,_,_,_,_])) rfl ?_
  refine zA4 (zAm rfl rfl rfl) call6 rfl rfl rfl rfl (Rr.c6 r q hm2.cons.cons.cons (hok8 (by assumption)) g4) ?_
  rintro _ jL ⟨bS, rfl, hbS, gm⟩
  refine w_y rfl rfl rfl (zC0 rfl rfl) rfl ?_
  refine w_p (zBb (v := .bool _) rfl rfl rfl rfl) rfl (zAe (zAb (g9 _ _ (zAv rfl rfl (fun gn => ?_) (fun gn => ?_)))))
  ·
   try simp only [zS] at gn
   refine zAf (fun jM gV => (zAa (zCi zAc call7 rfl rfl rfl rfl (Ro.c7 gm) (fun jN gW => ?_))))
   refine w_p (zAn rfl rfl) rfl (zA4 (zAm rfl rfl rfl) call8 rfl rfl rfl rfl (Sb.c8 gW) ?_)
   rintro _ jO ⟨rfl, gX⟩
   refine w_p (zAt (v := .bool _) rfl rfl rfl rfl) rfl (w_p (zAl rfl rfl) rfl (zAe (zAb (gV _ _ (zA0 (zAh (zA1 (l := [.tmp 6]) (vs := [_]) rfl ⟨⟨rfl, (rfl : _ = Value.bool _)⟩, trivial⟩ ?_)))))))
   exact ⟨rfl, gX.tail.tail.tail⟩
  try simp only [zS] at gn
  refine zAr (zAb (gL _ _ (zAf (fun jP gY => (zAa (w_p (zAd (o := 5) (i := 4) underlying33 rfl sizeOf30 rfl rfl rfl) rfl (w_p (zAi isAgg30 gm rfl rfl (aow 1 [_])) rfl ?_)))))))
  refine w_p (zBd underlying30 rfl rfl) rfl (zBg rfl rfl (zAe (zAb (gY _ _ (zAf (fun jQ gZ => ?_))))))
  have hck : (Sh.check m).2.2 = 0 := by assumption
  have hr := hok8 (by assumption)
  have hlb : Ro.lookB r 0 = true := hbS (by simpa using ‹_›)
  have hokm := Sh.check_ok hck
  have hrl : 0 < m.rooms.length := by omega
  have hdy := hr.days
  have hlr := hr.lr
  have hlt6 := hokm.lt
  have hrm3 := hokm.lr
  have hmod := Int.emod_nonneg x0 (show r.days - r.ran.length + 1 ≠ 0 by omega)
  have hmod2 := Int.emod_lt_of_pos x0 (show 0 < r.days - r.ran.length + 1 by omega)
  obtain ⟨D, hD⟩ : ∃ D, (r.ran.length : Int) + x0 % (r.days - r.ran.length + 1) = D := ⟨_, rfl⟩
  obtain ⟨C, hC⟩ : ∃ C, 1 + x1 % 7 = C := ⟨_, rfl⟩
  have hDb : (r.ran.length : Int) ≤ D ∧ D ≤ r.days := by omega
  have hCb : 1 ≤ C ∧ C ≤ 7 := by omega
  have hF := num_facts (day := D) (by omega) hck hrl
  have hgl := hF.gl
  refine zCc [] [(0,0),(1,0),(2,1),(3,0),(4,0),(5,1),(6,0),(7,0),(8,0),(9,0),(10,0),(11,0),(12,1),(13,0),(14,0),(15,0),(16,0),(17,0)] zB7 (zBs (by kernel_rfl)) gm (fun jR g5 => ?_)
  refine d_w rfl (fun _ => zAu rfl rfl) rfl (d_w rfl (fun _ => zBn underlying34 sizeOf5 rfl rfl rfl rfl (i := 0) rfl (by omega)) rfl ?_)
  refine zA3 rfl zAc rfl g5 (fun _ hq => (zAi isAgg5 hq rfl rfl (aow 0 [_]))) ?_
  refine d_w rfl (fun _ => zG2 (by rw [underlying5]; rfl) underlying3 rfl rfl (by omega) (by omega)) rfl ?_
  refine d_w rfl (fun _ => zAd (o := 0) (i := 0) underlying33 rfl sizeOf3 rfl rfl rfl) rfl ?_
  refine zA3 rfl zAc rfl g5 (fun _ hq => (zAi isAgg3 hq rfl rfl (aow 1 [_]))) ?_
  refine d_w rfl (fun _ => zAu rfl rfl) rfl (d_w rfl (fun _ => zDk rfl rfl rfl rfl (by omega) (by omega)) rfl (d_w rfl (fun _ => zBe rfl rfl rfl rfl (by omega) (by omega)) rfl (d_w rfl (fun _ => y_rem rfl rfl rfl rfl (by omega) (by omega)) rfl (d_w rfl (fun _ => zCt (z' := D) hD (zBe rfl rfl rfl rfl (by omega) (by omega))) rfl ?_))))
  refine d_w rfl (fun _ => zBn underlying34 sizeOf5 rfl rfl rfl rfl (i := 1) rfl (by omega)) rfl ?_
  refine zA3 rfl zAc rfl g5 (fun _ hq => (zAi isAgg5 hq rfl rfl (aow 0 [_]))) ?_
  refine d_w rfl (fun _ => zG2 (by rw [underlying5]; rfl) underlying3 rfl rfl (by omega) (by omega)) rfl ?_
  refine d_w rfl (fun _ => y_rem rfl rfl rfl rfl (by omega) (by omega)) rfl (d_w rfl (fun _ => zCt (z' := C) hC (zBe rfl rfl rfl rfl (by omega) (by omega))) rfl (d_w rfl (fun _ => zC3 rfl rfl) rfl (d_w rfl (fun _ => zC3 rfl rfl) rfl ?_)))
  refine zB5 ?_
  refine zAb (gZ _ _ (zAf (fun jS gB => (zAa (w_p (zAs (vs := [_,_,_,_,_,_,_]) isAgg33 sizeOf33 g5 rfl rfl (aow 1 [_,_,_,_,_,_,_])) rfl (zA2 rfl rfl (zA2 rfl rfl ?_)))))))
  refine zA4 zAc call9 rfl rfl rfl rfl (Ro.c9 r q hm2.cons.cons.cons hr hlb D C hDb hCb g5) ?_
  rintro _ jT (⟨hpl, rfl, g6⟩ | ⟨pq, aY, cY, Y, hpl, rfl, hslY, hnilY, hcapY, g6⟩)
  ·
   refine w_p (zA6 rfl rfl) rfl (w_p (zCm rfl rfl rfl) rfl (w_p (zAq rfl rfl rfl) rfl (w_p (zAq rfl rfl rfl) rfl (w_p (zBh rfl rfl) rfl (zBg rfl rfl (zBg rfl rfl (zAe (zAb (gB _ _ (zAf (fun jU jV => (zAf (fun jW hG => (zAa (zA2 rfl rfl ?_)))))))))))))))
   refine w_p (zCj rfl rfl rfl rfl) rfl (zAe (zAb (hG _ _ (zBz rfl rfl ?_))))
   refine zAf (fun jX hH => (zAa (zA2 rfl rfl (w_p (zCk rfl rfl rfl rfl) rfl (w_p (zAn rfl rfl) rfl (zA4 (zAm rfl rfl rfl) call7 rfl rfl rfl rfl (Ro.c7 g6) ?_))))))
   rintro _ jY ⟨rfl, hO⟩
   refine w_p (zAt (v := .bool _) rfl rfl rfl rfl) rfl (w_p (zAn rfl rfl) rfl (zA4 (zAm rfl rfl rfl) call8 rfl rfl rfl rfl (Sb.c8 hO) ?_))
   rintro _ jZ ⟨rfl, hY⟩
   refine w_p (zAt (v := .bool _) rfl rfl rfl rfl) rfl (w_p (zAl rfl rfl) rfl (zAe (zAb (hH _ _ (zA0 (zAh (zA1 (l := [.tmp 6]) (vs := [_]) rfl ⟨⟨rfl, (rfl : _ = Value.bool _)⟩, trivial⟩ ?_)))))))
   exact ⟨rfl, hY.tail.tail.tail⟩
  replace g6 := (show St _ _ (Y ++ (_ :: _ :: _ :: F)) from g6)
  have hpg := plan_gives hr hDb hpl
  refine w_p (zA6 rfl rfl) rfl (w_p (zCm rfl rfl rfl) rfl (w_p (zAq rfl rfl rfl) rfl (w_p (zAq rfl rfl rfl) rfl (w_p (zBh rfl rfl) rfl (zBg rfl rfl (zBg rfl rfl (zAe (zAb (gB _ _ (zAf (fun k4 j0 => (zAf (fun k5 j1 => (zAa (zA2 rfl rfl ?_)))))))))))))))
  refine w_p (zCj rfl rfl rfl rfl) rfl (zAe (zAb (j1 _ _ (zBj rfl rfl ?_))))
  refine zAr (zAb (j0 _ _ (zAf (fun k6 j3 => ?_))))
  have j4 := (show St _ _ (_ :: _ :: _ :: (Y ++ (F))) from St.pk [Y, [_], [_], [_]] [1,2,3,0] g6)
  refine zAa (zBc (ps := []) (pv := []) (cs := []) zAc rfl rfl (fun w => Try_TB_fb0  w) j4 (fun k7 k8 gC => ?_))
  refine w_p (zAd (o := 0) (i := 0) underlying26 rfl sizeOf22 rfl rfl rfl) rfl (w_p (zAi isAgg22 gC rfl rfl (aow 3 [_])) rfl ?_)
  refine zDd (X := ([])) (B := [_]) (rows := (Sh.rrows m.rooms)) (sz := 5) (bytes := 48) zAc underlying22 Try_info44 rfl rfl rfl rfl rfl rfl rfl rfl rfl gC own_made hm.r.app.cons.cons.cons.cons (zGi _) hnil (rrow1 _) (by simp only [maxLen]; omega) (by omega) (fun k9 ka j5 j6 g7 => ?_)
  replace g7 := (show St _ _ (j5 ++ (_ :: _ :: _ :: Y ++ (F))) from g7)
  obtain ⟨bA, capA, csA, rfl, rfl, hA1, hA2, hA3, hA4⟩ := own_some (n := m.rooms.length) (by have h9 := j6; rw [Nat.zero_add, List.nil_append] at h9; exact h9) hrl
  replace g7 := (show St _ _ (_ :: _ :: _ :: _ :: Y ++ (F)) from g7)
  refine w_p (zAd (o := 0) (i := 0) underlying26 rfl sizeOf22 rfl rfl rfl) rfl (zBt 3 (.slice _ _ _) [_] sizeOf22 g7 (fun kb ga => ?_))
  refine zAe (zAb (j3 _ _ (zAf (fun kc j7 => ?_))))
  have hrow := row_at ga (j := 0) rfl hA4 rfl hrl
  refine zAa (w_p (zAd (o := 0) (i := 0) underlying26 rfl sizeOf22 rfl rfl rfl) rfl (w_p (zAi isAgg22 ga rfl rfl (aow 3 [_])) rfl (w_p (zA7 underlying22 sizeOf44 rfl rfl rfl rfl (i := 0) rfl (by omega)) rfl (w_p (zAs (vs := [_,_,_,_,_]) isAgg44 sizeOf44 ga rfl rfl hrow) rfl ?_))))
  refine zA5 (cs := [_,_,_,_,_]) zAc zeroValue44 rfl ga (fun kd ke j9 => ?_)
  refine zBt 0 (.agg #[.string _, .int _ _, .int _ _, .int _ _, .int _ _]) [_,_,_,_,_] sizeOf44 j9 (fun kf ja => ?_)
  refine zAe (zAb (j7 _ _ (zAf (fun kg jb => (zAa (zA2 rfl rfl (zA2 rfl rfl (w_p (zAd (o := 3) (i := 2) underlying44 rfl sizeOf3 rfl rfl rfl) rfl (zBt 0 (.int _ _) [_] sizeOf3 ja (fun kh jc => ?_))))))))))
  refine w_p (zAd (o := 4) (i := 3) underlying44 rfl sizeOf3 rfl rfl rfl) rfl (zBt 0 (.int _ _) [_] sizeOf3 jc (fun ki gq => ?_))
  refine zAe (zAb (jb _ _ (zAf (fun kj jd => (zAa (w_p (zAd (o := 0) (i := 0) underlying26 rfl sizeOf22 rfl rfl rfl) rfl (w_p (zAi isAgg22 gq rfl rfl (aow 4 [_])) rfl ?_)))))))
  refine w_p (zAs (vs := [_,_,_,_,_]) isAgg44 sizeOf44 gq rfl rfl (aow 0 [_,_,_,_,_])) rfl (w_p (zA7 underlying22 sizeOf44 rfl rfl rfl rfl (i := 0) rfl (by omega)) rfl ?_)
  refine zD9 (i := 1) (v := .agg #[_,_,_,_,_]) (vs := [_,_,_,_,_]) zAc sizeOf44 rfl rfl rfl rfl rfl (by simp [Value.oneCell']) gq rfl (show 0 + 0 * 5 + 5 ≤ csA.length by omega) (fun km g8 => ?_)
  replace g8 := (show St _ _ (_ :: (bA, blk 44 (setMany csA (0 * 5) (onD D m.rooms[0]).cells)) :: _ :: _ :: _ :: Y ++ (F)) from (by have h6 := g8; simp only [Nat.zero_add] at h6; exact h6))
  refine zAe (zAb (jd _ _ (zAf (fun kn je => ?_))))
  have hput := put_first (D := D) hA4 rfl hrl
  have hcF : (firstM D m).cells (⟨some ⟨bA, 0, none⟩, capA, p.az, p.cs, p.at_, p.ct⟩ : Sh.At3) = [.slice (some ⟨bA, 0, none⟩) m.rooms.length capA, .slice p.az m.shops.length p.cs, .slice p.at_ m.trains.length p.ct] := by rw [Sh.Market.cells, zEq]; rfl
  obtain ⟨Z, hZ, hsZ⟩ := gen_Z g8
  have hb3 : Ats w0 Z b3 0 ((firstM D m).cells (⟨some ⟨bA, 0, none⟩, capA, p.az, p.cs, p.at_, p.ct⟩ : Sh.At3)) := by rw [hZ]; exact ats_ofN (i := 4) (vs := [.slice (some ⟨bA, 0, none⟩) m.rooms.length capA, .slice p.az m.shops.length p.cs, .slice p.at_ m.trains.length p.ct]) g8 rfl hcF rfl
  have hb4 : Ats w0 Z b6 0 (r.cells q) := by rw [hZ]; exact ats_ofN (i := 3) (vs := r.cells q) g8 rfl rfl rfl
  have hmF : Sb.MIn w0 Z (firstM D m) (⟨some ⟨bA, 0, none⟩, capA, p.az, p.cs, p.at_, p.ct⟩ : Sh.At3) := by rw [hZ]; exact min_first (i := 1) hm.app.cons.cons.cons.cons.cons rfl hput hA1
  have hmR : Ro.RIn w0 Z r q := by rw [hZ]; exact hm2.app.cons.cons.cons.cons.cons
  have hslZ : Sl w0 Z aY 1 (pq.l.map fun x => [Value.int .i64 x]) := by rw [hZ]; exact hslY.top.cons.cons.cons.cons.cons
  have hst : (firstM D m).trains.length = m.trains.length := rfl
  have hss : (firstM D m).shops.length = m.shops.length := rfl
  refine zAa (w_p (zAs (vs := [_,_,_]) isAgg26 sizeOf26 hsZ rfl rfl hb3) rfl (zA4 zAc call10 rfl rfl rfl rfl ((Sb.c10 (firstM D m) (⟨some ⟨bA, 0, none⟩, capA, p.az, p.cs, p.at_, p.ct⟩ : Sh.At3) hmF hsZ).mono (fun v w' h => (show ∃ B a c, v = .tuple #[.slice a (Sh.goesTo (firstM D m) m.trains.length).length c, .int .i64 0] ∧ Sl w0 B a 1 ((Sh.goesTo (firstM D m) m.trains.length).map fun x => [Value.int .i64 x]) ∧ St w0 w' (B ++ _) from by rw [hF.op] at h; exact h))) ?_))
  rintro _ ko ⟨GB, aG, cG, rfl, hslG, gb⟩
  replace gb := (show St _ _ (GB ++ (Z)) from gb)
  refine w_p (zA6 rfl rfl) rfl (w_p (zCm rfl rfl rfl) rfl (w_p (zAq rfl rfl rfl) rfl (w_p (zBh rfl rfl) rfl (zBg rfl rfl (zAe (zAb (je _ _ (zAf (fun kp jf => (zAa (w_p (zAs (vs := [_,_,_]) isAgg26 sizeOf26 gb.drop rfl rfl hb3) rfl ?_)))))))))))
  refine zA4 zAc call11 rfl rfl rfl rfl ((Sb.c11 (firstM D m) (⟨some ⟨bA, 0, none⟩, capA, p.az, p.cs, p.at_, p.ct⟩ : Sh.At3) hmF.app gb).mono (fun v w' h => (show ∃ B a c, v = .tuple #[.slice a (Sh.giveL (firstM D m)).length c, .int .i64 0] ∧ Sl w0 B a 1 ((Sh.giveL (firstM D m)).map fun x => [Value.int .i64 x]) ∧ St w0 w' (B ++ _) from by rw [hF.gp] at h; exact h))) ?_
  rintro _ kr ⟨GV, aV, cV, rfl, hslV, gc⟩
  replace gc := (show St _ _ (GV ++ (GB ++ (Z))) from gc)
  refine w_p (zA6 rfl rfl) rfl (w_p (zCm rfl rfl rfl) rfl (w_p (zAq rfl rfl rfl) rfl (w_p (zBh rfl rfl) rfl (zBg rfl rfl (zAe (zAb (jf _ _ (zAf (fun ku jg => (zAa (w_p (zAs (vs := [_,_,_,_,_,_,_]) isAgg33 sizeOf33 gc.drop.drop rfl rfl hb4) rfl ?_)))))))))))
  refine w_p (zAx rfl rfl) rfl (zCi zAc call12 rfl rfl rfl rfl ((Ro.c12 r q hmR.app.app hr hlb _ _ pq.l hslZ.app.app hpg.1 hpg.2.1 gc).mono (fun v w' h => (show v = .tuple #[.agg #[.int .i64 C, .int .i64 C], .int .i64 0] ∧ St w0 w' _ from by rw [hpg.2.2] at h; exact h))) (fun kw jh => ?_))
  refine w_p (zA6 rfl rfl) rfl (w_p (zBp (v := .agg _) rfl rfl rfl) rfl (w_p (zAq rfl rfl rfl) rfl (zA5 (cs := [_,_]) zAc zeroValue28 rfl jh (fun ji kx jj => ?_))))
  refine zBt 0 (.agg #[.int _ _, .int _ _]) [_,_] sizeOf28 jj (fun ky gD => ?_)
  refine zBg rfl rfl (zAe (zAb (jg _ _ (zAf (fun kz jk => (zAf (fun kA jl => (zAa (zA2 rfl rfl (w_p (zCj rfl rfl rfl rfl) rfl (w_p (zAn rfl rfl) rfl ?_)))))))))))
  refine w_y rfl rfl rfl (zAu rfl rfl) rfl ?_
  refine w_y rfl rfl rfl (zCj rfl rfl rfl rfl) rfl ?_
  refine w_p (zBb (v := .bool _) rfl rfl rfl rfl) rfl (w_p (zAn rfl rfl) rfl (w_y rfl rfl rfl (zAu rfl rfl) rfl (w_y rfl rfl rfl (zCj rfl rfl rfl rfl) rfl (w_p (zBb (v := .bool _) rfl rfl rfl rfl) rfl (w_p (zAn rfl rfl) rfl ?_)))))
  refine w_y rfl rfl rfl (zAx rfl rfl) rfl ?_
  refine w_y rfl rfl rfl (zAd (o := 2) (i := 2) underlying26 rfl sizeOf24 rfl rfl rfl) rfl ?_
  refine w_y rfl rfl rfl (zAi isAgg24 gD.tail.drop.drop rfl rfl (show Ats _ _ _ _ [_] from Ats.part hb3 2 1)) rfl ?_
  refine w_y rfl rfl rfl (zBd underlying24 rfl rfl) rfl ?_
  refine zA4 (zAm rfl rfl rfl) call13 rfl rfl rfl rfl ((zD2 (c13 _ _ (Sh.goesTo (firstM D m) m.trains.length) (by have := Sh.goesTo_len (firstM D m) m.trains.length; omega) (hslG.mono fun _ h => h.tail.drop.front) _ gD) hF.ri)) ?_
  rintro _ kB ⟨rfl, gE⟩
  refine w_y rfl rfl rfl (zC0 rfl rfl) rfl ?_
  refine w_p (zBb (v := .bool _) rfl rfl rfl rfl) rfl (w_p (zAn rfl rfl) rfl (w_y rfl rfl rfl (zAx rfl rfl) rfl (w_y rfl rfl rfl (zBd underlying30 rfl rfl) rfl (w_y rfl rfl rfl (zAd (o := 2) (i := 2) underlying26 rfl sizeOf24 rfl rfl rfl) rfl ?_))))
  refine w_y rfl rfl rfl (zAi isAgg24 gE.tail.drop.drop rfl rfl (show Ats _ _ _ _ [_] from Ats.part hb3 2 1)) rfl ?_
  refine w_y rfl rfl rfl (zBd underlying24 rfl rfl) rfl ?_
  refine w_y rfl rfl rfl (zCj rfl rfl rfl rfl) rfl ?_
  refine w_p (zBb (v := .bool _) rfl rfl rfl rfl) rfl (zAe (zAb (jl _ _ (zAv rfl rfl (fun gr => ?_) (fun gr => ?_)))))
  ·
   exfalso
   try simp only [zS] at gr
   omega
  try simp only [zS] at gr
  refine zAr (zAb (jk _ _ (zAf (fun kC jm => (zAf (fun kD jo => (zAa (zA9 rfl rfl (zAe (zAb (jo _ _ (zAw ?_))))))))))))
  refine zB2 [6,26,27,157,158,159,160,161,162,163,164,165,166,167,168,169,170,171,172,173,174,175,176,177,178,179,180,181,182,183,184,185,186,187,188,189,190,191,192,193,194,195,196,197,198,199,200,201,202,203,204,205] [26] (fun kk vs w => ∃ k : Nat, vs = [.int .i64 (k : Int)] ∧ k ≤ m.trains.length ∧ kk = m.trains.length - k ∧ St w0 w ((ji, blk 28 [.int .i64 C, .int .i64 C]) :: (GV ++ (GB ++ Z)))) (m.trains.length) ?_ ?_
  ·
   exact ⟨0, rfl, by omega, rfl, gE⟩
  intro k vs μ kE hI kF gd
  clear hs
  obtain ⟨k, rfl, hka, rfl, hs⟩ := hI
  refine zAf (fun kG jp => (zAf (fun kH jq => (zAa (zA2 rfl rfl (w_p (zAd (o := 2) (i := 2) underlying26 rfl sizeOf24 rfl rfl rfl) rfl (w_p (zAi isAgg24 hs.tail.drop.drop rfl rfl (show Ats _ _ _ _ [_] from Ats.part hb3 2 1)) rfl ?_)))))))
  refine w_p (zBd underlying24 rfl rfl) rfl (w_p (zCb rfl rfl rfl rfl) rfl (zAe (zAb (jq _ _ (zAv rfl rfl (fun gt => ?_) (fun gt => ?_))))))
  ·
   try simp only [zS] at gt
   refine zAr (zAb (jp _ _ (zAf (fun kI ge => (zAw ?_)))))
   refine zAf (fun kJ jr => ?_)
   have hk2 : k < m.trains.length := by omega
   obtain ⟨bt, ot, hbt, hxt⟩ := Sb.sl_trows hmF.t hk2
   replace hxt : Ats w0 Z bt (ot + k * 4) (m.trains[k]'hk2).cells := hxt
   have htr := hokm.train _ (List.getElem_mem hk2)
   have hsh : (m.trains[k]'hk2).shop.toNat < m.shops.length := by omega
   obtain ⟨bz, oz, hbz, hxz⟩ := Sb.sl_srows hmF.s hsh
   replace hxz : Ats w0 Z bz (oz + (m.trains[k]'hk2).shop.toNat * 3) (m.shops[(m.trains[k]'hk2).shop.toNat]'hsh).cells := hxz
   have hsp := hokm.shop _ (List.getElem_mem hsh)
   have hkg : k < (Sh.giveL (firstM D m)).length := by omega
   obtain ⟨bg, og, hbg, hxg⟩ := zCy (hslV.mono (L' := GV ++ (GB ++ Z)) fun _ h => h.front) hkg
   have hgk : (Sh.giveL (firstM D m)).getD k 0 = (Sh.giveL (firstM D m))[k] := by simp [List.getD, hkg]
   have hgv := hF.gv k hk2 hsh
   refine zCc [] [(0,0),(1,1),(2,0),(3,1),(4,0),(5,0),(6,0),(7,1),(8,0),(9,0),(10,1),(11,0),(12,1),(13,0),(14,0),(15,0),(16,1),(17,0),(18,0)] zB7 (zBs (by kernel_rfl)) hs (fun kK g3 => ?_)
   refine d_w rfl (fun _ => zAd (o := 1) (i := 1) underlying26 rfl sizeOf23 rfl rfl rfl) rfl ?_
   refine zA3 rfl zAc rfl g3 (fun _ hq => (zCq hbz (zAi isAgg23 hq.tail.drop.drop rfl rfl (show Ats _ _ _ _ [_] from Ats.part hb3 1 1)))) ?_
   refine d_w rfl (fun _ => zAd (o := 2) (i := 2) underlying26 rfl sizeOf24 rfl rfl rfl) rfl ?_
   refine zA3 rfl zAc rfl g3 (fun _ hq => (zCq hbt (zAi isAgg24 hq.tail.drop.drop rfl rfl (show Ats _ _ _ _ [_] from Ats.part hb3 2 1)))) ?_
   refine d_w rfl (fun _ => zAu rfl rfl) rfl (d_w rfl (fun _ => zA7 underlying24 sizeOf53 rfl rfl rfl rfl (i := k) rfl hk2) rfl (d_w rfl (fun _ => zAd (o := 1) (i := 1) underlying53 rfl sizeOf3 rfl rfl rfl) rfl ?_))
   refine zA3 rfl zAc rfl g3 (fun _ hq => (zAi isAgg3 hq.tail.drop.drop rfl rfl (show Ats _ _ _ _ [_] from Ats.part hxt 1 1))) ?_
   refine d_w rfl (fun _ => zA7 underlying23 sizeOf51 rfl rfl rfl rfl (i := (m.trains[k]'hk2).shop.toNat) (by omega) (by omega)) rfl (d_w rfl (fun _ => zAd (o := 1) (i := 1) underlying51 rfl sizeOf3 rfl rfl rfl) rfl ?_)
   refine zA3 rfl zAc rfl g3 (fun _ hq => (zAi isAgg3 hq.tail.drop.drop rfl rfl (show Ats _ _ _ _ [_] from Ats.part hxz 1 1))) ?_
   refine d_w rfl (fun _ => zAd (o := 2) (i := 2) underlying26 rfl sizeOf24 rfl rfl rfl) rfl ?_
   refine zA3 rfl zAc rfl g3 (fun _ hq => (zCq hbt (zAi isAgg24 hq.tail.drop.drop rfl rfl (show Ats _ _ _ _ [_] from Ats.part hb3 2 1)))) ?_
   refine d_w rfl (fun _ => zAu rfl rfl) rfl (d_w rfl (fun _ => zA7 underlying24 sizeOf53 rfl rfl rfl rfl (i := k) rfl hk2) rfl (d_w rfl (fun _ => zAd (o := 2) (i := 2) underlying53 rfl sizeOf3 rfl rfl rfl) rfl ?_))
   refine zA3 rfl zAc rfl g3 (fun _ hq => (zAi isAgg3 hq.tail.drop.drop rfl rfl (show Ats _ _ _ _ [_] from Ats.part hxt 2 1))) ?_
   refine d_w rfl (fun _ => zDk rfl rfl rfl rfl (by omega) (by omega)) rfl (d_w rfl (fun _ => zC3 rfl rfl) rfl ?_)
   refine zB5 ?_
   refine zAb (jr _ _ (zAf (fun kL gf => (zAa (w_p (zAd (o := 2) (i := 2) underlying26 rfl sizeOf24 rfl rfl rfl) rfl (w_p (zAi isAgg24 g3.tail.drop.drop rfl rfl (show Ats _ _ _ _ [_] from Ats.part hb3 2 1)) rfl (zA2 rfl rfl (w_p (zA7 underlying24 sizeOf53 rfl rfl (congrArg (fun a => Value.slice a _ _) hbt) rfl (i := k) rfl hk2) rfl ?_))))))))
   refine w_p (zAd (o := 0) (i := 0) underlying53 rfl sizeOf3 rfl rfl rfl) rfl (w_p (zAi isAgg3 g3.tail.drop.drop rfl rfl (show Ats _ _ _ _ [_] from Ats.part hxt 0 1)) rfl (w_p (zCk rfl rfl rfl rfl) rfl (w_p (zAn rfl rfl) rfl (zBk (fun gu => ?_) (fun gu => ?_)))))
   ·
    try simp only [zS] at gu
    refine w_y rfl rfl rfl (zAx rfl rfl) rfl ?_
    refine w_y rfl rfl rfl (zAu rfl rfl) rfl ?_
    refine w_y rfl rfl rfl (zA7 underlying30 sizeOf3 rfl rfl (congrArg (fun a => Value.slice a _ _) hbg) rfl (i := k) rfl hkg) rfl ?_
    refine w_y rfl rfl rfl (zAi isAgg3 g3.tail rfl rfl hxg) rfl ?_
    refine w_y rfl rfl rfl (zD5 rfl rfl rfl rfl) rfl ?_
    refine w_y rfl rfl rfl (zAn rfl rfl) rfl ?_
    refine zBk (fun gw => ?_) (fun gw => ?_)
    ·
     try simp only [zS] at gw
     refine zAg rfl rfl rfl ?_
     refine zAg rfl rfl rfl ?_
     refine zAg rfl rfl rfl ?_
     refine w_y rfl rfl rfl (zAt (v := _) rfl rfl rfl rfl) rfl ?_
     refine w_p (zAt (v := .bool _) rfl rfl rfl rfl) rfl (w_p (zAn rfl rfl) rfl (w_y rfl rfl rfl (zAu rfl rfl) rfl (w_y rfl rfl rfl (zAu rfl rfl) rfl (w_y rfl rfl rfl (zCj rfl rfl rfl rfl) rfl (w_p (zAt (v := .bool _) rfl rfl rfl rfl) rfl ?_)))))
     refine zAe (zAb (gf _ _ (zAv rfl rfl (fun gg => ?_) (fun gg => ?_))))
     ·
      exfalso
      try simp only [zS] at gg
      exact gg (hgv (by omega) (by first | exact .inl (by omega) | exact .inr (by assumption)))
     try simp only [zS] at gg
     refine zAr (zAk (zAb (ge _ _ (zAa (zA2 rfl rfl (w_p (zBe rfl rfl rfl rfl (by omega) (by omega)) rfl (zBg rfl rfl (zAe (zAb (gd _ _ (nxI (m.trains.length - (k + 1)) (by omega) ?_)))))))))))
     exact ⟨k + 1, rfl, by omega, rfl, g3⟩
    try simp only [zS] at gw
    refine w_y rfl rfl rfl (zAx rfl rfl) rfl ?_
    refine w_y rfl rfl rfl (zAu rfl rfl) rfl ?_
    refine zA4 (zAm rfl rfl rfl) call14 rfl rfl rfl rfl (c14 _ _ (Sh.goesTo (firstM D m) m.trains.length) (by have := Sh.goesTo_len (firstM D m) m.trains.length; omega) (hslG.mono fun _ h => h.tail.drop.front) _ g3) ?_
    rintro _ kM ⟨rfl, gF⟩
    refine w_y rfl rfl rfl (zBb (v := .bool _) rfl rfl rfl rfl) rfl ?_
    refine w_p (zAt (v := .bool _) rfl rfl rfl rfl) rfl (w_p (zAn rfl rfl) rfl (zBk (fun gx => ?_) (fun gx => ?_)))
    ·
     try simp only [zS] at gx
     refine w_y rfl rfl rfl (zAu rfl rfl) rfl ?_
     refine w_y rfl rfl rfl (zAu rfl rfl) rfl ?_
     refine w_y rfl rfl rfl (zCj rfl rfl rfl rfl) rfl ?_
     refine w_p (zAt (v := .bool _) rfl rfl rfl rfl) rfl (zAe (zAb (gf _ _ (zAv rfl rfl (fun gh => ?_) (fun gh => ?_)))))
     ·
      exfalso
      try simp only [zS] at gh
      exact gh (hgv (by omega) (by first | exact .inl (by omega) | exact .inr (by assumption)))
     try simp only [zS] at gh
     refine zAr (zAk (zAb (ge _ _ (zAa (zA2 rfl rfl (w_p (zBe rfl rfl rfl rfl (by omega) (by omega)) rfl (zBg rfl rfl (zAe (zAb (gd _ _ (nxI (m.trains.length - (k + 1)) (by omega) ?_)))))))))))
     exact ⟨k + 1, rfl, by omega, rfl, gF⟩
    try simp only [zS] at gx
    refine zAg rfl rfl rfl ?_
    refine zAg rfl rfl rfl ?_
    refine zAg rfl rfl rfl ?_
    refine w_p (zBb (v := _) rfl rfl rfl rfl) rfl (zAe (zAb (gf _ _ (zBj rfl rfl ?_))))
    refine zAr (zAk (zAb (ge _ _ (zAa (zA2 rfl rfl (w_p (zBe rfl rfl rfl rfl (by omega) (by omega)) rfl (zBg rfl rfl (zAe (zAb (gd _ _ (nxI (m.trains.length - (k + 1)) (by omega) ?_)))))))))))
    exact ⟨k + 1, rfl, by omega, rfl, gF⟩
   try simp only [zS] at gu
   refine zAg rfl rfl rfl ?_
   refine zAg rfl rfl rfl ?_
   refine zAg rfl rfl rfl ?_
   refine zAg rfl rfl rfl ?_
   refine zAg rfl rfl rfl ?_
   refine zAg rfl rfl rfl ?_
   refine zBa rfl rfl rfl ?_
   refine zBa rfl rfl rfl ?_
   refine zBa rfl rfl rfl ?_
   refine zAg rfl rfl rfl ?_
   refine w_p (zBb (v := _) rfl rfl rfl rfl) rfl (w_p (zAn rfl rfl) rfl (zAg rfl rfl rfl ?_))
   refine zAg rfl rfl rfl ?_
   refine zAg rfl rfl rfl ?_
   refine w_p (zBb (v := _) rfl rfl rfl rfl) rfl (zAe (zAb (gf _ _ (zBj rfl rfl ?_))))
   refine zAr (zAk (zAb (ge _ _ (zAa (zA2 rfl rfl (w_p (zBe rfl rfl rfl rfl (by omega) (by omega)) rfl (zBg rfl rfl (zAe (zAb (gd _ _ (nxI (m.trains.length - (k + 1)) (by omega) ?_)))))))))))
   exact ⟨k + 1, rfl, by omega, rfl, g3⟩
  try simp only [zS] at gt
  refine zBr (zAj (zAj (zAy (zAb (jm _ _ (zAf (fun kN js => (zAa (w_p (zAs (vs := [_,_]) isAgg28 sizeOf28 hs rfl rfl (aow 0 [_,_])) rfl ?_)))))))))
  refine zA2 rfl rfl (zA2 rfl rfl (w_p (zCh (ps := [(0, _),(1, _)]) (pv := [(0, .int _ _),(1, .int _ _)]) rfl rfl (fun w => Try_TB_fb2 _ _ w)) rfl (w_p (zEs (l := [_,_]) (m := [_,_]) eqGuardType28 zDg (by first | omega | rfl | (simp only [zL] <;> omega)) (by first | omega | rfl | (simp only [zL] <;> omega)) rfl rfl rfl rfl rfl rfl) rfl ?_)))
  refine w_p (zAn rfl rfl) rfl (zBk (fun gy => ?_) (fun gy => ?_))
  ·
   try simp only [zS] at gy
   refine zA4 (zAm rfl rfl rfl) call7 rfl rfl rfl rfl (Ro.c7 hs) ?_
   rintro _ kO ⟨rfl, jt⟩
   refine w_p (zAt (v := .bool _) rfl rfl rfl rfl) rfl (w_p (zAn rfl rfl) rfl (zA4 (zAm rfl rfl rfl) call8 rfl rfl rfl rfl (Sb.c8 jt) ?_))
   rintro _ kP ⟨rfl, ju⟩
   refine w_p (zAt (v := .bool _) rfl rfl rfl rfl) rfl (w_p (zAl rfl rfl) rfl (zAe (zAb (js _ _ (zA0 (zA1 (l := [.tmp 6]) (vs := [_]) rfl ⟨⟨rfl, (rfl : _ = Value.bool _)⟩, trivial⟩ ?_))))))
   exact ⟨rfl, (St.cast hZ ju.tail.drop.drop).tail.tail.tail.tail.tail.drop⟩
  exfalso; simp at gy

end Go.Proofs.Tn
/- Arguments of TopNumber, opened. No conditions. -/
set_option maxRecDepth 100000
namespace Go.Proofs.YtfodoljacfiehaaGreat
open Go.Proofs.Tryz
open Go.Rt Go.RowKit Go.ChangeShapes Go.WideShapes Go.ChangeAt
instance : Inhabited Rt.Ro.Sett := ⟨⟨ByteArray.empty, 0,0⟩⟩
theorem Tryz.own : ownKnob Tryz.prog.godebug = none := by kernel_rfl
theorem Tryz.laidOut : laidOutB Tryz.prog = true := by kernel_rfl
theorem cells3 : Tryz.prog.cellsOf 3 = 1 := by kernel_rfl
theorem cells5 : Tryz.prog.cellsOf 5 = 1 := by kernel_rfl
theorem cells9 : Tryz.prog.cellsOf 9 = 1 := by kernel_rfl
theorem cells28 : Tryz.prog.cellsOf 28 = 2 := by kernel_rfl
theorem cells29 : Tryz.prog.cellsOf 29 = 1 := by kernel_rfl
theorem cells30 : Tryz.prog.cellsOf 30 = 1 := by kernel_rfl
theorem cells31 : Tryz.prog.cellsOf 31 = 1 := by kernel_rfl
theorem cells33 : Tryz.prog.cellsOf 33 = 7 := by kernel_rfl
theorem cells61 : Tryz.prog.cellsOf 61 = 3 := by kernel_rfl
theorem cells64 : Tryz.prog.cellsOf 64 = 2 := by kernel_rfl
variable {H : Type} {enc : TypeId × Value → H} {W : World} {sp : Nat → Bool} {held : Bool}
theorem u8_wf {n : Int} (h : (Lit.int .u8 n).wf = true) : 0 ≤ n ∧ n ≤ 255 := by
  simp only [Lit.wf, Bool.and_eq_true, decide_eq_true_eq] at h
  exact h
theorem zGo {fuel : Nat} {cs : List Value} {x : DataW H × List MemPlace} (h : DataW.trod enc Tryz.prog W 0 sp held fuel 28 cs = some x) : ∃ a b : Int, cs = [.int .i64 a, .int .i64 b] := by
  have hl := zE9 underlying28 h
  rw [cells28] at hl
  obtain ⟨n, y, h0⟩ := zBw underlying28 h 0 3 0 1 rfl rfl rfl cells3
  obtain ⟨n1, y1, h1⟩ := zBw underlying28 h 1 3 1 1 rfl rfl rfl cells3
  match cs, hl with
  | [c0, c1], _ =>
    obtain ⟨a, e0⟩ := zC5 underlying3 h0
    obtain ⟨b, e1⟩ := zC5 underlying3 h1
    simp at e0 e1
    exact ⟨a, b, by rw [e0, e1]⟩
theorem open_sett (fuel : Nat) (cs : List Value) (y : DataW H × List MemPlace) (h : DataW.trod enc Tryz.prog W 0 sp held fuel 61 cs = some y) : ∃ f : Rt.Ro.Sett, cs = f.cells ∧ f.name.size ≤ 9223372036854775807 := by
  have hl := zE9 underlying61 h
  rw [cells61] at hl
  obtain ⟨_, _, h0⟩ := zBw underlying61 h 0 9 0 1 rfl rfl rfl cells9
  obtain ⟨_, _, h1⟩ := zBw underlying61 h 1 28 1 2 rfl rfl rfl cells28
  match cs, hl with
  | [c0, c1, c2], _ =>
    obtain ⟨s, e0, _, hs⟩ := DataW.trod_string underlying9 h0
    obtain ⟨x1, x2, e1⟩ := zGo h1
    simp at e0 e1
    exact ⟨⟨s, x1, x2⟩, by rw [e0, e1.1, e1.2]; rfl, by simpa [maxLen] using hs⟩
theorem open_num (fuel : Nat) (cs : List Value) (y : DataW H × List MemPlace) (h : DataW.trod enc Tryz.prog W 0 sp held fuel 3 cs = some y) : ∃ x : Int, cs = [Value.int .i64 x] ∧ True := by
  obtain ⟨a, e0⟩ := zC5 underlying3 h
  exact ⟨a, e0, trivial⟩
theorem open_rlook (fuel : Nat) (cs : List Value) (y : DataW H × List MemPlace) (h : DataW.trod enc Tryz.prog W 0 sp held fuel 64 cs = some y) : ∃ f : Int × Int, cs = Rt.Ro.lcells f ∧ True := by
  have hl := zE9 underlying64 h
  rw [cells64] at hl
  obtain ⟨_, _, h0⟩ := zBw underlying64 h 0 3 0 1 rfl rfl rfl cells3
  obtain ⟨_, _, h1⟩ := zBw underlying64 h 1 3 1 1 rfl rfl rfl cells3
  match cs, hl with
  | [c0, c1], _ =>
    obtain ⟨a, e0⟩ := zC5 underlying3 h0
    obtain ⟨b, e1⟩ := zC5 underlying3 h1
    simp at e0 e1
    exact ⟨(a, b), by rw [e0, e1]; rfl, trivial⟩
theorem open_rroom {v : Value} {d : DataW H} {ps : List MemPlace} {r : Reach} {b0 : Nat} (hval : Value.okWide Tryz.prog W r b0 33 v) (h : DataW.Trod enc Tryz.prog W 0 sp held 33 v d ps) :
    ∃ (m : Rt.Ro.Room) (p : Rt.Ro.AtR), v = .agg (m.cells p).toArray ∧ Go.Proofs.Ro.RIn W [] m p := by
  obtain ⟨xs, rfl, hsz⟩ : ∃ xs, v = .agg xs ∧ xs.size = 7 := by
    unfold Value.okWide at hval
    rw [underlying33] at hval
    obtain ⟨cs, h1, h2, _⟩ := hval
    exact ⟨cs, h1, by rw [h2, cells33]⟩
  obtain ⟨fuel, hf⟩ := h
  have hf2 : DataW.trod enc Tryz.prog W 0 sp held fuel 33 xs.toList = some (d, ps) := hf
  obtain ⟨_, _, h0⟩ := zBw underlying33 hf2 0 3 0 1 rfl rfl rfl cells3
  obtain ⟨_, _, h1⟩ := zBw underlying33 hf2 1 28 1 2 rfl rfl rfl cells28
  obtain ⟨_, _, h2⟩ := zBw underlying33 hf2 2 29 3 1 rfl rfl rfl cells29
  obtain ⟨_, _, h3⟩ := zBw underlying33 hf2 3 3 4 1 rfl rfl rfl cells3
  obtain ⟨_, _, h4⟩ := zBw underlying33 hf2 4 30 5 1 rfl rfl rfl cells30
  obtain ⟨_, _, h5⟩ := zBw underlying33 hf2 5 31 6 1 rfl rfl rfl cells31
  obtain ⟨xl, rfl⟩ : ∃ l : List Value, xs = l.toArray := ⟨xs.toList, by simp⟩
  have hl3 : xl.length = 7 := by simpa using hsz
  match xl, hl3 with
  | [c0, c1, c2, c3, c4, c5, c6], _ =>
    obtain ⟨z, e0⟩ := zC5 underlying3 h0
    obtain ⟨x1, x2, e1⟩ := zGo h1
    obtain ⟨a, ca, la, e2, hsa, hca, hma, hna⟩ := zEy (row := Rt.Ro.Sett.cells) (ok := fun f => f.name.size ≤ 9223372036854775807) underlying29 cells61 (by omega) (fun _ => rfl) open_sett h2
    obtain ⟨o, e3⟩ := zC5 underlying3 h3
    obtain ⟨b, cb, lb, e4, hsb, hcb, hmb, hnb⟩ := zEy (row := fun x : Int => [Value.int .i64 x]) (ok := fun _ => True) underlying30 cells3 (by omega) (fun _ => rfl) open_num h4
    obtain ⟨c, cc, lc, e5, hsc, hcc, hmc, hnc⟩ := zEy (row := Rt.Ro.lcells) (ok := fun _ => True) underlying31 cells64 (by omega) (fun _ => rfl) open_rlook h5
    simp at e0 e1 e2 e3 e4 e5
    exact ⟨⟨z, x1, x2, la, o, lb, lc⟩, ⟨a, ca, b, cb, c, cc⟩, by rw [e0, e1.1, e1.2, e2, e3, e4, e5]; rfl, ⟨hsa, hsb, hsc, ⟨hma, hca⟩, hmb, hmc, hna⟩⟩
theorem slice_nil {fuel : Nat} {t el : TypeId} {a : Option Addr} {n c : Nat} {y : DataW H × List MemPlace} (ht : Tryz.prog.underlying t = some (.slice el)) (h : DataW.trod enc Tryz.prog W 0 sp held fuel t [.slice a n c] = some y) : a = none → c = 0 := by
  rcases DataW.trod_slice ht h with ⟨hcs, _⟩ | ⟨a', len, cap, elems, rest, m, _, hcs, _⟩
  · have e : Value.slice a n c = .slice none 0 0 := (List.cons.inj hcs).1
    injection e with e1 e2 e3
    exact fun _ => e3
  · have e : Value.slice a n c = .slice (some a') len cap := (List.cons.inj hcs).1
    injection e with e1 e2 e3
    exact fun h => (by rw [h] at e1; cases e1)
theorem cel5 {fuel : Nat} {cs : List Value} {y : DataW H × List MemPlace} (h : DataW.trod enc Tryz.prog W 0 sp held fuel 5 cs = some y) : ∃ (x0 : Int), cs = [.int .u8 x0] ∧ (0 ≤ x0 ∧ x0 ≤ 255) := by
  obtain ⟨n, e, _, hw⟩ := DataW.trod_int underlying5 h
  exact ⟨n, e, u8_wf hw⟩
theorem cells34 : Tryz.prog.cellsOf 34 = 2 := by kernel_rfl
theorem cel34 {fuel : Nat} {cs : List Value} {y : DataW H × List MemPlace} (h : DataW.trod enc Tryz.prog W 0 sp held fuel 34 cs = some y) : ∃ (x0 : Int) (x1 : Int), cs = [.int .u8 x0, .int .u8 x1] ∧ (0 ≤ x0 ∧ x0 ≤ 255) ∧ (0 ≤ x1 ∧ x1 ≤ 255) := by
  obtain ⟨ys, m, _,_, hl, hll, he⟩ := DataW.trod_array underlying34 h
  rw [cells34] at hl
  rw [cells5] at he
  have h0 := he 0 (by omega)
  rw [List.getElem?_eq_getElem (by omega)] at h0
  have h1 := he 1 (by omega)
  rw [List.getElem?_eq_getElem (by omega)] at h1
  match cs, hl with
  | [c0, c1], _ =>
    obtain ⟨x0, e0, f0_0⟩ := cel5 h0
    obtain ⟨x1, e1, f1_0⟩ := cel5 h1
    simp at e0 e1
    exact ⟨x0, x1, by simp [e0, e1], f0_0, f1_0⟩
theorem opn34 {v : Value} {d : DataW H} {ps : List MemPlace} {r : Reach} {b0 : Nat} (hval : Value.okWide Tryz.prog W r b0 34 v) (h : DataW.Trod enc Tryz.prog W 0 sp held 34 v d ps) : ∃ (x0 : Int) (x1 : Int), v = .agg #[.int .u8 x0, .int .u8 x1] ∧ (0 ≤ x0 ∧ x0 ≤ 255) ∧ (0 ≤ x1 ∧ x1 ≤ 255) := by
  obtain ⟨xs, rfl, hsz⟩ : ∃ xs, v = .agg xs ∧ xs.size = 2 := by
    unfold Value.okWide at hval
    rw [underlying34] at hval
    obtain ⟨cs, h1, h2, _⟩ := hval
    exact ⟨cs, h1, by rw [h2, cells34]⟩
  obtain ⟨fuel, hf⟩ := h
  have hf2 : DataW.trod enc Tryz.prog W 0 sp held fuel 34 xs.toList = some (d, ps) := hf
  obtain ⟨xl, rfl⟩ : ∃ l : List Value, xs = l.toArray := ⟨xs.toList, by simp⟩
  obtain ⟨x0, x1, e, hr⟩ := cel34 hf2
  exact ⟨x0, x1, by rw [show xl = _ from e], hr⟩
end Go.Proofs.YtfodoljacfiehaaGreat

namespace Go.Proofs.YtfodoljacfiehaaGreat.Lm
open Go.Proofs.Tryz
open Go.Rt Go.Rt.Sh Go.Proofs.Sb Go.RowKit Go.ChangeShapes Go.WideShapes Go.ChangeAt
instance : Inhabited Room := ⟨⟨ByteArray.empty, 0,0,0,0⟩⟩
instance : Inhabited Shop := ⟨⟨ByteArray.empty, 0,0⟩⟩
instance : Inhabited Train := ⟨⟨0,0,0,0⟩⟩
theorem cells44 : Tryz.prog.cellsOf 44 = 5 := by kernel_rfl
theorem cells51 : Tryz.prog.cellsOf 51 = 3 := by kernel_rfl
theorem cells53 : Tryz.prog.cellsOf 53 = 4 := by kernel_rfl
theorem cells28 : Tryz.prog.cellsOf 28 = 2 := by kernel_rfl
theorem cells26 : Tryz.prog.cellsOf 26 = 3 := by kernel_rfl
theorem cells22 : Tryz.prog.cellsOf 22 = 1 := by kernel_rfl
theorem cells23 : Tryz.prog.cellsOf 23 = 1 := by kernel_rfl
theorem cells24 : Tryz.prog.cellsOf 24 = 1 := by kernel_rfl
theorem cells3 : Tryz.prog.cellsOf 3 = 1 := by kernel_rfl
theorem cells9 : Tryz.prog.cellsOf 9 = 1 := by kernel_rfl
variable {H : Type} {enc : TypeId × Value → H} {W : World} {sp : Nat → Bool} {held : Bool}
theorem zGo {fuel : Nat} {cs : List Value} {x : DataW H × List MemPlace} (h : DataW.trod enc Tryz.prog W 0 sp held fuel 28 cs = some x) : ∃ a b : Int, cs = [.int .i64 a, .int .i64 b] := by
  have hl := zE9 underlying28 h
  rw [cells28] at hl
  obtain ⟨n, y, h0⟩ := zBw underlying28 h 0 3 0 1 rfl rfl rfl cells3
  obtain ⟨n1, y1, h1⟩ := zBw underlying28 h 1 3 1 1 rfl rfl rfl cells3
  match cs, hl with
  | [c0, c1], _ =>
    obtain ⟨a, e0⟩ := zC5 underlying3 h0
    obtain ⟨b, e1⟩ := zC5 underlying3 h1
    simp at e0 e1
    exact ⟨a, b, by rw [e0, e1]⟩
theorem open_room (fuel : Nat) (cs : List Value) (y : DataW H × List MemPlace) (h : DataW.trod enc Tryz.prog W 0 sp held fuel 44 cs = some y) : ∃ f : Room, cs = f.cells ∧ f.name.size ≤ 9223372036854775807 := by
  have hl := zE9 underlying44 h
  rw [cells44] at hl
  obtain ⟨_, _, h0⟩ := zBw underlying44 h 0 9 0 1 rfl rfl rfl cells9
  obtain ⟨_, _, h1⟩ := zBw underlying44 h 1 28 1 2 rfl rfl rfl cells28
  obtain ⟨_, _, h2⟩ := zBw underlying44 h 2 3 3 1 rfl rfl rfl cells3
  obtain ⟨_, _, h3⟩ := zBw underlying44 h 3 3 4 1 rfl rfl rfl cells3
  match cs, hl with
  | [c0, c1, c2, c3, c4], _ =>
    obtain ⟨s, e0, _, hs⟩ := DataW.trod_string underlying9 h0
    obtain ⟨x1, x2, e1⟩ := zGo h1
    obtain ⟨x3, e3⟩ := zC5 underlying3 h2
    obtain ⟨x4, e4⟩ := zC5 underlying3 h3
    simp at e0 e1 e3 e4
    exact ⟨⟨s, x1, x2, x3, x4⟩, by rw [e0, e1.1, e1.2, e3, e4]; rfl, by simpa [maxLen] using hs⟩
theorem open_shop (fuel : Nat) (cs : List Value) (y : DataW H × List MemPlace) (h : DataW.trod enc Tryz.prog W 0 sp held fuel 51 cs = some y) : ∃ f : Shop, cs = f.cells ∧ f.name.size ≤ 9223372036854775807 := by
  have hl := zE9 underlying51 h
  rw [cells51] at hl
  obtain ⟨_, _, h0⟩ := zBw underlying51 h 0 9 0 1 rfl rfl rfl cells9
  obtain ⟨_, _, h1⟩ := zBw underlying51 h 1 3 1 1 rfl rfl rfl cells3
  obtain ⟨_, _, h2⟩ := zBw underlying51 h 2 3 2 1 rfl rfl rfl cells3
  match cs, hl with
  | [c0, c1, c2], _ =>
    obtain ⟨s, e0, _, hs⟩ := DataW.trod_string underlying9 h0
    obtain ⟨x1, e1⟩ := zC5 underlying3 h1
    obtain ⟨x2, e2⟩ := zC5 underlying3 h2
    simp at e0 e1 e2
    exact ⟨⟨s, x1, x2⟩, by rw [e0, e1, e2]; rfl, by simpa [maxLen] using hs⟩
theorem open_train (fuel : Nat) (cs : List Value) (y : DataW H × List MemPlace) (h : DataW.trod enc Tryz.prog W 0 sp held fuel 53 cs = some y) : ∃ f : Train, cs = f.cells ∧ True := by
  have hl := zE9 underlying53 h
  rw [cells53] at hl
  obtain ⟨_, _, h0⟩ := zBw underlying53 h 0 3 0 1 rfl rfl rfl cells3
  obtain ⟨_, _, h1⟩ := zBw underlying53 h 1 3 1 1 rfl rfl rfl cells3
  obtain ⟨_, _, h2⟩ := zBw underlying53 h 2 3 2 1 rfl rfl rfl cells3
  obtain ⟨_, _, h3⟩ := zBw underlying53 h 3 3 3 1 rfl rfl rfl cells3
  match cs, hl with
  | [c0, c1, c2, c3], _ =>
    obtain ⟨x0, e0⟩ := zC5 underlying3 h0
    obtain ⟨x1, e1⟩ := zC5 underlying3 h1
    obtain ⟨x2, e2⟩ := zC5 underlying3 h2
    obtain ⟨x3, e3⟩ := zC5 underlying3 h3
    simp at e0 e1 e2 e3
    exact ⟨⟨x0, x1, x2, x3⟩, by rw [e0, e1, e2, e3]; rfl, trivial⟩
theorem open_market {v : Value} {d : DataW H} {ps : List MemPlace} {r : Reach} {b0 : Nat} (hval : Value.okWide Tryz.prog W r b0 26 v) (h : DataW.Trod enc Tryz.prog W 0 sp held 26 v d ps) :
    ∃ (m : Market) (p : At3), v = .agg (m.cells p).toArray ∧ MIn W [] m p := by
  obtain ⟨xs, rfl, hsz⟩ : ∃ xs, v = .agg xs ∧ xs.size = 3 := by
    unfold Value.okWide at hval
    rw [underlying26] at hval
    obtain ⟨cs, h1, h2, _⟩ := hval
    exact ⟨cs, h1, by rw [h2, cells26]⟩
  obtain ⟨fuel, hf⟩ := h
  have hf2 : DataW.trod enc Tryz.prog W 0 sp held fuel 26 xs.toList = some (d, ps) := hf
  obtain ⟨_, _, h0⟩ := zBw underlying26 hf2 0 22 0 1 rfl rfl rfl cells22
  obtain ⟨_, _, h1⟩ := zBw underlying26 hf2 1 23 1 1 rfl rfl rfl cells23
  obtain ⟨_, _, h2⟩ := zBw underlying26 hf2 2 24 2 1 rfl rfl rfl cells24
  obtain ⟨xl, rfl⟩ : ∃ l : List Value, xs = l.toArray := ⟨xs.toList, by simp⟩
  have hl3 : xl.length = 3 := by simpa using hsz
  match xl, hl3 with
  | [c0, c1, c2], _ =>
    obtain ⟨a, ca, la, e0, hsa, hca, hma, hna⟩ := zEy (row := Room.cells) (ok := fun f => f.name.size ≤ 9223372036854775807) underlying22 cells44 (by omega) (fun _ => rfl) open_room h0
    obtain ⟨b, cb, lb, e1, hsb, hcb, hmb, hnb⟩ := zEy (row := Shop.cells) (ok := fun f => f.name.size ≤ 9223372036854775807) underlying23 cells51 (by omega) (fun _ => rfl) open_shop h1
    obtain ⟨c, cc, lc, e2, hsc, hcc, hmc, hnc⟩ := zEy (row := Train.cells) (ok := fun f => True) underlying24 cells53 (by omega) (fun _ => rfl) open_train h2
    simp at e0 e1 e2
    exact ⟨⟨la, lb, lc⟩, ⟨a, ca, b, cb, c, cc⟩, by rw [e0, e1, e2]; rfl, ⟨hsa, hsb, hsc, hma, hmb, hmc, hca, hcb, hcc, hna, hnb⟩⟩
theorem market_nil {m : Market} {p : At3} {d : DataW H} {ps : List MemPlace} (h : DataW.Trod enc Tryz.prog W 0 sp held 26 (.agg (m.cells p).toArray) d ps) : (p.ar = none → p.cr = 0) ∧ (p.az = none → p.cs = 0) ∧ (p.at_ = none → p.ct = 0) := by
  obtain ⟨fuel, hf⟩ := h
  have hf2 : DataW.trod enc Tryz.prog W 0 sp held fuel 26 (m.cells p) = some (d, ps) := hf
  obtain ⟨_, _, h0⟩ := zBw underlying26 hf2 0 22 0 1 rfl rfl rfl cells22
  obtain ⟨_, _, h1⟩ := zBw underlying26 hf2 1 23 1 1 rfl rfl rfl cells23
  obtain ⟨_, _, h2⟩ := zBw underlying26 hf2 2 24 2 1 rfl rfl rfl cells24
  exact ⟨slice_nil underlying22 h0, slice_nil underlying23 h1, slice_nil underlying24 h2⟩
end Go.Proofs.YtfodoljacfiehaaGreat.Lm
