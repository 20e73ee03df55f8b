import Derived.Test.YtgdliellepoccaaF21
import Derived.Test.YtgdliellepoccaaPx1
import Derived.Test.YtgdliellepoccaaPx11
import Derived.Maps.OwnOps
import Derived.WideMake
import Derived.Laws.IdiomRangeMap
import Derived.Maps.AppendAt
import Derived.Deep.RegionLaw
import Derived.ArgAppend
import Derived.RangeFuncNested
import Derived.RangeFuncBound
import Derived.RangeFuncCalls
import Derived.RangeFuncLeaves
import Derived.RangeFuncBox
import Derived.RangeFuncFrom
import Derived.OwnWalkIn
import Derived.TacticsInMore
import Derived.LoopNIn
import Derived.LoopIn
import Derived.Deep.Upon
import Derived.Deep.QuietTactic
import Derived.BigQuiet
import Derived.Deep.RegionHeld3
import Derived.Deep.DeepCutAuto
import Derived.Deep.CutBlock
import Derived.Laws.EntriesVeiled
import Derived.StillTailTactics
import Derived.Laws.Tables
import Derived.Laws.CopyOwn
import Derived.IntWalk
import Derived.Test.YtgdliellepoccaaBlocks
import Derived.Laws.CopyOwn
import Derived.Laws.Tables
import Derived.Outline
namespace Go.Proofs.Ytgdliellepoccaa.G
open Go.RowKit Go.Proofs.YtgdliellepoccaaW.PrintWords Go.Proofs.YtgdliellepoccaaW.PrintLast Go.Proofs.YtgdliellepoccaaW.PrintMore
set_option linter.unusedVariables false
set_option linter.unusedSimpArgs false
namespace Wl
open Go.RowKit Go.Proofs.YtgdliellepoccaaW.PrintWords Go.Proofs.YtgdliellepoccaaW.PrintLast Go.Proofs.YtgdliellepoccaaW.PrintMore Go.Proofs.Ytgdliellepoccaa.P
set_option maxRecDepth 100000
theorem toList_dataW (s : ByteArray) : s.toList = s.data.toList := by
  have : ∀ (n i : Nat) (r : List UInt8), s.size - i = n → ByteArray.toList.loop s i r = r.reverse ++ s.data.toList.drop i := by
    intro n
    induction n with
    | zero =>
      intro i r h
      unfold ByteArray.toList.loop
      rw [if_neg (by omega), List.drop_of_length_le (by rw [Array.length_toList]; show s.size ≤ i; omega)]
      simp
    | succ n ih =>
      intro i r h
      unfold ByteArray.toList.loop
      rw [if_pos (by omega), ih (i + 1) _ (by omega)]
      have hi : i < s.data.toList.length := by rw [Array.length_toList]; show i < s.size; omega
      rw [List.drop_eq_getElem_cons hi]
      have hs : i < s.data.size := by simpa using hi
      have : s.get! i = s.data.toList[i] := by
        rw [show s.get! i = s.data[i]! from rfl, getElem!_pos s.data i hs]
        simp
      rw [this]
      simp
  have h := this s.size 0 [] (by omega)
  simpa [ByteArray.toList] using h
theorem toList_nilW (s : ByteArray) : (s.toList = ([] : List UInt8)) ↔ s.size = 0 := by
  rw [toList_dataW]
  constructor
  · intro h
    have : s.data.toList.length = 0 := by rw [h]; rfl
    simpa using this
  · intro h
    have : s.data.toList.length = 0 := by simpa using h
    exact List.length_eq_zero_iff.mp this
theorem isName_eq (s : ByteArray) (hs : s.size ≤ 2199023255552) : ∀ (k : Nat) (x : Int), 0 ≤ x → wal_isName.l0 k s (s.size : Int) x = hawserref12_IsName.l0 k s x
  | 0, _, _ => rfl
  | k + 1, x, hx => by
    unfold wal_isName.l0 hawserref12_IsName.l0
    by_cases h : x < (s.size : Int)
    · have hw : wrap64 (x + 1) = x + 1 := by unfold wrap64; omega
      rw [hw, isName_eq s hs k (x + 1) (by omega)]
      simp only [if_pos h, if_pos hx]
    · rw [if_neg h, if_neg h]
      by_cases h0 : s.size = 0
      · rw [if_pos ((toList_nilW s).mpr h0), if_neg (by omega)]
      · rw [if_neg (fun e => h0 ((toList_nilW s).mp e)), if_pos (by omega)]
theorem isName_some (s : ByteArray) (hs : s.size ≤ 2199023255552) : ∀ (k : Nat) (x : Int), 0 ≤ x → x ≤ (s.size : Int) → (s.size : Int) - x < k → ∃ b, hawserref12_IsName.l0 k s x = some b
  | 0, x, hx, hle, hk => by omega
  | k + 1, x, hx, hle, hk => by
    unfold hawserref12_IsName.l0
    by_cases h : x < (s.size : Int)
    · have hw : wrap64 (x + 1) = x + 1 := by unfold wrap64; omega
      obtain ⟨b, hb⟩ := isName_some s hs k (x + 1) (by omega) (by omega) (by omega)
      rw [hw, hb]
      simp only [if_pos h, if_pos hx]
      repeat' (first | exact ⟨_, rfl⟩ | split)
    · rw [if_neg h]
      split <;> exact ⟨_, rfl⟩
end Wl

namespace Wl
open Go.Proofs.Ytgdliellepoccaa.Blocks Frm
set_option maxRecDepth 100000
theorem new2W (v : World) (o o' : Obj) : ((v.alloc o).alloc o').heap[v.heap.size + 1]? = some o' := by
  have := heap_alloc_new (v.alloc o) o'
  rwa [World.size_alloc] at this
structure Mk (W w : World) (cs : Array Value) (z sl : Nat) : Prop where
  op : w.heap[W.heap.size]? = some (.cells cs 26 (0, 0))
  sl : w.heap[sl]? = some (.cells #[.pointer none, .pointer (some ⟨z, 0, none⟩)] 27 (0, 0))
  z : w.heap[z]? = some (.cells #[.pointer none, .string ⟨#[]⟩, .bool false, .slice none 0 0, .int .i64 0, .int .i64 0, .bool false] 30 (0, 0))
  bel : Below W.heap.size W w
theorem Mk.below {W w w' : World} {cs : Array Value} {z sl : Nat} (h : Mk W w cs z sl) (hB : Below w.heap.size w w') : Mk W w' cs z sl :=
  ⟨blk_below h.op hB, blk_below h.sl hB, blk_below h.z hB, h.bel.trans (below_w hB h.bel.size)⟩
abbrev Mk2 (W w : World) (cs : Array Value) (z sl : Nat) (v : Value) : Prop := Mk W w cs z sl ∧ DeadL w v
theorem Mk2.below {W w w' : World} {cs : Array Value} {z sl : Nat} {v : Value} (h : Mk2 W w cs z sl v) (hB : Below w.heap.size w w') : Mk2 W w' cs z sl v := ⟨h.1.below hB, h.2.below hB⟩
/-- What Open answers at an empty disk, by a name of which both tests told. -/
theorem opened {W : World} {B dp mp : Nat} {room used acts : Int} {la : Value} {n : Nat} (h : Ds W B dp mp room used acts la (.slice none 0 0) [] #[] n) (nm : ByteArray) (k : Nat) (b1 b2 : Bool) (hsz : nm.size ≤ 1099511627776) (h1 : Go.Proofs.Ytgdliellepoccaa.P.wal_isName.f k nm = some b1) (h2 : Go.Proofs.Ytgdliellepoccaa.P.wal_isName.f k (nm ++ ⟨#[46, 110]⟩) = some b2) :
    Calls Try.prog 14 #[.pointer (some ⟨dp, 0, none⟩), .string nm] W fun e w => ((b1 && b2) = true → ∃ lp, e = .returned (.tuple #[.pointer (some ⟨lp, 0, none⟩), .int .i64 0])) ∧ ((b1 && b2) = false → e = .returned (.tuple #[.pointer none, .int .i64 120])) ∧ Below W.heap.size W w := by
  rcases hb : b1 && b2 with _ | _
  · refine (open0_bad h nm k b1 b2 hsz h1 (fun _ => h2) hb).mono ?_
    rintro e w ⟨rfl, hB⟩
    exact ⟨fun c => (by cases c), fun _ => rfl, hB⟩
  · have e1 : b1 = true := by cases b1 <;> simp_all
    have e2 : b2 = true := by cases b2 <;> simp_all
    subst e1 e2
    refine (open0_calls h nm k hsz h1 h2).mono ?_
    rintro e w ⟨lp, rfl, _, _, hB⟩
    exact ⟨fun _ => ⟨lp, rfl⟩, fun c => (by cases c), hB⟩
set_option maxHeartbeats 2000000 in
theorem wmade_calls (W : World) (cs : Array Value) (hcs : cs.size = 5) (long : ByteArray) (hs : long.size ≤ 1099511627776) : Calls Try.prog 4 #[.agg cs, .string long] W fun r w => r = .returned (.bool true) ∧ Below W.heap.size W w := by
  obtain ⟨x2, hx2⟩ : ∃ u, cs[2]? = some u := ⟨cs[2], Array.getElem?_eq_getElem (by omega)⟩
  obtain ⟨x3, hx3⟩ : ∃ u, cs[3]? = some u := ⟨cs[3], Array.getElem?_eq_getElem (by omega)⟩
  obtain ⟨x4, hx4⟩ : ∃ u, cs[4]? = some u := ⟨cs[4], Array.getElem?_eq_getElem (by omega)⟩
  obtain ⟨k, hk⟩ : ∃ k : Nat, k = 2199023255600 := ⟨_, rfl⟩
  obtain ⟨nm2, hcat⟩ : ∃ nm2, long ++ ⟨#[46, 110]⟩ = nm2 := ⟨_, rfl⟩
  have hs2 : nm2.size = long.size + 2 := by rw [← hcat, ByteArray.size_append]; rfl
  obtain ⟨b1, h1⟩ := isName_some long (by omega) k 0 (by omega) (by omega) (by omega)
  obtain ⟨b2, h2⟩ := isName_some nm2 (by omega) k 0 (by omega) (by omega) (by omega)
  have g1 : Go.Proofs.Ytgdliellepoccaa.P.wal_isName.f k long = some b1 := (isName_eq long (by omega) k 0 (by omega)).trans h1
  have g2 : Go.Proofs.Ytgdliellepoccaa.P.wal_isName.f k (long ++ ⟨#[46, 110]⟩) = some b2 := by rw [hcat]; exact (isName_eq nm2 (by omega) k 0 (by omega)).trans h2
  have HG := Aside0.mk (And.intro g1 g2)
  have H1 := Aside0.mk (fun w => Go.Proofs.Ytgdliellepoccaa.P.hawserref12_IsName.calls k long b1 w h1)
  have H2 := Aside0.mk (fun w => Go.Proofs.Ytgdliellepoccaa.P.hawserref12_IsName.calls k nm2 b2 w h2)
  have hsz2 : long.size + 2 ≤ 9223372036854775807 := by omega
  clear g1 g2 h1 h2 hk hs2
  have HU2 := Aside0.mk hx2
  have HU3 := Aside0.mk hx3
  have HU4 := Aside0.mk hx4
  have HO1 := Aside0.mk (blk_new W (.cells cs 26))
  have HB1 := Aside0.mk (below_alloc (Below.refl W.heap.size W) (.cells cs 26))
  have HS := Aside0.mk hs
  clear hx2 hx3 hx4 hcs hs
  go_enter Try.func4, Try.ntmps4
  go_upto_region 1 with fail
  generalize W.alloc (.cells cs 26) = w1 at HO1 HB1 ⊢
  go_wp2_with fail
  have HM0 : Aside0 (Mk W ((w1.alloc (.cells #[.pointer none, .string ⟨#[]⟩, .bool false, .slice none 0 0, .int .i64 0, .int .i64 0, .bool false] 30)).alloc (.cells #[.pointer none, .pointer (some ⟨w1.heap.size, 0, none⟩)] 27)) cs w1.heap.size (w1.heap.size + 1)) := ⟨⟨blk_alloc (blk_alloc HO1.out _) _, new2W w1 _ _, blk_alloc (blk_new w1 _) _, (HB1.out.alloc HB1.out.size _).alloc (by have := HB1.out.size; simp; omega) _⟩⟩
  generalize (w1.alloc (.cells #[.pointer none, .string ⟨#[]⟩, .bool false, .slice none 0 0, .int .i64 0, .int .i64 0, .bool false] 30)).alloc (.cells #[.pointer none, .pointer (some ⟨w1.heap.size, 0, none⟩)] 27) = w2 at HM0 ⊢
  generalize w1.heap.size = z at HM0 ⊢
  generalize z + 1 = sl at HM0 ⊢
  clear HO1 HB1
  go_loopw [24] (fun v wr => ∃ k : Nat, v = .int .i64 k ∧ k ≤ 2 ∧ Aside0 (Mk W wr cs z sl)) (fun v _ => 2 - (intOf v).toNat)
  case atStart => exact ⟨0, rfl, by omega, HM0⟩
  case round =>
    obtain ⟨i, rfl, hk, HP⟩ := hrel
    by_cases hlt : i < 2
    · obtain ⟨v, hv, hd⟩ : ∃ v, wr.cell? ⟨sl, i, none⟩ = some v ∧ DeadL wr v := by
        have h1 := blk_cell HP.out.sl i
        have : i = 0 ∨ i = 1 := by omega
        rcases this with rfl | rfl
        · exact ⟨_, h1, .inl rfl⟩
        · exact ⟨_, h1, .inr ⟨z, rfl, blk_cell HP.out.z 0, blk_cell HP.out.z 3, blk_cell HP.out.z 4, blk_cell HP.out.z 5⟩⟩
      have HM := Aside0.mk (show Mk2 W wr cs z sl v from ⟨HP.out, hd⟩)
      have hki : (i : Int) < 2 := by omega
      have hk0 : (0 : Int) ≤ (i : Int) := by omega
      clear hd hlt HP HM0
      go_upto_region 6 with fail
      have o2 : wr.cell? ⟨W.heap.size, 2, none⟩ = some x2 := (blk_cell HM.out.1.op 2).trans HU2.out
      go_upto_region 7 with (first
        | (go_at_call 6; refine (append_dead HM.out.2 _).mono ?_; rintro r w3 ⟨rfl, hb⟩; (have HM3 := Aside0.mk (HM.out.below hb)); clear HM hb o2)
        | fail)
      have o4 : w3.cell? ⟨W.heap.size, 4, none⟩ = some x4 := (blk_cell HM3.out.1.op 4).trans HU4.out
      go_upto_region 8 with (first
        | (go_at_call 7; refine (record_dead HM3.out.2 _).mono ?_; rintro r w4 ⟨rfl, hw⟩; subst hw)
        | fail)
      go_wp2_with (first
        | (go_at_call 8; refine (syncl_dead HM3.out.2).mono ?_; rintro r w5 ⟨rfl, hb⟩; (have HM5 := Aside0.mk (HM3.out.below hb)); clear hb HM3 o4; (have o3 : w5.cell? ⟨W.heap.size, 3, none⟩ = some x3 := (blk_cell HM5.out.1.op 3).trans HU3.out))
        | (go_at_call 9; refine (startl_dead HM5.out.2 _).mono ?_; rintro r w6 ⟨rfl, hb⟩; (have HM6 := Aside0.mk (HM5.out.below hb)); clear hb HM5 o3)
        | (go_at_call 10; refine (closel_dead HM6.out.2).mono ?_; rintro r w7 ⟨rfl, hw⟩; subst hw)
        | (go_at_call 11; refine (lenl_dead HM6.out.2).mono ?_; rintro r w7 ⟨rfl, hw⟩; subst hw)
        | (go_at_call 12; refine (lastingl_dead HM6.out.2).mono ?_; rintro r w7 ⟨rfl, hw⟩; subst hw)
        | (go_at_call 13; refine (tornl_dead HM6.out.2).mono ?_; rintro r w7 ⟨rfl, hw⟩; subst hw)
        | fail)
      go_roundw
      case rel => exact ⟨i + 1, by push_cast; rfl, by omega, ⟨HM6.out.1⟩⟩
      case measure => simp [intOf]; omega
    · have h2 : i = 2 := by omega
      subst h2
      have HP2 := HP
      clear HP HM0 hlt hk HU2 HU3 HU4
      have HDB := Aside0.mk (below_alloc (Below.refl wr.heap.size wr) (.cells #[.int .i64 0, .map none, .map none, .slice none 0 0, .int .i64 0, .int .i64 0, .int .i64 0, .bool false] 44))
      have HDD := Aside0.mk (show DeadD (wr.alloc (.cells #[.int .i64 0, .map none, .map none, .slice none 0 0, .int .i64 0, .int .i64 0, .int .i64 0, .bool false] 44)) (.pointer (some ⟨wr.heap.size, 0, none⟩)) from .inr ⟨_, rfl, blk_cell (blk_new wr _) 1⟩)
      have HBE := Aside0.mk (HP2.out.bel.trans (below_w HDB.out HP2.out.bel.size))
      clear HP2 HDB
      go_upto_region 12 with fail
      generalize wr.alloc (.cells #[.int .i64 0, .map none, .map none, .slice none 0 0, .int .i64 0, .int .i64 0, .int .i64 0, .bool false] 44) = w3 at HDD HBE ⊢
      go_upto_region 13 with (first
        | (go_at_call 14; refine (openD (.inl rfl) _).mono ?_; rintro r w4 ⟨rfl, hb⟩; (have HBE4 := Aside0.mk (HBE.out.trans (below_w hb HBE.out.size))); (have HDD4 := Aside0.mk (HDD.out.below hb)); clear hb HBE HDD)
        | fail)
      go_upto_region 14 with (first
        | (go_at_call 14; refine (openD HDD4.out _).mono ?_; rintro r w5 ⟨rfl, hb⟩; (have HBE5 := Aside0.mk (HBE4.out.trans (below_w hb HBE4.out.size))); clear hb HBE4 HDD4)
        | fail)
      go_upto_region 17 with (first
        | (go_at_call 15; refine (new_calls w5 5000 (by decide) (by decide)).mono ?_; rintro r w6 ⟨dp, mp, la, rfl, hds, hb⟩; (have HBE6 := Aside0.mk (HBE5.out.trans (below_w hb HBE5.out.size))); (have HDS := Aside0.mk hds); clear hb hds HBE5)
        | fail)
      have HOP := Aside0.mk (opened HDS.out long k b1 b2 (by have := HS.out; omega) HG.out.1 HG.out.2)
      clear HDS HG
      rcases b1 with _ | _
      · go_wp2_with (first
          | (go_at_call 14; refine HOP.out.mono ?_; rintro r w7 ⟨-, he, hb⟩; obtain rfl := he rfl; (have HBE7 := Aside0.mk (HBE6.out.trans (below_w hb HBE6.out.size))); clear hb HBE6 he)
          | (go_at_call 16; with_reducible refine (H1.out _).mono ?_; rintro e w8 ⟨rfl, hd⟩; (have HBE8 := Aside0.mk (HBE7.out.trans (below_w (Drawn0.below hd) HBE7.out.size))); clear hd HBE7)
          | (go_at_call 5; refine (lives_calls _).mono ?_; rintro r w9 ⟨rfl, hb⟩)
          | fail)
        go_ret
        exact ⟨rfl, HBE8.out.trans (below_w hb HBE8.out.size)⟩
      · rcases b2 with _ | _
        · go_wp2_with (first
            | (go_at_call 14; refine HOP.out.mono ?_; rintro r w7 ⟨-, he, hb⟩; obtain rfl := he rfl; (have HBE7 := Aside0.mk (HBE6.out.trans (below_w hb HBE6.out.size))); clear hb HBE6 he)
            | (go_at_call 16; with_reducible refine (H1.out _).mono ?_; rintro e w8 ⟨rfl, hd⟩; (have HBE8 := Aside0.mk (HBE7.out.trans (below_w (Drawn0.below hd) HBE7.out.size))); clear hd HBE7)
            | (go_at_call 16; with_reducible refine (H2.out _).mono ?_; rintro e w9 ⟨rfl, hd⟩; (have HBE9 := Aside0.mk (HBE8.out.trans (below_w (Drawn0.below hd) HBE8.out.size))); clear hd HBE8)
            | (go_at_call 5; refine (lives_calls _).mono ?_; rintro r w10 ⟨rfl, hb⟩)
            | fail)
          go_ret
          exact ⟨rfl, HBE9.out.trans (below_w hb HBE9.out.size)⟩
        · go_wp2_with (first
            | (go_at_call 14; refine HOP.out.mono ?_; rintro r w7 ⟨he, -, hb⟩; obtain ⟨lp, rfl⟩ := he rfl; (have HBE7 := Aside0.mk (HBE6.out.trans (below_w hb HBE6.out.size))); clear hb HBE6 he)
            | (go_at_call 16; with_reducible refine (H1.out _).mono ?_; rintro e w8 ⟨rfl, hd⟩; (have HBE8 := Aside0.mk (HBE7.out.trans (below_w (Drawn0.below hd) HBE7.out.size))); clear hd HBE7)
            | (go_at_call 16; with_reducible refine (H2.out _).mono ?_; rintro e w9 ⟨rfl, hd⟩; (have HBE9 := Aside0.mk (HBE8.out.trans (below_w (Drawn0.below hd) HBE8.out.size))); clear hd HBE8)
            | (go_at_call 5; refine (lives_calls _).mono ?_; rintro r w10 ⟨rfl, hb⟩)
            | fail)
          go_ret
          exact ⟨rfl, HBE9.out.trans (below_w hb HBE9.out.size)⟩
end Wl

end Go.Proofs.Ytgdliellepoccaa.G
