/- TopNegative answers true: its runs by an evaluator that was proved sound. -/
import Derived.Test.YtaijiiohebcakaaGreatDoorEvTopNegativeRunS0
import Derived.Test.YtaijiiohebcakaaGreatDoorEvTopNegativeRunS1
import Derived.Test.YtaijiiohebcakaaGreatDoorEvTopNegativeRunS2
import Derived.Test.YtaijiiohebcakaaGreatDoorEvTopNegativeRunS3
import Derived.Test.YtaijiiohebcakaaGreatDoorEvTopNegativeFacts
import Derived.Test.YtaijiiohebcakaaGreatDoorRows
import Derived.WalkKit
import Derived.ProofKit
import Derived.OpenShut
import Derived.ChangeOld
import Derived.Below
import Derived.SizedLaws
import Derived.KernelRfl
import Derived.Lay
import Derived.LaidHandle
import Derived.Stop.Joined
import Derived.Test.YtaijiiohebcakaaGreatDoorTie
import Derived.Test.YtaijiiohebcakaaGreatDoorCards
import Derived.SevenTiedAt
namespace Go.Proofs.YtaijiiohebcakaaGreatDoor.topNegative
open Go.ChangeShapes Go.WideShapes Go.ChangeAt Go.RowKit Go.YtaijiiohebcakaaGreatDoorEv
set_option linter.unusedVariables false
set_option maxRecDepth 100000
theorem runs (W : World) (a0 : Bool) (a1 : Int) : ∃ l, VRs (fun _ => none) l (#[.bool a0, .int .i64 a1] : Array Value).toList ∧ tst W l = true :=
  (match a0 with | true => (match evSmall.lt a1 60 (by decide) with | ⟨0, _, h1⟩ => ⟨_, (.cons (.bool _) (.cons (.res h1) .nil)), s0 W a1 h1⟩ | ⟨1, _, h1⟩ => ⟨_, (.cons (.bool _) (.cons (.res h1) .nil)), s1 W a1 h1⟩ | ⟨2, _, h1⟩ => ⟨_, (.cons (.bool _) (.cons (.res h1) .nil)), s2 W a1 h1⟩ | ⟨3, _, h1⟩ => ⟨_, (.cons (.bool _) (.cons (.res h1) .nil)), s3 W a1 h1⟩ | ⟨4, _, h1⟩ => ⟨_, (.cons (.bool _) (.cons (.res h1) .nil)), s4 W a1 h1⟩ | ⟨5, _, h1⟩ => ⟨_, (.cons (.bool _) (.cons (.res h1) .nil)), s5 W a1 h1⟩ | ⟨6, _, h1⟩ => ⟨_, (.cons (.bool _) (.cons (.res h1) .nil)), s6 W a1 h1⟩ | ⟨7, _, h1⟩ => ⟨_, (.cons (.bool _) (.cons (.res h1) .nil)), s7 W a1 h1⟩ | ⟨8, _, h1⟩ => ⟨_, (.cons (.bool _) (.cons (.res h1) .nil)), s8 W a1 h1⟩ | ⟨9, _, h1⟩ => ⟨_, (.cons (.bool _) (.cons (.res h1) .nil)), s9 W a1 h1⟩ | ⟨10, _, h1⟩ => ⟨_, (.cons (.bool _) (.cons (.res h1) .nil)), s10 W a1 h1⟩ | ⟨11, _, h1⟩ => ⟨_, (.cons (.bool _) (.cons (.res h1) .nil)), s11 W a1 h1⟩ | ⟨12, _, h1⟩ => ⟨_, (.cons (.bool _) (.cons (.res h1) .nil)), s12 W a1 h1⟩ | ⟨13, _, h1⟩ => ⟨_, (.cons (.bool _) (.cons (.res h1) .nil)), s13 W a1 h1⟩ | ⟨14, _, h1⟩ => ⟨_, (.cons (.bool _) (.cons (.res h1) .nil)), s14 W a1 h1⟩ | ⟨15, _, h1⟩ => ⟨_, (.cons (.bool _) (.cons (.res h1) .nil)), s15 W a1 h1⟩ | ⟨16, _, h1⟩ => ⟨_, (.cons (.bool _) (.cons (.res h1) .nil)), s16 W a1 h1⟩ | ⟨17, _, h1⟩ => ⟨_, (.cons (.bool _) (.cons (.res h1) .nil)), s17 W a1 h1⟩ | ⟨18, _, h1⟩ => ⟨_, (.cons (.bool _) (.cons (.res h1) .nil)), s18 W a1 h1⟩ | ⟨19, _, h1⟩ => ⟨_, (.cons (.bool _) (.cons (.res h1) .nil)), s19 W a1 h1⟩ | ⟨20, _, h1⟩ => ⟨_, (.cons (.bool _) (.cons (.res h1) .nil)), s20 W a1 h1⟩ | ⟨21, _, h1⟩ => ⟨_, (.cons (.bool _) (.cons (.res h1) .nil)), s21 W a1 h1⟩ | ⟨22, _, h1⟩ => ⟨_, (.cons (.bool _) (.cons (.res h1) .nil)), s22 W a1 h1⟩ | ⟨23, _, h1⟩ => ⟨_, (.cons (.bool _) (.cons (.res h1) .nil)), s23 W a1 h1⟩ | ⟨24, _, h1⟩ => ⟨_, (.cons (.bool _) (.cons (.res h1) .nil)), s24 W a1 h1⟩ | ⟨25, _, h1⟩ => ⟨_, (.cons (.bool _) (.cons (.res h1) .nil)), s25 W a1 h1⟩ | ⟨26, _, h1⟩ => ⟨_, (.cons (.bool _) (.cons (.res h1) .nil)), s26 W a1 h1⟩ | ⟨27, _, h1⟩ => ⟨_, (.cons (.bool _) (.cons (.res h1) .nil)), s27 W a1 h1⟩ | ⟨28, _, h1⟩ => ⟨_, (.cons (.bool _) (.cons (.res h1) .nil)), s28 W a1 h1⟩ | ⟨29, _, h1⟩ => ⟨_, (.cons (.bool _) (.cons (.res h1) .nil)), s29 W a1 h1⟩ | ⟨30, _, h1⟩ => ⟨_, (.cons (.bool _) (.cons (.res h1) .nil)), s30 W a1 h1⟩ | ⟨31, _, h1⟩ => ⟨_, (.cons (.bool _) (.cons (.res h1) .nil)), s31 W a1 h1⟩ | ⟨32, _, h1⟩ => ⟨_, (.cons (.bool _) (.cons (.res h1) .nil)), s32 W a1 h1⟩ | ⟨33, _, h1⟩ => ⟨_, (.cons (.bool _) (.cons (.res h1) .nil)), s33 W a1 h1⟩ | ⟨34, _, h1⟩ => ⟨_, (.cons (.bool _) (.cons (.res h1) .nil)), s34 W a1 h1⟩ | ⟨35, _, h1⟩ => ⟨_, (.cons (.bool _) (.cons (.res h1) .nil)), s35 W a1 h1⟩ | ⟨36, _, h1⟩ => ⟨_, (.cons (.bool _) (.cons (.res h1) .nil)), s36 W a1 h1⟩ | ⟨37, _, h1⟩ => ⟨_, (.cons (.bool _) (.cons (.res h1) .nil)), s37 W a1 h1⟩ | ⟨38, _, h1⟩ => ⟨_, (.cons (.bool _) (.cons (.res h1) .nil)), s38 W a1 h1⟩ | ⟨39, _, h1⟩ => ⟨_, (.cons (.bool _) (.cons (.res h1) .nil)), s39 W a1 h1⟩ | ⟨40, _, h1⟩ => ⟨_, (.cons (.bool _) (.cons (.res h1) .nil)), s40 W a1 h1⟩ | ⟨41, _, h1⟩ => ⟨_, (.cons (.bool _) (.cons (.res h1) .nil)), s41 W a1 h1⟩ | ⟨42, _, h1⟩ => ⟨_, (.cons (.bool _) (.cons (.res h1) .nil)), s42 W a1 h1⟩ | ⟨43, _, h1⟩ => ⟨_, (.cons (.bool _) (.cons (.res h1) .nil)), s43 W a1 h1⟩ | ⟨44, _, h1⟩ => ⟨_, (.cons (.bool _) (.cons (.res h1) .nil)), s44 W a1 h1⟩ | ⟨45, _, h1⟩ => ⟨_, (.cons (.bool _) (.cons (.res h1) .nil)), s45 W a1 h1⟩ | ⟨46, _, h1⟩ => ⟨_, (.cons (.bool _) (.cons (.res h1) .nil)), s46 W a1 h1⟩ | ⟨47, _, h1⟩ => ⟨_, (.cons (.bool _) (.cons (.res h1) .nil)), s47 W a1 h1⟩ | ⟨48, _, h1⟩ => ⟨_, (.cons (.bool _) (.cons (.res h1) .nil)), s48 W a1 h1⟩ | ⟨49, _, h1⟩ => ⟨_, (.cons (.bool _) (.cons (.res h1) .nil)), s49 W a1 h1⟩ | ⟨50, _, h1⟩ => ⟨_, (.cons (.bool _) (.cons (.res h1) .nil)), s50 W a1 h1⟩ | ⟨51, _, h1⟩ => ⟨_, (.cons (.bool _) (.cons (.res h1) .nil)), s51 W a1 h1⟩ | ⟨52, _, h1⟩ => ⟨_, (.cons (.bool _) (.cons (.res h1) .nil)), s52 W a1 h1⟩ | ⟨53, _, h1⟩ => ⟨_, (.cons (.bool _) (.cons (.res h1) .nil)), s53 W a1 h1⟩ | ⟨54, _, h1⟩ => ⟨_, (.cons (.bool _) (.cons (.res h1) .nil)), s54 W a1 h1⟩ | ⟨55, _, h1⟩ => ⟨_, (.cons (.bool _) (.cons (.res h1) .nil)), s55 W a1 h1⟩ | ⟨56, _, h1⟩ => ⟨_, (.cons (.bool _) (.cons (.res h1) .nil)), s56 W a1 h1⟩ | ⟨57, _, h1⟩ => ⟨_, (.cons (.bool _) (.cons (.res h1) .nil)), s57 W a1 h1⟩ | ⟨58, _, h1⟩ => ⟨_, (.cons (.bool _) (.cons (.res h1) .nil)), s58 W a1 h1⟩ | ⟨59, _, h1⟩ => ⟨_, (.cons (.bool _) (.cons (.res h1) .nil)), s59 W a1 h1⟩ | ⟨k + 60, q, _⟩ => absurd q (by omega)) | false => (match evSmall.lt a1 60 (by decide) with | ⟨0, _, h1⟩ => ⟨_, (.cons (.bool _) (.cons (.res h1) .nil)), s60 W a1 h1⟩ | ⟨1, _, h1⟩ => ⟨_, (.cons (.bool _) (.cons (.res h1) .nil)), s61 W a1 h1⟩ | ⟨2, _, h1⟩ => ⟨_, (.cons (.bool _) (.cons (.res h1) .nil)), s62 W a1 h1⟩ | ⟨3, _, h1⟩ => ⟨_, (.cons (.bool _) (.cons (.res h1) .nil)), s63 W a1 h1⟩ | ⟨4, _, h1⟩ => ⟨_, (.cons (.bool _) (.cons (.res h1) .nil)), s64 W a1 h1⟩ | ⟨5, _, h1⟩ => ⟨_, (.cons (.bool _) (.cons (.res h1) .nil)), s65 W a1 h1⟩ | ⟨6, _, h1⟩ => ⟨_, (.cons (.bool _) (.cons (.res h1) .nil)), s66 W a1 h1⟩ | ⟨7, _, h1⟩ => ⟨_, (.cons (.bool _) (.cons (.res h1) .nil)), s67 W a1 h1⟩ | ⟨8, _, h1⟩ => ⟨_, (.cons (.bool _) (.cons (.res h1) .nil)), s68 W a1 h1⟩ | ⟨9, _, h1⟩ => ⟨_, (.cons (.bool _) (.cons (.res h1) .nil)), s69 W a1 h1⟩ | ⟨10, _, h1⟩ => ⟨_, (.cons (.bool _) (.cons (.res h1) .nil)), s70 W a1 h1⟩ | ⟨11, _, h1⟩ => ⟨_, (.cons (.bool _) (.cons (.res h1) .nil)), s71 W a1 h1⟩ | ⟨12, _, h1⟩ => ⟨_, (.cons (.bool _) (.cons (.res h1) .nil)), s72 W a1 h1⟩ | ⟨13, _, h1⟩ => ⟨_, (.cons (.bool _) (.cons (.res h1) .nil)), s73 W a1 h1⟩ | ⟨14, _, h1⟩ => ⟨_, (.cons (.bool _) (.cons (.res h1) .nil)), s74 W a1 h1⟩ | ⟨15, _, h1⟩ => ⟨_, (.cons (.bool _) (.cons (.res h1) .nil)), s75 W a1 h1⟩ | ⟨16, _, h1⟩ => ⟨_, (.cons (.bool _) (.cons (.res h1) .nil)), s76 W a1 h1⟩ | ⟨17, _, h1⟩ => ⟨_, (.cons (.bool _) (.cons (.res h1) .nil)), s77 W a1 h1⟩ | ⟨18, _, h1⟩ => ⟨_, (.cons (.bool _) (.cons (.res h1) .nil)), s78 W a1 h1⟩ | ⟨19, _, h1⟩ => ⟨_, (.cons (.bool _) (.cons (.res h1) .nil)), s79 W a1 h1⟩ | ⟨20, _, h1⟩ => ⟨_, (.cons (.bool _) (.cons (.res h1) .nil)), s80 W a1 h1⟩ | ⟨21, _, h1⟩ => ⟨_, (.cons (.bool _) (.cons (.res h1) .nil)), s81 W a1 h1⟩ | ⟨22, _, h1⟩ => ⟨_, (.cons (.bool _) (.cons (.res h1) .nil)), s82 W a1 h1⟩ | ⟨23, _, h1⟩ => ⟨_, (.cons (.bool _) (.cons (.res h1) .nil)), s83 W a1 h1⟩ | ⟨24, _, h1⟩ => ⟨_, (.cons (.bool _) (.cons (.res h1) .nil)), s84 W a1 h1⟩ | ⟨25, _, h1⟩ => ⟨_, (.cons (.bool _) (.cons (.res h1) .nil)), s85 W a1 h1⟩ | ⟨26, _, h1⟩ => ⟨_, (.cons (.bool _) (.cons (.res h1) .nil)), s86 W a1 h1⟩ | ⟨27, _, h1⟩ => ⟨_, (.cons (.bool _) (.cons (.res h1) .nil)), s87 W a1 h1⟩ | ⟨28, _, h1⟩ => ⟨_, (.cons (.bool _) (.cons (.res h1) .nil)), s88 W a1 h1⟩ | ⟨29, _, h1⟩ => ⟨_, (.cons (.bool _) (.cons (.res h1) .nil)), s89 W a1 h1⟩ | ⟨30, _, h1⟩ => ⟨_, (.cons (.bool _) (.cons (.res h1) .nil)), s90 W a1 h1⟩ | ⟨31, _, h1⟩ => ⟨_, (.cons (.bool _) (.cons (.res h1) .nil)), s91 W a1 h1⟩ | ⟨32, _, h1⟩ => ⟨_, (.cons (.bool _) (.cons (.res h1) .nil)), s92 W a1 h1⟩ | ⟨33, _, h1⟩ => ⟨_, (.cons (.bool _) (.cons (.res h1) .nil)), s93 W a1 h1⟩ | ⟨34, _, h1⟩ => ⟨_, (.cons (.bool _) (.cons (.res h1) .nil)), s94 W a1 h1⟩ | ⟨35, _, h1⟩ => ⟨_, (.cons (.bool _) (.cons (.res h1) .nil)), s95 W a1 h1⟩ | ⟨36, _, h1⟩ => ⟨_, (.cons (.bool _) (.cons (.res h1) .nil)), s96 W a1 h1⟩ | ⟨37, _, h1⟩ => ⟨_, (.cons (.bool _) (.cons (.res h1) .nil)), s97 W a1 h1⟩ | ⟨38, _, h1⟩ => ⟨_, (.cons (.bool _) (.cons (.res h1) .nil)), s98 W a1 h1⟩ | ⟨39, _, h1⟩ => ⟨_, (.cons (.bool _) (.cons (.res h1) .nil)), s99 W a1 h1⟩ | ⟨40, _, h1⟩ => ⟨_, (.cons (.bool _) (.cons (.res h1) .nil)), s100 W a1 h1⟩ | ⟨41, _, h1⟩ => ⟨_, (.cons (.bool _) (.cons (.res h1) .nil)), s101 W a1 h1⟩ | ⟨42, _, h1⟩ => ⟨_, (.cons (.bool _) (.cons (.res h1) .nil)), s102 W a1 h1⟩ | ⟨43, _, h1⟩ => ⟨_, (.cons (.bool _) (.cons (.res h1) .nil)), s103 W a1 h1⟩ | ⟨44, _, h1⟩ => ⟨_, (.cons (.bool _) (.cons (.res h1) .nil)), s104 W a1 h1⟩ | ⟨45, _, h1⟩ => ⟨_, (.cons (.bool _) (.cons (.res h1) .nil)), s105 W a1 h1⟩ | ⟨46, _, h1⟩ => ⟨_, (.cons (.bool _) (.cons (.res h1) .nil)), s106 W a1 h1⟩ | ⟨47, _, h1⟩ => ⟨_, (.cons (.bool _) (.cons (.res h1) .nil)), s107 W a1 h1⟩ | ⟨48, _, h1⟩ => ⟨_, (.cons (.bool _) (.cons (.res h1) .nil)), s108 W a1 h1⟩ | ⟨49, _, h1⟩ => ⟨_, (.cons (.bool _) (.cons (.res h1) .nil)), s109 W a1 h1⟩ | ⟨50, _, h1⟩ => ⟨_, (.cons (.bool _) (.cons (.res h1) .nil)), s110 W a1 h1⟩ | ⟨51, _, h1⟩ => ⟨_, (.cons (.bool _) (.cons (.res h1) .nil)), s111 W a1 h1⟩ | ⟨52, _, h1⟩ => ⟨_, (.cons (.bool _) (.cons (.res h1) .nil)), s112 W a1 h1⟩ | ⟨53, _, h1⟩ => ⟨_, (.cons (.bool _) (.cons (.res h1) .nil)), s113 W a1 h1⟩ | ⟨54, _, h1⟩ => ⟨_, (.cons (.bool _) (.cons (.res h1) .nil)), s114 W a1 h1⟩ | ⟨55, _, h1⟩ => ⟨_, (.cons (.bool _) (.cons (.res h1) .nil)), s115 W a1 h1⟩ | ⟨56, _, h1⟩ => ⟨_, (.cons (.bool _) (.cons (.res h1) .nil)), s116 W a1 h1⟩ | ⟨57, _, h1⟩ => ⟨_, (.cons (.bool _) (.cons (.res h1) .nil)), s117 W a1 h1⟩ | ⟨58, _, h1⟩ => ⟨_, (.cons (.bool _) (.cons (.res h1) .nil)), s118 W a1 h1⟩ | ⟨59, _, h1⟩ => ⟨_, (.cons (.bool _) (.cons (.res h1) .nil)), s119 W a1 h1⟩ | ⟨k + 60, q, _⟩ => absurd q (by omega)))
theorem own : ownKnob Tryz.prog.godebug = none := by kernel_rfl
def laid : List (String × DataW Unit) := [("math/bits.deBruijn32tab", Rows.laid_math_bits_deBruijn32tab), ("math/bits.deBruijn64tab", Rows.laid_math_bits_deBruijn64tab), ("internal/strconv.uint64pow10", Rows.laid_internal_strconv_uint64pow10), ("unicode/utf8.acceptRanges", Rows.laid_unicode_utf8_acceptRanges), ("strconv.ErrRange", Rows.laid_strconv_ErrRange), ("strconv.ErrSyntax", Rows.laid_strconv_ErrSyntax), ("unicode/utf8.first", Rows.laid_unicode_utf8_first)]
theorem calls (a0 : Bool) (a1 : Int) (W : World) (hsh : W.ShapedOpen Tryz.prog) (hl : laidMet Tryz.prog laid W) : Calls Tryz.prog 3 #[.bool a0, .int .i64 a1] W fun e W' => e = .returned (.bool true) ∧ Below W.heap.size W W' := by
  obtain ⟨l, hlr, ht_⟩ := runs W a0 a1
  obtain ⟨σ, hσ⟩ := isTrue_done ht_
  have hi : ∀ g ∈ ([2, 3] : List Nat), ∃ te pe, W.cell? ⟨g, 0, none⟩ = some (.iface te pe) := by
    intro g hg
    simp only [List.mem_cons, List.mem_nil_iff, or_false] at hg
    rcases hg with rfl | rfl
    · exact evOrc.sent2 hl.tail.tail.tail.tail.tail
    · exact evOrc.sent3 hl.tail.tail.tail.tail
  have ht : ∀ g l, (g, l) ∈ tabs → ∀ i v, l[i]? = some v → ∃ v', W.cell? ⟨g, i, none⟩ = some v' ∧ VR (fun _ => none) v v' := by
    intro g l hm
    simp only [tabs, List.mem_cons, List.mem_nil_iff, or_false, Prod.mk.injEq] at hm
    rcases hm with ⟨rfl, rfl⟩ | ⟨rfl, rfl⟩ | ⟨rfl, rfl⟩
    · exact fun i v h => tab_ok (k := .u8) (zs := [0, 1, 28, 2, 29, 14, 24, 3, 30, 22, 20, 15, 25, 17, 4, 8, 31, 27, 13, 23, 21, 19, 16, 7, 26, 12, 18, 6, 11, 5, 10, 9]) (Lib.tabIs_of_head (g := 6) (t := 494) (e := 5) (n := 32) (by kernel_rfl) (by kernel_rfl) Tryz.underlying494 Tryz.underlying5 (by kernel_rfl) (by kernel_rfl) (show laidMet Tryz.prog (("math/bits.deBruijn32tab", Lib.tabData .u8 [0, 1, 28, 2, 29, 14, 24, 3, 30, 22, 20, 15, 25, 17, 4, 8, 31, 27, 13, 23, 21, 19, 16, 7, 26, 12, 18, 6, 11, 5, 10, 9]) :: _) W from hl)) (by kernel_rfl) i v h
    · exact fun i v h => tab_ok (k := .u8) (zs := [0, 1, 56, 2, 57, 49, 28, 3, 61, 58, 42, 50, 38, 29, 17, 4, 62, 47, 59, 36, 45, 43, 51, 22, 53, 39, 33, 30, 24, 18, 12, 5, 63, 55, 48, 27, 60, 41, 37, 16, 46, 35, 44, 21, 52, 32, 23, 11, 54, 26, 40, 15, 34, 20, 31, 10, 25, 14, 19, 9, 13, 8, 7, 6]) (Lib.tabIs_of_head (g := 7) (t := 495) (e := 5) (n := 64) (by kernel_rfl) (by kernel_rfl) Tryz.underlying495 Tryz.underlying5 (by kernel_rfl) (by kernel_rfl) (show laidMet Tryz.prog (("math/bits.deBruijn64tab", Lib.tabData .u8 [0, 1, 56, 2, 57, 49, 28, 3, 61, 58, 42, 50, 38, 29, 17, 4, 62, 47, 59, 36, 45, 43, 51, 22, 53, 39, 33, 30, 24, 18, 12, 5, 63, 55, 48, 27, 60, 41, 37, 16, 46, 35, 44, 21, 52, 32, 23, 11, 54, 26, 40, 15, 34, 20, 31, 10, 25, 14, 19, 9, 13, 8, 7, 6]) :: _) W from hl.tail)) (by kernel_rfl) i v h
    · exact fun i v h => tab_ok (k := .u64) (zs := [1, 10, 100, 1000, 10000, 100000, 1000000, 10000000, 100000000, 1000000000, 10000000000, 100000000000, 1000000000000, 10000000000000, 100000000000000, 1000000000000000, 10000000000000000, 100000000000000000, 1000000000000000000, 10000000000000000000]) (Lib.tabIs_of_head (g := 1) (t := 455) (e := 329) (n := 20) (by kernel_rfl) (by kernel_rfl) Tryz.underlying455 Tryz.underlying329 (by kernel_rfl) (by kernel_rfl) (show laidMet Tryz.prog (("internal/strconv.uint64pow10", Lib.tabData .u64 [1, 10, 100, 1000, 10000, 100000, 1000000, 10000000, 100000000, 1000000000, 10000000000, 100000000000, 1000000000000, 10000000000000, 100000000000000, 1000000000000000, 10000000000000000, 100000000000000000, 1000000000000000000, 10000000000000000000]) :: _) W from hl.tail.tail)) (by kernel_rfl) i v h
  have hw : WR Tryz.prog (fun _ => none) ⟨Tryz.prog.globals.size, .nil, some (W, ⟨[2, 3], tabs⟩)⟩ W :=
    ⟨fun _ _ h => (by cases h), fun _ _ h => (by cases h), fun _ _ _ _ h => (by cases h), fun i hi => absurd (Tr.get_nil i) hi, fun _ _ _ h => (by cases h), Nat.le_refl _,
      fun W0 L h => (by cases h; exact ⟨⟨hsh, hi, ht⟩, Nat.le_refl _, fun _ _ h => (by cases h), fun _ _ => rfl⟩)⟩
  refine ((runQ_sound (extOk _) (by kernel_rfl) (OrcOk.or (orcTree_ok trok_) (OrcOk.or (orcRes_ok evSmall.any) (OrcOk.or (orcSum_ok evSum.any) (OrcOk.or evBegun.ok evOrc.orcOk)))) 1000000).call 3 _ _ _ _ _ hσ _ #[.bool a0, .int .i64 a1] W hlr hw).mono fun e W' he => ?_
  obtain ⟨m', v', rfl, hv, hp⟩ := he
  cases hv
  exact ⟨rfl, hp.kp.os, hp.kp.tape, hp.kp.output, hp.kp.size, fun k hk => hp.kp.block k hk fun i im h => by cases h⟩
theorem lifted (os : Os) (started : os.Started) (H : Type) (enc : TypeId × Value → H) :
    ReturnsInHanded {} Tryz.checked os 3 .any (fun w args => (Rows.topNegativeSpec.pre enc Tryz.prog Tryz.f3 [] false w args ∧ laidMetH Tryz.prog laid w) ∧ sizedMet enc Tryz.prog Tryz.f3 (OpenSpec.ofChange Rows.topNegativeSpec) false w args)
      (Rows.topNegativeSpec.post enc Tryz.prog Tryz.f3 false true false false) := by
  refine returnsInHanded_of_calls (C := Tryz.checked) own started (by kernel_rfl)
    (ChangeSpec.witness_shaped (enc := enc) (C := Tryz.checked) (os := os) (X := fun w _ => laidMetH Tryz.prog laid w) false (World.laidAll Tryz.prog os laid) #[.bool false, .int .i64 0] 8 (World.laidAll_os _ _ _)
      (World.shaped_of_ZipB (by kernel_rfl) (by kernel_rfl)) (by kernel_rfl) (by kernel_rfl) (by kernel_rfl)
      (by rw [MakeChecks.laidMetH_plain _ _ _ (by kernel_rfl)]; exact laidMet_laidAll _ (by kernel_rfl) (by kernel_rfl))) ?_
  intro w tape i _ hsh _ hok hpre _
  obtain ⟨_, _, _, fn', hfn', _, _, _, _, hval0⟩ := hok
  obtain rfl : fn' = Tryz.f3 := Option.some.inj (hfn'.symm.trans Tryz.func3)
  obtain ⟨⟨⟨ds, gs, before, hw0, _⟩, hx⟩, _⟩ := hpre
  have hW := DataW.Whole.of_heap (w' := w.forCall tape i) (by rfl) hw0
  have hX : laidMetH Tryz.prog laid (w.forCall tape i) := hx.of_heap (show (w.forCall tape i).memory.heap = (w.forCall tape i).heap from rfl)
  rw [MakeChecks.laidMetH_plain _ _ _ (by kernel_rfl)] at hX
  have hval : ∀ (j : Nat) t v, Tryz.f3.params[j]? = some t → i.args[j]? = some v → Value.okWide Tryz.prog (w.forCall tape i) .any w.heap.size t v := hval0
  clear hval0
  generalize w.forCall tape i = W at *
  generalize i.args = args at *
  have hW' := hW
  obtain ⟨p, q, hA0, hV, rfl, hfz, hnd⟩ := hW
  have hA : DataW.TrodAll enc Tryz.prog W 0 (fun _ => true) true Tryz.f3.params.toList args.toList ds p := hA0
  rw [Tryz.params3] at hA hval
  obtain ⟨v0, vs0, d0, ds0, p0, q0, hargs, rfl, rfl, h0, r0⟩ := trodAll_cons hA
  obtain ⟨v1, vs1, d1, ds1, p1, q1, rfl, rfl, rfl, h1, r1⟩ := trodAll_cons r0
  obtain ⟨rfl, rfl, rfl⟩ := trodAll_nil r1
  obtain rfl : args = #[v0, v1] := by cases args; simp_all
  obtain ⟨rfl, rfl⟩ := trodVars_none hV
  obtain ⟨a0, rfl, rfl, rfl⟩ := open_bool Tryz.underlying4 (hval 0 4 v0 rfl rfl) h0
  obtain ⟨a1, rfl, rfl, rfl, w1⟩ := open_int Tryz.underlying3 (hval 1 3 v1 rfl rfl) h1
  refine (calls a0 a1 W hsh hX).mono fun e W' ⟨he, bel⟩ => ?_
  subst he
  exact ChangeSpec.post_blind ⟨_, _, _, [], _, [], hW', trodAll_mk1 (shut_bool Tryz.underlying4 _), (trodAll_cons_mk (shut_bool Tryz.underlying4 _) (trodAll_cons_mk (shut_int Tryz.underlying3 w1) trodAll_mk0)), rfl, bel.frame _, fun h => by cases h⟩
theorem over : Rows.topNegativeRow.holds Tryz.pinned (OpenSpec.ofChange Rows.topNegativeSpec) :=
  OpenClaim.holds_of_wide 3 Tryz.f3 rfl rfl rfl rfl rfl rfl rfl ⟨rfl, rfl, rfl, rfl, rfl⟩ rfl rfl rfl rfl rfl named Tryz.func3 closed inst wrap
    (fun os started H enc _ => lifted os started H enc)
theorem card : Rows.TopNegativeCardSaid :=
  Claim7.holds_tied_plain_at .later [] [.data, .data, .data, .data, .sentinel, .sentinel, .pinned] true (true, "e1b5388b95bf278fc08d8b2ab98a105936bbb6b1813f3816cc9a7b7e705ff32b") true
    over (fun _ h => by cases h) wfText (fun _ h => by cases h) topNegative_row_tie rfl ⟨rfl, rfl⟩ mainIs rfl
    (fun f fn hf hfn => by
      obtain rfl : f = 3 := Option.some.inj ((show Tryz.prog.funcNamed Rows.topNegativeRow.func = some 3 from named).symm.trans hf) |>.symm
      obtain rfl : fn = Tryz.f3 := (Option.some.inj (Tryz.func3.symm.trans hfn)).symm
      exact ⟨looks, fun j t ht => by
        rw [Tryz.params3] at ht
        rcases j with _ | (_ | j)
        · obtain rfl : t = 4 := by simpa using ht.symm
          kernel_rfl
        · obtain rfl : t = 3 := by simpa using ht.symm
          kernel_rfl
        · simp at ht⟩)
    goes
end Go.Proofs.YtaijiiohebcakaaGreatDoor.topNegative
namespace Go.Proofs.YtaijiiohebcakaaGreatDoor
theorem topNegative_holds : Rows.TopNegativeCardSaid := topNegative.card
end Go.Proofs.YtaijiiohebcakaaGreatDoor
