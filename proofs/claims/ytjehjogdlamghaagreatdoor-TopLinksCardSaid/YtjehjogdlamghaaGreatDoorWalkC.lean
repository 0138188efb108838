/-
 Walks of functions of a volume and an index: each call comes to what the model says. Printed by a program of ours.
-/
import Derived.Test.YtjehjogdlamghaaGreatDoorWalkB
set_option linter.all false
set_option maxHeartbeats 4000000
namespace T10
open Go Go.Proofs Pk
theorem w15 {M : Prop} {W : World} {H : Hp} (hH : H.le (hp W)) {cs_r_0 : List Value} (r_0 : Report) (h_r_0 : (RReport) H cs_r_0 r_0) {cs_x_1 : List Value} (x_1 : Reader) (h_x_1 : (RReader) H cs_x_1 x_1) {r : List Piece × Int} (hr : m15 r_0 x_1 = some r) : Calls Tryz.prog 15 [.agg cs_r_0.toArray, .agg cs_x_1.toArray].toArray W (RetK M H W (fun v K => ∃ (ad0 : Option Addr) (cap0 : Nat), v = .tuple [.slice ad0 r.1.length cap0, .int .i64 r.2].toArray ∧ Sl (Flat encPiece) 2 K ad0 cap0 r.1)) := by
 have hh_r_0 := h_r_0
 obtain ⟨ad1, cap2, ad4, cap5, rfl, hl3, hl6⟩ := h_r_0
 have := hl3.len
 have := hl6.len
 have hh_x_1 := h_x_1
 obtain ⟨ad7, cap8, rfl, hl9⟩ := h_x_1
 have := hl9.len
 unfold m15 at hr
 refine enterGM (M := M) Tryz.func15 rfl Tryz.ntmps15 rfl hH ?_
 refine sq (rg (bI (cs := [.slice ad1 r_0.words.length cap2, .slice ad4 r_0.orders.length cap5, .int .i64 r_0.columns]) rfl rfl rfl fun q10 K11 hK12 => (bI (cs := [.int .i64 x_1.year, .slice ad7 x_1.may.length cap8]) rfl rfl rfl fun q13 K14 hK15 => (a1 rfl (a1 rfl (on (sq (rg (ldA G62 Z62 rfl rfl (sS 1 rfl hK12) rfl (ldA G64 Z64 rfl rfl (sS 0 rfl hK15) rfl ?_))))))))))
 obtain ⟨r16, hx17, hr18⟩ := bd_some hr
 refine clK C40 rfl rfl rfl rfl (fun w H hH le => w40 hH r_0 (RReport.mono _ _ _ _ (le.at 2 rfl) hh_r_0) x_1 (RReader.mono _ _ _ _ (le.at 2 rfl) hh_x_1) hx17) ?_
 rintro v_ K19 ⟨cs20, rfl, hr21⟩
 have hr22 := hr21
 obtain ⟨ad23, cap24, ad26, cap27, ad29, cap30, rfl, hl25, hl28, hl31⟩ := hr21
 have := hl25.len
 have := hl28.len
 have := hl31.len
 refine m1 rfl (ex rfl rfl rfl (ex rfl rfl rfl (va (cs := (apV [.slice ad23 r16.1.report.words.length cap24, .slice ad26 r16.1.report.orders.length cap27, .int .i64 r16.1.report.columns, .int .i64 r16.1.reader.year, .slice ad29 r16.1.reader.may.length cap30] (encA60_Bool r16.1.veil))) Tryz.zeroValue130 Z130 rfl rfl rfl rfl rfl rfl rfl rfl fun q32 K33 hK34 => (a1 rfl (on (sq (sq (rg (m1 rfl (neI rfl rfl rfl (on ?_)))))))))))
 refine ci rfl (fun hc38 => ?_) (fun hc38 => ?_)
 ·have hr39 := if_p hc38 hr18
  refine sq (rg (m1 rfl (a1 rfl (a1 rfl (on (rt_ ?_))))))
  cases hr39
  refine rtM (rt0 ?_)
  intro a w hS hA
  refine ret2 hA rfl rfl rfl ?_
  exact ⟨⟨_, _, rfl, (Sl.nil _ _ _ _ _ (by decide))⟩, hS.ext⟩
 ·have hr40 := if_n hc38 hr18
  refine sk (sq (rg (al 1 (cs := [.slice none 0 0]) Tryz.zeroValue56 rfl rfl fun b41 => (on (sq (sq (rg (ldA G130 Z130 rfl rfl (sS 0 rfl hK34) rfl (clT C41 Tryz.func41 rfl Tryz.ntmps41 rfl rfl rfl rfl (sq (rg ?_)))))))))))
  refine bI (cs := (apV [.slice ad23 r16.1.report.words.length cap24, .slice ad26 r16.1.report.orders.length cap27, .int .i64 r16.1.report.columns, .int .i64 r16.1.reader.year, .slice ad29 r16.1.reader.may.length cap30] (encA60_Bool r16.1.veil))) rfl rfl rfl fun q45 K46 hK47 => (a1 rfl (on (sq (rg (fn rfl rfl rfl (a1 rfl (on (rt_ ?_))))))))
  intro a w hS hA
  refine ret1 hA rfl rfl ?_
  refine ⟨_, rfl, fun a hA => ?_⟩
  refine putK rfl hA hS (on (bk (TG.nilRow 8 67 2 ?_)))
  obtain ⟨t831, hx832, hr833⟩ := bd_some hr40
  refine rfO 2 3 C66 Tryz.func66 rfl Tryz.ntmps66 rfl rfl (fun l442 dB443 O445 w => (∃ (ad834 : Option Addr) (cap835 : Nat), St M W H [K46, K33, K19, K14, K11, H] [(2, Own.blk l442 (O445 .ready none)), (3, Own.blk dB443 (.deferred (some []))), (8, Own.list ad834 cap835 67 2 encPiece t831), (1, cel b41 56 [.slice ad834 t831.length cap835])] w)) ?_ ?_
  ·intro l442 dB443 O445 tm444 hT446 hO447
   refine sq (rg (a1 rfl (on (sq (rg (fb 0 U130 rfl rfl rfl rfl Z62 (fb 0 U62 rfl rfl rfl rfl Z59 (ld G59 rfl rfl ((sS 0 rfl hK47).take 1) rfl (lnL U59 rfl rfl (m1 rfl (on ?_)))))))))))
   refine TG.as 8 (z := Own.list none 0 67 2 encPiece ([] : List Piece)) rfl rfl ?_
   obtain ⟨e962, hl963, hr964⟩ := bd_some hx832
   refine jn (fun a w => ∃ (ad965 : Option Addr) (cap966 : Nat), St M W H [K46, K33, K19, K14, K11, H] [(2, Own.blk l442 (O445 .ready none)), (3, Own.blk dB443 (.deferred (some []))), (8, Own.list ad965 cap966 67 2 encPiece e962), (1, cel b41 56 [.slice ad965 e962.length cap966])] w ∧ Has [] 49 a []) ?_ ?_
   ·refine bk ?_
    refine lp hl963 (fun s967 a w => ∃ (ad968 : Option Addr) (cap969 : Nat), St M W H [K46, K33, K19, K14, K11, H] [(2, Own.blk l442 (O445 .ready none)), (3, Own.blk dB443 (.deferred (some []))), (8, Own.list ad968 cap969 67 2 encPiece s967.2.2), (1, cel b41 56 [.slice ad968 s967.2.2.length cap969])] w ∧ Has [] 49 a [(0, .func (.yield l442) #[] #[]), (1, .pointer (some q45)), (3, .int .i64 (s967.1 : Int)), (10, .slice ad23 r16.1.report.words.length cap24), (11, .int .i64 (r16.1.report.words.length : Int)), (12, .int .i64 (s967.2.1 : Int))]) ?_ ?_
    ·intro a w hS hA
     exact ⟨none, 0, hS, hA.cut ⟨rfl, rfl, rfl, rfl, rfl, rfl, tv⟩⟩
    ·rintro j s967 y972 hr970 hz971 a w ⟨ad968, cap969, hS, hA⟩
     refine TG.ap ?_ hS hA
     unfold m15_1 at hr970
     refine sq (rg (ltI rfl rfl rfl (on (sq ?_))))
     refine ci rfl (fun hc976 => ?_) (fun hc976 => ?_)
     ·have hr977 := if_p hc976 hr970
      refine sk (sq ?_)
      obtain ⟨t1031, hx1032, hr1033⟩ := bd_some hr977
      refine jn (fun a w => ∃ (ad1034 : Option Addr) (cap1035 : Nat), St M W H [K46, K33, K19, K14, K11, H] [(2, Own.blk l442 (O445 .ready none)), (3, Own.blk dB443 (.deferred (some []))), (8, Own.list ad1034 cap1035 67 2 encPiece t1031.2), (1, cel b41 56 [.slice ad1034 t1031.2.length cap1035])] w ∧ Has [] 49 a [(0, .func (.yield l442) #[] #[]), (1, .pointer (some q45)), (3, .int .i64 (t1031.1 : Int)), (10, .slice ad23 r16.1.report.words.length cap24), (11, .int .i64 (r16.1.report.words.length : Int)), (12, .int .i64 (s967.2.1 : Int))]) ?_ ?_
      ·refine bk (sq (rg (m1 rfl ?_)))
       obtain ⟨x1036, hx1037, hr1038⟩ := bd_some hx1032
       obtain ⟨p1039, rfl⟩ := hl25.adr hx1037
       obtain ⟨cs1040, hcs1041, hq1042, hr1043⟩ := hl25.at hx1037
       have hr1044 := hr1043
       obtain ⟨ad1045, cap1046, rfl, hl1047⟩ := hr1043
       have := hl1047.len
       refine iaP U59 Z137 rfl rfl rfl rfl (lt_of hx1037) (ldA G137 Z137 rfl rfl (sS 2 rfl hq1042) rfl (al 4 (cs := [.string (bs []), .slice none 0 0]) Tryz.zeroValue137 rfl rfl fun b1048 => (a1 rfl (sto 4 (cs := [.string (bs x1036.text), .slice ad1045 x1036.heads.length cap1046]) Z137 rfl rfl rfl rfl rfl rfl rfl (on (sq (TG.stillC 4 rfl fun K1049 hK1050 => ?_)))))))
       obtain ⟨hk1051, hr1052⟩ := chk_some hr1038
       obtain ⟨hk1053, hr1054⟩ := chk_some hr1052
       refine drG3 11 [10] [(9, 26, .int .i64 (s967.2.1 : Int))] mixed (fun _ _ _ _ _ h => h) (by kernel_rfl) (by kernel_rfl) (by kernel_rfl) rfl (by kernel_rfl) (.cons rfl rfl rfl (fun _ => rfl) (by kernel_rfl) (by kernel_rfl) (fun _ _ => rfl) (mvY rfl) (.nil)) (DC.detA rfl rfl rfl (fun τ a w K hS hA hF => TG.pa hS hA (fb 0 U137 rfl rfl rfl rfl Z9 fin1)) (DC.detA rfl rfl rfl (fun τ a w K hS hA hF => TG.pa hS hA (ld G9 rfl rfl ((sS 1 rfl hK1050).take 1) rfl fin1)) (DC.detA rfl rfl rfl (fun τ a w K hS hA hF => TG.pa hS hA (m1 rfl fin1)) (DC.detA rfl rfl rfl (fun τ a w K hS hA hF => TG.pa hS hA (fb 0 U130 rfl rfl rfl rfl Z62 fin1)) (DC.detA rfl rfl rfl (fun τ a w K hS hA hF => TG.pa hS hA (fb 2 U62 rfl rfl rfl rfl Z3 fin1)) (DC.detA rfl rfl rfl (fun τ a w K hS hA hF => TG.pa hS hA (ld G3 rfl rfl (((sS 2 rfl hK47).drop 2).take 1) rfl fin1)) (DC.detA rfl rfl rfl (fun τ a w K hS hA hF => TG.pa hS hA (quI rfl rfl rfl hk1051 fin1)) (DC.detA rfl rfl rfl (fun τ a w K hS hA hF => TG.pa hS hA (adI rfl rfl rfl hk1053 fin1)) (DC.detA rfl rfl rfl (fun τ a w K hS hA hF => TG.pa hS hA (bu (cs := [.string (bs x1036.text), .int .i64 (((s967.1 : Int) / r16.1.report.columns) + 1)]) T10.B67 rfl rfl rfl fin1)) (DC.pre (.head _) rfl (DC.turn (α := Nat) 0 (fun b1055 => .pointer (some (⟨b1055, 0, none⟩))) (fun _ _ => True) (fun b1055 => [(5, cel b1055 67 [.string (bs []), .int .i64 0]), (2, Own.blk l442 (O445 .ready none)), (3, Own.blk dB443 (.deferred (some []))), (8, Own.list ad968 cap969 67 2 encPiece s967.2.2), (1, cel b41 56 [.slice ad968 s967.2.2.length cap969])]) rfl (fun _ _ _ _ h => h) (by kernel_rfl) rfl rfl (fun a w K hS hA hF => TG.pa hS hA (al 5 (cs := [.string (bs []), .int .i64 0]) Tryz.zeroValue67 rfl rfl fun b1055 => finT (f := fun b1055 => .pointer (some (⟨b1055, 0, none⟩))) (G := fun _ _ => True) (σ1 := fun b1055 => [(5, cel b1055 67 [.string (bs []), .int .i64 0]), (2, Own.blk l442 (O445 .ready none)), (3, Own.blk dB443 (.deferred (some []))), (8, Own.list ad968 cap969 67 2 encPiece s967.2.2), (1, cel b41 56 [.slice ad968 s967.2.2.length cap969])]) b1055 tv)) fun b1055 => ?_)))))))))))
       refine DC.nil fun K1056 hF => ?_
       obtain ⟨_, _⟩ := hF
       refine sto 5 (cs := [.string (bs x1036.text), .int .i64 (((s967.1 : Int) / r16.1.report.columns) + 1)]) Z67 rfl rfl rfl rfl rfl rfl rfl (a1 rfl (on (sq (sq (rg (m1 rfl (fb 5 U130 rfl rfl rfl rfl Z128 ?_)))))))
       obtain ⟨hk1057, hr1058⟩ := chk_some hr1054
       have hj1059 : s967.2.1 < 60 := by omega
       refine iaA U128 Z4 rfl rfl rfl (j := s967.2.1) rfl hj1059 (ld G4 rfl rfl (sS 2 rfl ((hK47.drop 5).arr s967.2.1 (A60_Bool.at (x := r16.1.veil) hj1059))) rfl (on ?_))
       obtain ⟨t1073, hx1074, hr1075⟩ := bd_some hr1058
       refine jn (fun a w => ∃ t1076, t1073 = .inl t1076 ∧ St M W H [K1056, K1049, K46, K33, K19, K14, K11, H] [(5, cel b1055 67 [.string (bs t1076.2), .int .i64 (((s967.1 : Int) / r16.1.report.columns) + 1)]), (2, Own.blk l442 (O445 .ready none)), (3, Own.blk dB443 (.deferred (some []))), (8, Own.list ad968 cap969 67 2 encPiece s967.2.2), (1, cel b41 56 [.slice ad968 s967.2.2.length cap969])] w ∧ Has [] 49 a [(0, .func (.yield l442) #[] #[]), (1, .pointer (some q45)), (3, .int .i64 (s967.1 : Int)), (6, .pointer (some (⟨b1055, 0, none⟩))), (7, .int .i64 t1076.1), (10, .slice (some p1039) r16.1.report.words.length cap24), (11, .int .i64 (r16.1.report.words.length : Int)), (12, .int .i64 (s967.2.1 : Int))]) ?_ ?_
       ·refine cb rfl (fun hc1077 => ?_) (fun hc1077 => ?_)
        ·have hr1078 := if_p hc1077 hx1074
         refine sq (sq ?_)
         obtain ⟨t1085, hx1086, hr1087⟩ := bd_some hr1078
         refine jn (fun a w => St M W H [K1056, K1049, K46, K33, K19, K14, K11, H] [(5, cel b1055 67 [.string (bs x1036.text), .int .i64 (((s967.1 : Int) / r16.1.report.columns) + 1)]), (2, Own.blk l442 (O445 .ready none)), (3, Own.blk dB443 (.deferred (some []))), (8, Own.list ad968 cap969 67 2 encPiece s967.2.2), (1, cel b41 56 [.slice ad968 s967.2.2.length cap969])] w ∧ Has [] 49 a [(0, .func (.yield l442) #[] #[]), (1, .pointer (some q45)), (3, .int .i64 (s967.1 : Int)), (6, .pointer (some (⟨b1055, 0, none⟩))), (10, .slice (some p1039) r16.1.report.words.length cap24), (11, .int .i64 (r16.1.report.words.length : Int)), (12, .int .i64 (s967.2.1 : Int)), (39, .bool t1085)]) ?_ ?_
         ·refine rg (m1 rfl (gtI rfl rfl rfl (m1 rfl ?_)))
          by_cases hb1088 : 0 < (s967.2.1 : Int)
          ·have hr1089 := if_p hb1088 hx1086
           refine gt hb1088 rfl (m1 rfl (gt hb1088 rfl (sbI rfl rfl rfl (by omega) (gt hb1088 rfl (fb 5 U130 rfl rfl rfl rfl Z128 (gt hb1088 rfl ?_))))))
           obtain ⟨hk1090, hr1091⟩ := chk_some hr1089
           have hj1092 : ((s967.2.1 : Int) - 1).toNat < 60 := by omega
           refine iaA U128 Z4 rfl rfl rfl (j := ((s967.2.1 : Int) - 1).toNat) (by omega) hj1092 (gt hb1088 rfl (ld G4 rfl rfl (sS 2 rfl ((hK47.drop 5).arr (((s967.2.1 : Int) - 1).toNat) (A60_Bool.at (x := r16.1.veil) hj1092))) rfl (pt hb1088 rfl rfl (on ?_))))
           cases hr1091
           exact cu ⟨rfl, rfl, rfl, rfl, rfl, rfl, rfl, rfl, tv⟩
          ·have hr1093 := if_n hb1088 hx1086
           refine gf hb1088 rfl (gf hb1088 rfl (gf hb1088 rfl (gf hb1088 rfl (gf hb1088 rfl (pf hb1088 rfl rfl (on ?_))))))
           cases hr1093
           exact cu ⟨rfl, rfl, rfl, rfl, rfl, rfl, rfl, rfl, tv⟩
         ·rintro a w ⟨hS, hA⟩
          refine TG.ap ?_ hS hA
          refine cb rfl (fun hc1097 => ?_) (fun hc1097 => ?_)
          ·have hr1098 := if_p hc1097 hr1087
           refine xt rfl ?_
           obtain ⟨z1099, hr1100, rfl⟩ := mp_some hr1098
           cases hr1075
           refine TG.del 5 ?_
           cases hr1100
           intro a w hS hA
           exact ⟨ad968, cap969, hS.selH [2, 3, 4, 5, 6, 7] rfl, hA.cut ⟨rfl, rfl, rfl, rfl, rfl, rfl, tv⟩⟩
          ·have hr1101 := if_f hc1097 hr1087
           refine sk (rg (fb 0 U67 rfl rfl rfl rfl Z9 (sto 5 (cs := [.string (bs [])]) Z9 rfl rfl rfl rfl rfl rfl rfl (a1 rfl (on ?_)))))
           cases hr1101
           intro a w hS hA
           exact ⟨_, rfl, hS, hA.cut ⟨rfl, rfl, rfl, rfl, rfl, rfl, rfl, rfl, tv⟩⟩
        ·have hr1102 := if_f hc1077 hx1074
         refine sk ?_
         cases hr1102
         intro a w hS hA
         exact ⟨_, rfl, hS, hA.cut ⟨rfl, rfl, rfl, rfl, rfl, rfl, rfl, rfl, tv⟩⟩
       ·rintro a w ⟨t1076, rfl, hS, hA⟩
        refine TG.ap ?_ hS hA
        refine sq (sq (rg (m1 rfl (m1 rfl (ldA G67 Z67 rfl rfl (sO 5 rfl) rfl ?_)))))
        obtain ⟨t1111, hx1112, hr1113⟩ := bd_some hr1075
        refine yl 2 [] (L1 := (23, .agg [.string (bs t1076.2), .int .i64 (((s967.1 : Int) / r16.1.report.columns) + 1)].toArray) :: (22, .int .i64 t1076.1) :: _) rfl rfl rfl hT446 hO447 rfl rfl rfl (fun v w => (∃ (ad1114 : Option Addr) (cap1115 : Nat), v = .bool true ∧ St M W H [K1056, K1049, K46, K33, K19, K14, K11, H] [(5, cel b1055 67 [.string (bs t1076.2), .int .i64 (((s967.1 : Int) / r16.1.report.columns) + 1)]), (2, Own.blk l442 (O445 .ready none)), (3, Own.blk dB443 (.deferred (some []))), (8, Own.list ad1114 cap1115 67 2 encPiece t1111), (1, cel b41 56 [.slice ad1114 t1111.length cap1115])] w)) ?_ ?_
        ·refine rg (va (cs := [.string (bs t1076.2), .int .i64 (((s967.1 : Int) / r16.1.report.columns) + 1)]) Tryz.zeroValue67 Z67 rfl rfl rfl rfl rfl rfl rfl rfl fun q1116 K1117 hK1118 => (on (bR 2 hO447 rfl (bk (rg (ld G56 rfl rfl (sO 1 rfl) rfl (ldA G67 Z67 rfl rfl (sS 0 rfl hK1118) rfl ?_)))))))
         obtain ⟨hk1124, hr1125⟩ := chk_some hx1112
         have := lenA s967.2.2 [(⟨t1076.2, (((s967.1 : Int) / r16.1.report.columns) + 1)⟩ : Piece)]
         have := len1 (⟨t1076.2, (((s967.1 : Int) / r16.1.report.columns) + 1)⟩ : Piece)
         refine ap1 8 encPiece (l := s967.2.2) (⟨t1076.2, (((s967.1 : Int) / r16.1.report.columns) + 1)⟩ : Piece) T10.E56 rfl rfl rfl rfl rfl rfl rfl rfl rfl rfl rfl rfl hk1124 fun ad1126 cap1127 u1128 => (sto 1 (cs := [.slice ad1126 ((s967.2.2 ++ [(⟨t1076.2, (((s967.1 : Int) / r16.1.report.columns) + 1)⟩ : Piece)]).length) cap1127]) Z56 rfl rfl rfl rfl rfl rfl rfl (on ?_))
         cases hr1125
         refine eR 2 none hO447 rfl fun w hS => ?_
         exact ⟨ad1126, cap1127, rfl, hS.selH [1, 2, 3, 4, 5, 6, 7, 8] rfl⟩
        ·rintro a w v hA (⟨ad1114, cap1115, rfl, hS⟩)
         refine putK rfl hA hS (nt rfl rfl (on (cF rfl rfl (sk (rg (m1 rfl ?_))))))
         obtain ⟨hk1129, hr1130⟩ := chk_some hr1113
         refine adI rfl rfl rfl hk1129 (a1 rfl (on (TG.del 5 ?_)))
         cases hr1130
         intro a w hS hA
         exact ⟨ad1114, cap1115, hS.selH [2, 3, 4, 5, 6, 7] rfl, hA.cut ⟨rfl, rfl, rfl, rfl, rfl, rfl, tv⟩⟩
      ·rintro a w ⟨ad1034, cap1035, hS, hA⟩
       refine TG.ap ?_ hS hA
       refine rg (adI rfl rfl rfl (by omega) (m1 rfl (on ?_)))
       cases hr1033
       intro a w hS hA
       exact ⟨_, hz971, ad1034, cap1035, hS, hA.cut ⟨rfl, rfl, rfl, rfl, rfl, rfl, tv⟩⟩
     ·have hr1131 := if_n hc976 hr970
      refine xt rfl ?_
      cases hr1131
      obtain rfl := Fin.out hz971
      intro a w hS hA
      exact ⟨ad968, cap969, hS, hA.cut tv⟩
   ·rintro a w ⟨ad965, cap966, hS, hA⟩
    refine TG.ap ?_ hS hA
    cases hr964
    intro a w hS hA
    refine ret0 hA rfl ?_
    exact ⟨_, rfl, ⟨ad965, cap966, hS⟩⟩
  ·rintro l442 dB443 O445 tm444 a w hO447 hA (⟨ad834, cap835, hS⟩)
   refine TG.ap ?_ hS hA
   refine elN 2 hO447 rfl (sq (rg (ld G56 rfl rfl (sO 1 rfl) rfl (a1 rfl (a1 rfl (on (rt_ ?_)))))))
   cases hr833
   refine rtM (rtT 3 rfl (rt0 ?_))
   intro a w hS hA
   refine ret2 hA rfl rfl rfl ?_
   exact ⟨⟨_, _, rfl, (hS.listOut 8 rfl (fun _ => rfl))⟩, hS.ext⟩

theorem w18 {M : Prop} {W : World} {H : Hp} (hH : H.le (hp W)) {cs_r_0 : List Value} (r_0 : Report) (h_r_0 : (RReport) H cs_r_0 r_0) {cs_x_1 : List Value} (x_1 : Reader) (h_x_1 : (RReader) H cs_x_1 x_1) (piece : Int) {r : Int × Int} (hr : m18 r_0 x_1 piece = some r) : Calls Tryz.prog 18 [.agg cs_r_0.toArray, .agg cs_x_1.toArray, .int .i64 piece].toArray W (RetS M W (.tuple [.int .i64 r.1, .int .i64 r.2].toArray)) := by
 have hh_r_0 := h_r_0
 obtain ⟨ad1, cap2, ad4, cap5, rfl, hl3, hl6⟩ := h_r_0
 have := hl3.len
 have := hl6.len
 have hh_x_1 := h_x_1
 obtain ⟨ad7, cap8, rfl, hl9⟩ := h_x_1
 have := hl9.len
 unfold m18 at hr
 refine enterGM (M := M) Tryz.func18 rfl Tryz.ntmps18 rfl hH ?_
 refine sq (rg (bI (cs := [.slice ad1 r_0.words.length cap2, .slice ad4 r_0.orders.length cap5, .int .i64 r_0.columns]) rfl rfl rfl fun q10 K11 hK12 => (bI (cs := [.int .i64 x_1.year, .slice ad7 x_1.may.length cap8]) rfl rfl rfl fun q13 K14 hK15 => (bI (cs := [.int .i64 piece]) rfl rfl rfl fun q16 K17 hK18 => (a1 rfl (a1 rfl (on (sc (sq (rg (ldA G62 Z62 rfl rfl (sS 2 rfl hK12) rfl ?_)))))))))))
 refine ldA G64 Z64 rfl rfl (sS 1 rfl hK15) rfl ?_
 obtain ⟨r19, hx20, hr21⟩ := bd_some hr
 refine clK C40 rfl rfl rfl rfl (fun w H hH le => w40 hH r_0 (RReport.mono _ _ _ _ (le.at 3 rfl) hh_r_0) x_1 (RReader.mono _ _ _ _ (le.at 3 rfl) hh_x_1) hx20) ?_
 rintro v_ K22 ⟨cs23, rfl, hr24⟩
 have hr25 := hr24
 obtain ⟨ad26, cap27, ad29, cap30, ad32, cap33, rfl, hl28, hl31, hl34⟩ := hr24
 have := hl28.len
 have := hl31.len
 have := hl34.len
 refine m1 rfl (ex rfl rfl rfl (ex rfl rfl rfl (va (cs := (apV [.slice ad26 r19.1.report.words.length cap27, .slice ad29 r19.1.report.orders.length cap30, .int .i64 r19.1.report.columns, .int .i64 r19.1.reader.year, .slice ad32 r19.1.reader.may.length cap33] (encA60_Bool r19.1.veil))) Tryz.zeroValue130 Z130 rfl rfl rfl rfl rfl rfl rfl rfl fun q35 K36 hK37 => (a1 rfl (on (sq (sq (rg (m1 rfl (neI rfl rfl rfl (on ?_)))))))))))
 refine ci rfl (fun hc41 => ?_) (fun hc41 => ?_)
 ·have hr42 := if_p hc41 hr21
  refine sq (rg (m1 rfl (a1 rfl (a1 rfl (on (rt_ ?_))))))
  cases hr42
  refine rtM (rt0 ?_)
  intro a w hS hA
  refine ret2 hA rfl rfl rfl ?_
  exact ⟨rfl, hS.ext⟩
 ·have hr43 := if_n hc41 hr21
  refine sk (sq (rg (al 1 (cs := [.int .i64 0]) Tryz.zeroValue3 rfl rfl fun b44 => (al 2 (cs := [.int .i64 0]) Tryz.zeroValue3 rfl rfl fun b45 => (sto 1 (cs := [.int .i64 0]) Z3 rfl rfl rfl rfl rfl rfl rfl (sto 2 (cs := [.int .i64 (-1)]) Z3 rfl rfl rfl rfl rfl rfl rfl (on (sq (lb (sq (sq ?_)))))))))))
  refine rg (ldA G130 Z130 rfl rfl (sS 0 rfl hK37) rfl (clT C41 Tryz.func41 rfl Tryz.ntmps41 rfl rfl rfl rfl (sq (rg (bI (cs := (apV [.slice ad26 r19.1.report.words.length cap27, .slice ad29 r19.1.report.orders.length cap30, .int .i64 r19.1.report.columns, .int .i64 r19.1.reader.year, .slice ad32 r19.1.reader.may.length cap33] (encA60_Bool r19.1.veil))) rfl rfl rfl fun q49 K50 hK51 => (a1 rfl (on (sq (rg (fn rfl rfl rfl (a1 rfl ?_)))))))))))
  refine on (rt_ ?_)
  intro a w hS hA
  refine ret1 hA rfl rfl ?_
  refine ⟨_, rfl, fun a hA => ?_⟩
  refine putK rfl hA hS (on (bk ?_))
  obtain ⟨t287, hx288, hr289⟩ := bd_some hr43
  refine rfO 3 4 C66 Tryz.func66 rfl Tryz.ntmps66 rfl rfl (fun l172 dB173 O175 w => (∃ (t290 : Nat × Int), t287 = (.inl t290) ∧ St M W H [K50, K36, K22, K17, K14, K11, H] [(3, Own.blk l172 (O175 .done (some (.exit 0)))), (4, Own.blk dB173 (.deferred (some []))), (2, cel b45 3 [.int .i64 t290.2]), (1, cel b44 3 [.int .i64 (t290.1 : Int)])] w) ∨ (∃ (t291 : Nat), t287 = (.inr t291) ∧ St M W H [K50, K36, K22, K17, K14, K11, H] [(3, Own.blk l172 (O175 .ready none)), (4, Own.blk dB173 (.deferred (some []))), (2, cel b45 3 [.int .i64 (-1)]), (1, cel b44 3 [.int .i64 (t291 : Int)])] w)) ?_ ?_
  ·intro l172 dB173 O175 tm174 hT176 hO177
   refine sq (rg (a1 rfl (on (sq (rg (fb 0 U130 rfl rfl rfl rfl Z62 (fb 0 U62 rfl rfl rfl rfl Z59 (ld G59 rfl rfl ((sS 0 rfl hK51).take 1) rfl (lnL U59 rfl rfl (m1 rfl (on ?_)))))))))))
   obtain ⟨e400, hl401, hr402⟩ := bd_some hx288
   refine jn (fun a w => ∃ t403, e400 = .inl t403 ∧ St M W H [K50, K36, K22, K17, K14, K11, H] [(3, Own.blk l172 (O175 .ready none)), (4, Own.blk dB173 (.deferred (some []))), (2, cel b45 3 [.int .i64 (-1)]), (1, cel b44 3 [.int .i64 (t403 : Int)])] w ∧ Has [] 49 a []) ?_ ?_
   ·refine bk ?_
    refine lp hl401 (fun s404 a w => St M W H [K50, K36, K22, K17, K14, K11, H] [(3, Own.blk l172 (O175 .ready none)), (4, Own.blk dB173 (.deferred (some []))), (2, cel b45 3 [.int .i64 (-1)]), (1, cel b44 3 [.int .i64 (s404.2.2 : Int)])] w ∧ Has [] 49 a [(0, .func (.yield l172) #[] #[]), (1, .pointer (some q49)), (3, .int .i64 (s404.1 : Int)), (10, .slice ad26 r19.1.report.words.length cap27), (11, .int .i64 (r19.1.report.words.length : Int)), (12, .int .i64 (s404.2.1 : Int))]) ?_ ?_
    ·exact cu ⟨rfl, rfl, rfl, rfl, rfl, rfl, tv⟩
    ·rintro j s404 y407 hr405 hz406 a w ⟨hS, hA⟩
     refine TG.ap ?_ hS hA
     unfold m18_1 at hr405
     refine sq (rg (ltI rfl rfl rfl (on (sq ?_))))
     refine ci rfl (fun hc411 => ?_) (fun hc411 => ?_)
     ·have hr412 := if_p hc411 hr405
      refine sk (sq ?_)
      obtain ⟨t463, hx464, hr465⟩ := bd_some hr412
      refine jn (fun a w => ∃ t466, t463 = .inl t466 ∧ St M W H [K50, K36, K22, K17, K14, K11, H] [(3, Own.blk l172 (O175 .ready none)), (4, Own.blk dB173 (.deferred (some []))), (2, cel b45 3 [.int .i64 (-1)]), (1, cel b44 3 [.int .i64 (t466.2 : Int)])] w ∧ Has [] 49 a [(0, .func (.yield l172) #[] #[]), (1, .pointer (some q49)), (3, .int .i64 (t466.1 : Int)), (10, .slice ad26 r19.1.report.words.length cap27), (11, .int .i64 (r19.1.report.words.length : Int)), (12, .int .i64 (s404.2.1 : Int))]) ?_ ?_
      ·refine bk (sq (rg (m1 rfl ?_)))
       obtain ⟨x467, hx468, hr469⟩ := bd_some hx464
       obtain ⟨p470, rfl⟩ := hl28.adr hx468
       obtain ⟨cs471, hcs472, hq473, hr474⟩ := hl28.at hx468
       have hr475 := hr474
       obtain ⟨ad476, cap477, rfl, hl478⟩ := hr474
       have := hl478.len
       refine iaP U59 Z137 rfl rfl rfl rfl (lt_of hx468) (ldA G137 Z137 rfl rfl (sS 2 rfl hq473) rfl (al 5 (cs := [.string (bs []), .slice none 0 0]) Tryz.zeroValue137 rfl rfl fun b479 => (a1 rfl (sto 5 (cs := [.string (bs x467.text), .slice ad476 x467.heads.length cap477]) Z137 rfl rfl rfl rfl rfl rfl rfl (on (sq (TG.stillC 5 rfl fun K480 hK481 => ?_)))))))
       obtain ⟨hk482, hr483⟩ := chk_some hr469
       obtain ⟨hk484, hr485⟩ := chk_some hr483
       refine drG3 11 [10] [(9, 26, .int .i64 (s404.2.1 : Int))] mixed (fun _ _ _ _ _ h => h) (by kernel_rfl) (by kernel_rfl) (by kernel_rfl) rfl (by kernel_rfl) (.cons rfl rfl rfl (fun _ => rfl) (by kernel_rfl) (by kernel_rfl) (fun _ _ => rfl) (mvY rfl) (.nil)) (DC.detA rfl rfl rfl (fun τ a w K hS hA hF => TG.pa hS hA (fb 0 U137 rfl rfl rfl rfl Z9 fin1)) (DC.detA rfl rfl rfl (fun τ a w K hS hA hF => TG.pa hS hA (ld G9 rfl rfl ((sS 1 rfl hK481).take 1) rfl fin1)) (DC.detA rfl rfl rfl (fun τ a w K hS hA hF => TG.pa hS hA (m1 rfl fin1)) (DC.detA rfl rfl rfl (fun τ a w K hS hA hF => TG.pa hS hA (fb 0 U130 rfl rfl rfl rfl Z62 fin1)) (DC.detA rfl rfl rfl (fun τ a w K hS hA hF => TG.pa hS hA (fb 2 U62 rfl rfl rfl rfl Z3 fin1)) (DC.detA rfl rfl rfl (fun τ a w K hS hA hF => TG.pa hS hA (ld G3 rfl rfl (((sS 2 rfl hK51).drop 2).take 1) rfl fin1)) (DC.detA rfl rfl rfl (fun τ a w K hS hA hF => TG.pa hS hA (quI rfl rfl rfl hk482 fin1)) (DC.detA rfl rfl rfl (fun τ a w K hS hA hF => TG.pa hS hA (adI rfl rfl rfl hk484 fin1)) (DC.detA rfl rfl rfl (fun τ a w K hS hA hF => TG.pa hS hA (bu (cs := [.string (bs x467.text), .int .i64 (((s404.1 : Int) / r19.1.report.columns) + 1)]) T10.B67 rfl rfl rfl fin1)) (DC.pre (.head _) rfl (DC.turn (α := Nat) 0 (fun b486 => .pointer (some (⟨b486, 0, none⟩))) (fun _ _ => True) (fun b486 => [(6, cel b486 67 [.string (bs []), .int .i64 0]), (3, Own.blk l172 (O175 .ready none)), (4, Own.blk dB173 (.deferred (some []))), (2, cel b45 3 [.int .i64 (-1)]), (1, cel b44 3 [.int .i64 (s404.2.2 : Int)])]) rfl (fun _ _ _ _ h => h) (by kernel_rfl) rfl rfl (fun a w K hS hA hF => TG.pa hS hA (al 6 (cs := [.string (bs []), .int .i64 0]) Tryz.zeroValue67 rfl rfl fun b486 => finT (f := fun b486 => .pointer (some (⟨b486, 0, none⟩))) (G := fun _ _ => True) (σ1 := fun b486 => [(6, cel b486 67 [.string (bs []), .int .i64 0]), (3, Own.blk l172 (O175 .ready none)), (4, Own.blk dB173 (.deferred (some []))), (2, cel b45 3 [.int .i64 (-1)]), (1, cel b44 3 [.int .i64 (s404.2.2 : Int)])]) b486 tv)) fun b486 => ?_)))))))))))
       refine DC.nil fun K487 hF => ?_
       obtain ⟨_, _⟩ := hF
       refine sto 6 (cs := [.string (bs x467.text), .int .i64 (((s404.1 : Int) / r19.1.report.columns) + 1)]) Z67 rfl rfl rfl rfl rfl rfl rfl (a1 rfl (on (sq (sq (rg (m1 rfl (fb 5 U130 rfl rfl rfl rfl Z128 ?_)))))))
       obtain ⟨hk488, hr489⟩ := chk_some hr485
       have hj490 : s404.2.1 < 60 := by omega
       refine iaA U128 Z4 rfl rfl rfl (j := s404.2.1) rfl hj490 (ld G4 rfl rfl (sS 2 rfl ((hK51.drop 5).arr s404.2.1 (A60_Bool.at (x := r19.1.veil) hj490))) rfl (on ?_))
       obtain ⟨t504, hx505, hr506⟩ := bd_some hr489
       refine jn (fun a w => ∃ t507, t504 = .inl t507 ∧ St M W H [K487, K480, K50, K36, K22, K17, K14, K11, H] [(6, cel b486 67 [.string (bs t507.2), .int .i64 (((s404.1 : Int) / r19.1.report.columns) + 1)]), (3, Own.blk l172 (O175 .ready none)), (4, Own.blk dB173 (.deferred (some []))), (2, cel b45 3 [.int .i64 (-1)]), (1, cel b44 3 [.int .i64 (s404.2.2 : Int)])] w ∧ Has [] 49 a [(0, .func (.yield l172) #[] #[]), (1, .pointer (some q49)), (3, .int .i64 (s404.1 : Int)), (6, .pointer (some (⟨b486, 0, none⟩))), (7, .int .i64 t507.1), (10, .slice (some p470) r19.1.report.words.length cap27), (11, .int .i64 (r19.1.report.words.length : Int)), (12, .int .i64 (s404.2.1 : Int))]) ?_ ?_
       ·refine cb rfl (fun hc508 => ?_) (fun hc508 => ?_)
        ·have hr509 := if_p hc508 hx505
         refine sq (sq ?_)
         obtain ⟨t516, hx517, hr518⟩ := bd_some hr509
         refine jn (fun a w => St M W H [K487, K480, K50, K36, K22, K17, K14, K11, H] [(6, cel b486 67 [.string (bs x467.text), .int .i64 (((s404.1 : Int) / r19.1.report.columns) + 1)]), (3, Own.blk l172 (O175 .ready none)), (4, Own.blk dB173 (.deferred (some []))), (2, cel b45 3 [.int .i64 (-1)]), (1, cel b44 3 [.int .i64 (s404.2.2 : Int)])] w ∧ Has [] 49 a [(0, .func (.yield l172) #[] #[]), (1, .pointer (some q49)), (3, .int .i64 (s404.1 : Int)), (6, .pointer (some (⟨b486, 0, none⟩))), (10, .slice (some p470) r19.1.report.words.length cap27), (11, .int .i64 (r19.1.report.words.length : Int)), (12, .int .i64 (s404.2.1 : Int)), (39, .bool t516)]) ?_ ?_
         ·refine rg (m1 rfl (gtI rfl rfl rfl (m1 rfl ?_)))
          by_cases hb519 : 0 < (s404.2.1 : Int)
          ·have hr520 := if_p hb519 hx517
           refine gt hb519 rfl (m1 rfl (gt hb519 rfl (sbI rfl rfl rfl (by omega) (gt hb519 rfl (fb 5 U130 rfl rfl rfl rfl Z128 (gt hb519 rfl ?_))))))
           obtain ⟨hk521, hr522⟩ := chk_some hr520
           have hj523 : ((s404.2.1 : Int) - 1).toNat < 60 := by omega
           refine iaA U128 Z4 rfl rfl rfl (j := ((s404.2.1 : Int) - 1).toNat) (by omega) hj523 (gt hb519 rfl (ld G4 rfl rfl (sS 2 rfl ((hK51.drop 5).arr (((s404.2.1 : Int) - 1).toNat) (A60_Bool.at (x := r19.1.veil) hj523))) rfl (pt hb519 rfl rfl (on ?_))))
           cases hr522
           exact cu ⟨rfl, rfl, rfl, rfl, rfl, rfl, rfl, rfl, tv⟩
          ·have hr524 := if_n hb519 hx517
           refine gf hb519 rfl (gf hb519 rfl (gf hb519 rfl (gf hb519 rfl (gf hb519 rfl (pf hb519 rfl rfl (on ?_))))))
           cases hr524
           exact cu ⟨rfl, rfl, rfl, rfl, rfl, rfl, rfl, rfl, tv⟩
         ·rintro a w ⟨hS, hA⟩
          refine TG.ap ?_ hS hA
          refine cb rfl (fun hc528 => ?_) (fun hc528 => ?_)
          ·have hr529 := if_p hc528 hr518
           refine xt rfl ?_
           obtain ⟨z530, hr531, rfl⟩ := mp_some hr529
           cases hr506
           refine TG.del 6 ?_
           cases hr531
           intro a w hS hA
           exact ⟨_, rfl, hS.selH [2, 3, 4, 5, 6, 7, 8] rfl, hA.cut ⟨rfl, rfl, rfl, rfl, rfl, rfl, tv⟩⟩
          ·have hr532 := if_f hc528 hr518
           refine sk (rg (fb 0 U67 rfl rfl rfl rfl Z9 (sto 6 (cs := [.string (bs [])]) Z9 rfl rfl rfl rfl rfl rfl rfl (a1 rfl (on ?_)))))
           cases hr532
           intro a w hS hA
           exact ⟨_, rfl, hS, hA.cut ⟨rfl, rfl, rfl, rfl, rfl, rfl, rfl, rfl, tv⟩⟩
        ·have hr533 := if_f hc508 hx505
         refine sk ?_
         cases hr533
         intro a w hS hA
         exact ⟨_, rfl, hS, hA.cut ⟨rfl, rfl, rfl, rfl, rfl, rfl, rfl, rfl, tv⟩⟩
       ·rintro a w ⟨t507, rfl, hS, hA⟩
        refine TG.ap ?_ hS hA
        refine sq (sq (rg (m1 rfl (m1 rfl (ldA G67 Z67 rfl rfl (sO 6 rfl) rfl ?_)))))
        obtain ⟨t539, hx540, hr541⟩ := bd_some hr506
        refine yl 3 [0] (L1 := (25, .agg [.string (bs t507.2), .int .i64 (((s404.1 : Int) / r19.1.report.columns) + 1)].toArray) :: (24, .int .i64 t507.1) :: _) rfl rfl rfl hT176 hO177 rfl rfl rfl (fun v w => (∃ (t542 : Int), t539 = (.inl t542) ∧ v = .bool false ∧ St M W H [K487, K480, K50, K36, K22, K17, K14, K11, H] [(6, cel b486 67 [.string (bs t507.2), .int .i64 (((s404.1 : Int) / r19.1.report.columns) + 1)]), (3, Own.blk l172 (O175 .done (some (.exit 0)))), (4, Own.blk dB173 (.deferred (some []))), (2, cel b45 3 [.int .i64 t542]), (1, cel b44 3 [.int .i64 (s404.2.2 : Int)])] w) ∨ (∃ (t543 : Nat), t539 = (.inr t543) ∧ v = .bool true ∧ St M W H [K487, K480, K50, K36, K22, K17, K14, K11, H] [(6, cel b486 67 [.string (bs t507.2), .int .i64 (((s404.1 : Int) / r19.1.report.columns) + 1)]), (3, Own.blk l172 (O175 .ready none)), (4, Own.blk dB173 (.deferred (some []))), (2, cel b45 3 [.int .i64 (-1)]), (1, cel b44 3 [.int .i64 (t543 : Int)])] w)) ?_ ?_
        ·refine rg (a1 rfl (on (bR 3 hO177 rfl (bk (sq (sq (rg (ld G3 rfl rfl (sO 1 rfl) rfl (ld G3 rfl rfl (sS 5 rfl hK18) rfl (eqI rfl rfl rfl (on ?_)))))))))))
         refine ci rfl (fun hc552 => ?_) (fun hc552 => ?_)
         ·have hr553 := if_p hc552 hx540
          refine sq (rg (m1 rfl (sto 2 (cs := [.int .i64 t507.1]) Z3 rfl rfl rfl rfl rfl rfl rfl (on (xt rfl ?_)))))
          cases hr553
          refine eR 3 (some (.exit 0)) hO177 rfl fun w hS => ?_
          exact .inl ⟨_, rfl, rfl, hS⟩
         ·have hr554 := if_n hc552 hx540
          refine sk (rg (ld G3 rfl rfl (sO 1 rfl) rfl ?_))
          obtain ⟨hk555, hr556⟩ := chk_some hr554
          refine adI rfl rfl rfl hk555 (sto 1 (cs := [.int .i64 ((s404.2.2 : Int) + 1)]) Z3 rfl rfl rfl rfl rfl rfl rfl (on ?_))
          cases hr556
          refine eR 3 none hO177 rfl fun w hS => ?_
          exact .inr (⟨_, rfl, rfl, hS⟩)
        ·rintro a w v hA (⟨t542, rfl, rfl, hS⟩ | ⟨t543, rfl, rfl, hS⟩)
         ·refine putK rfl hA hS (nt rfl rfl (on (cT rfl rfl (rt_ ?_))))
          cases hr541
          cases hr465
          obtain rfl := Fin.out hz406
          refine TG.del 6 ?_
          cases hr402
          intro a w hS hA
          refine ret0 hA rfl ?_
          exact ⟨_, rfl, .inl ⟨_, rfl, hS.selH [2, 3, 4, 5, 6, 7, 8] rfl⟩⟩
         ·refine putK rfl hA hS (nt rfl rfl (on (cF rfl rfl (sk (rg (m1 rfl ?_))))))
          obtain ⟨hk557, hr558⟩ := chk_some hr541
          refine adI rfl rfl rfl hk557 (a1 rfl (on (TG.del 6 ?_)))
          cases hr558
          intro a w hS hA
          exact ⟨_, rfl, hS.selH [2, 3, 4, 5, 6, 7, 8] rfl, hA.cut ⟨rfl, rfl, rfl, rfl, rfl, rfl, tv⟩⟩
      ·rintro a w ⟨t466, rfl, hS, hA⟩
       refine TG.ap ?_ hS hA
       refine rg (adI rfl rfl rfl (by omega) (m1 rfl (on ?_)))
       cases hr465
       intro a w hS hA
       exact ⟨_, hz406, hS, hA.cut ⟨rfl, rfl, rfl, rfl, rfl, rfl, tv⟩⟩
     ·have hr559 := if_n hc411 hr405
      refine xt rfl ?_
      cases hr559
      obtain rfl := Fin.out hz406
      intro a w hS hA
      exact ⟨_, rfl, hS, hA.cut tv⟩
   ·rintro a w ⟨t403, rfl, hS, hA⟩
    refine TG.ap ?_ hS hA
    cases hr402
    intro a w hS hA
    refine ret0 hA rfl ?_
    exact ⟨_, rfl, .inr (⟨_, rfl, hS⟩)⟩
  ·rintro l172 dB173 O175 tm174 a w hO177 hA (⟨t290, rfl, hS⟩ | ⟨t291, rfl, hS⟩)
   ·refine TG.ap ?_ hS hA
    refine elC 3 hO177 rfl (xt rfl (sq (sq (rg (ld G3 rfl rfl (sO 2 rfl) rfl (eqI rfl rfl rfl (on ?_)))))))
    refine ci rfl (fun hc563 => ?_) (fun hc563 => ?_)
    ·have hr564 := if_p hc563 hr289
     refine sq (rg (a1 rfl (a1 rfl (on (rt_ ?_)))))
     cases hr564
     refine rtM (rtT 4 rfl (rt0 ?_))
     intro a w hS hA
     refine ret2 hA rfl rfl rfl ?_
     exact ⟨rfl, hS.ext⟩
    ·have hr565 := if_n hc563 hr289
     refine sk (sq (rg (ld G3 rfl rfl (sO 2 rfl) rfl (a1 rfl (a1 rfl (on (rt_ ?_)))))))
     cases hr565
     refine rtM (rtT 4 rfl (rt0 ?_))
     intro a w hS hA
     refine ret2 hA rfl rfl rfl ?_
     exact ⟨rfl, hS.ext⟩
   ·refine TG.ap ?_ hS hA
    refine elN 3 hO177 rfl (sq (sq (rg (ld G3 rfl rfl (sO 2 rfl) rfl (eqI rfl rfl rfl (on (cT rfl ((rfl : decide ((-1 : Int) = (-1 : Int)) = true)) (sq (rg (a1 rfl (a1 rfl ?_)))))))))))
    refine on (rt_ ?_)
    cases hr289
    refine rtM (rtT 4 rfl (rt0 ?_))
    intro a w hS hA
    refine ret2 hA rfl rfl rfl ?_
    exact ⟨rfl, hS.ext⟩

theorem w68 {M : Prop} {W : World} {H : Hp} (hH : H.le (hp W)) (hg : Gv M H) (cite : Bytes) {r : cited ⊕ Unit} (hr : m68 cite = some r) : Calls Tryz.prog 68 [.string (bs cite)].toArray W (RetT M W (fun r => .agg (enccited r).toArray) (.iface 187 (.agg [.string (bs cite)].toArray)) r) := by
 unfold m68 at hr
 refine enterG (M := M) Tryz.func68 rfl Tryz.ntmps68 rfl hH ?_
 refine sq (rg (bI (cs := [.string (bs cite)]) rfl rfl rfl fun q1 K2 hK3 => (al 1 (cs := [.int .u8 0, .int .i64 0, .int .i64 0, .int .i64 0]) Tryz.zeroValue141 rfl rfl fun b4 => (on (sq (rg (ld G9 rfl rfl (sS 0 rfl hK3) rfl (al 2 (cs := [.string (bs [])]) Tryz.zeroValue9 rfl rfl fun b5 => (sto 2 (cs := [.string (bs cite)]) Z9 rfl rfl rfl rfl rfl rfl rfl (on (sq ?_)))))))))))
 refine rg (fn rfl rfl rfl (a1 rfl (on (sq (rg (ld G9 rfl rfl (sS 0 rfl hK3) rfl ?_))))))
 obtain ⟨r6, hx7, hr8⟩ := bd_some hr
 refine clS C105 rfl rfl rfl rfl (fun w H hH le => w105 hH (hg.mono (le.at 1 rfl)) cite [118, 111, 108, 46, 32] hx7) (m1 rfl (ex rfl rfl rfl (ex rfl rfl rfl (a1 rfl (a1 rfl (on (sq (bk (sq (rg (m1 rfl ?_)))))))))))
 refine nt rfl rfl (a1 rfl (on ?_))
 obtain ⟨t506, hx507, hr508⟩ := bd_some hr8
 refine jn (fun a w => ∃ t509, t506 = .inl t509 ∧ St M W H [K2, H] [(2, cel b5 9 [.string (bs t509.2.2.2.2)]), (1, cel b4 141 [.int .u8 t509.1, .int .i64 t509.2.1, .int .i64 t509.2.2.1, .int .i64 t509.2.2.2.1])] w ∧ Has [] 58 a [(1, .pointer (some q1)), (2, .pointer (some (⟨b4, 0, none⟩)))]) ?_ ?_
 ·refine cb rfl (fun hc510 => ?_) (fun hc510 => ?_)
  ·replace hc510 := nbt hc510
   have hr511 := if_f hc510 hx507
   refine rg (m1 rfl ?_)
   obtain ⟨t540, hx541, hr542⟩ := bd_some hr511
   refine clIT C102 Tryz.func102 rfl Tryz.ntmps102 rfl rfl rfl rfl (fun v w => (∃ (t543 : Int × Bytes), t540 = (.inl t543) ∧ v = .int .i64 t543.1 ∧ St M W H [K2, H] [(2, cel b5 9 [.string (bs t543.2)]), (1, cel b4 141 [.int .u8 0, .int .i64 0, .int .i64 0, .int .i64 0])] w)) _ (fun _ _ _ hA h => ⟨hA.defers, h⟩) ?_ ?_
   ·refine sq (rg (a1 rfl (on (sq (rg (ld G9 rfl rfl (sO 2 rfl) rfl (a1 rfl (on (sq (sq (rg ?_)))))))))))
    refine m1 rfl (neS rfl rfl rfl (on (cT rfl ((by decide : decide (([64] : Bytes) ≠ []) = true)) (sq (rg (ld G9 rfl rfl (sO 2 rfl) rfl (m1 rfl ?_)))))))
    obtain ⟨r544, hx545, hr546⟩ := bd_some hx541
    refine clS C103 rfl rfl rfl rfl (fun w H hH le => w103 hH (hg.mono (le.at 1 rfl)) cite [64] hx545) (m1 rfl (ex rfl rfl rfl (ex rfl rfl rfl (ex rfl rfl rfl (a1 rfl (a1 rfl (a1 rfl (on (sq (sq (rg ?_)))))))))))
    refine m1 rfl (nt rfl rfl (on ?_))
    refine cb rfl (fun hc550 => ?_) (fun hc550 => ?_)
    ·replace hc550 := nbt hc550
     have hr551 := if_f hc550 hr546
     refine rg (ld G9 rfl rfl (sS 0 rfl hK3) rfl (bu (cs := [.string (bs cite)]) T10.B187 rfl rfl rfl (fi U187 rfl rfl rfl (pnc rfl ?_))))
     cases hr551
     cases hr542
     cases hr508
     intro a w hS hA
     exact ⟨hA.defers, rtT_pan hS.ext⟩
    ·replace hc550 := nbf hc550
     have hr552 := if_p hc550 hr546
     refine sk (rg (m1 rfl (m1 rfl (a1 rfl (sto 2 (cs := [.string (bs r544.2.1)]) Z9 rfl rfl rfl rfl rfl rfl rfl (on (sq (rg (m1 rfl ?_)))))))))
     obtain ⟨r553, hx554, hr555⟩ := bd_some hr552
     refine clK C104 rfl rfl rfl rfl (fun w H hH le => w104 hH (hg.mono (le.at 1 rfl)) r544.1 hx554) ?_
     rintro v_ K556 ⟨er557, rfl, he558⟩
     refine m1 rfl (ex rfl rfl rfl (ex rfl rfl rfl (a1 rfl (a1 rfl (on (sq (sq ?_)))))))
     obtain ⟨t571, hx572, hr573⟩ := bd_some hr555
     refine jn (fun a w => St M W H [K556, K2, H] [(2, cel b5 9 [.string (bs r544.2.1)]), (1, cel b4 141 [.int .u8 0, .int .i64 0, .int .i64 0, .int .i64 0])] w ∧ Has [] 50 a [(2, .pointer (some q1)), (9, .int .i64 r553.1), (45, .bool t571)]) ?_ ?_
     ·refine rg (m1 rfl (neE U177 rfl rfl he558 (m1 rfl ?_)))
      rcases Bool.eq_false_or_eq_true (r553.2) with hb574 | hb574
      ·have hr575 := if_p hb574 hx572
       refine gF rfl rfl (hb574) rfl (gF rfl rfl (hb574) rfl (gF rfl rfl (hb574) rfl (gF rfl rfl (hb574) rfl (pT rfl rfl (hb574) rfl (m1 rfl (gF rfl rfl rfl rfl (gF rfl rfl rfl rfl (gF rfl rfl rfl rfl (pT rfl rfl rfl rfl (on ?_))))))))))
       cases hr575
       exact cu ⟨rfl, rfl, rfl, tv⟩
      ·have hr576 := if_f hb574 hx572
       refine gN rfl rfl (hb574) (m1 rfl (gN rfl rfl (hb574) ?_))
       obtain ⟨r577, hx578, hr579⟩ := bd_some hr576
       refine clS C59 rfl rfl rfl rfl (fun w H hH le => w59 hH (hg.mono (le.at 2 rfl)) r553.1 hx578) (gN rfl rfl (hb574) (m1 rfl (gN rfl rfl (hb574) (neS rfl rfl rfl (pF rfl rfl (hb574) rfl (m1 rfl ?_))))))
       by_cases hb580 : r577 ≠ r544.1
       ·have hr581 := if_p hb580 hr579
        refine gf' hb580 rfl (gf' hb580 rfl (gf' hb580 rfl (pt hb580 rfl rfl (on ?_))))
        cases hr581
        exact cu ⟨rfl, rfl, rfl, tv⟩
       ·have hr582 := if_n hb580 hr579
        refine gt' hb580 rfl (m1 rfl (gt' hb580 rfl ?_))
        obtain ⟨r583, hx584, hr585⟩ := bd_some hr582
        refine clS C44 rfl rfl rfl rfl (fun w H hH le => w44 r553.1 0 999999 hx584) (gt' hb580 rfl (nt rfl rfl (pf hb580 rfl rfl (on ?_))))
        cases hr585
        exact cu ⟨rfl, rfl, rfl, tv⟩
     ·rintro a w ⟨hS, hA⟩
      refine TG.ap ?_ hS hA
      refine cb rfl (fun hc589 => ?_) (fun hc589 => ?_)
      ·have hr590 := if_p hc589 hr573
       refine rg (ld G9 rfl rfl (sS 1 rfl hK3) rfl (bu (cs := [.string (bs cite)]) T10.B187 rfl rfl rfl (fi U187 rfl rfl rfl (pnc rfl ?_))))
       cases hr590
       cases hr542
       cases hr508
       intro a w hS hA
       exact ⟨hA.defers, rtT_pan hS.ext⟩
      ·have hr591 := if_f hc589 hr573
       refine sk (sq (rg (m1 rfl (a1 rfl (on (rt_ ?_))))))
       cases hr591
       intro a w hS hA
       refine ret1 hA rfl rfl ?_
       exact ⟨_, rfl, ⟨_, rfl, rfl, hS.selH [1, 2] rfl⟩⟩
   ·rintro a w v hA (⟨t543, rfl, rfl, hS⟩)
    refine putK rfl hA hS (m1 rfl ?_)
    obtain ⟨t614, hx615, hr616⟩ := bd_some hr542
    refine clIT C102 Tryz.func102 rfl Tryz.ntmps102 rfl rfl rfl rfl (fun v w => (∃ (t617 : Int), t614 = (.inl t617) ∧ v = .int .i64 t617 ∧ St M W H [K2, H] [(2, cel b5 9 [.string (bs t543.2)]), (1, cel b4 141 [.int .u8 0, .int .i64 0, .int .i64 0, .int .i64 0])] w)) _ (fun _ _ _ hA h => ⟨hA.defers, h⟩) ?_ ?_
    ·refine sq (rg (a1 rfl (on (sq (rg (ld G9 rfl rfl (sO 2 rfl) rfl (a1 rfl (on (sq (sq (rg ?_)))))))))))
     refine m1 rfl (neS rfl rfl rfl (on (cF rfl ((by decide : decide (([] : Bytes) ≠ []) = false)) (sk (sq (rg (m1 rfl ?_)))))))
     obtain ⟨r618, hx619, hr620⟩ := bd_some hx615
     refine clK C104 rfl rfl rfl rfl (fun w H hH le => w104 hH (hg.mono (le.at 1 rfl)) t543.2 hx619) ?_
     rintro v_ K621 ⟨er622, rfl, he623⟩
     refine m1 rfl (ex rfl rfl rfl (ex rfl rfl rfl (a1 rfl (a1 rfl (on (sq (sq ?_)))))))
     obtain ⟨t636, hx637, hr638⟩ := bd_some hr620
     refine jn (fun a w => St M W H [K621, K2, H] [(2, cel b5 9 [.string (bs t543.2)]), (1, cel b4 141 [.int .u8 0, .int .i64 0, .int .i64 0, .int .i64 0])] w ∧ Has [] 50 a [(2, .pointer (some q1)), (9, .int .i64 r618.1), (45, .bool t636)]) ?_ ?_
     ·refine rg (m1 rfl (neE U177 rfl rfl he623 (m1 rfl ?_)))
      rcases Bool.eq_false_or_eq_true (r618.2) with hb639 | hb639
      ·have hr640 := if_p hb639 hx637
       refine gF rfl rfl (hb639) rfl (gF rfl rfl (hb639) rfl (gF rfl rfl (hb639) rfl (gF rfl rfl (hb639) rfl (pT rfl rfl (hb639) rfl (m1 rfl (gF rfl rfl rfl rfl (gF rfl rfl rfl rfl (gF rfl rfl rfl rfl (pT rfl rfl rfl rfl (on ?_))))))))))
       cases hr640
       exact cu ⟨rfl, rfl, rfl, tv⟩
      ·have hr641 := if_f hb639 hx637
       refine gN rfl rfl (hb639) (m1 rfl (gN rfl rfl (hb639) ?_))
       obtain ⟨r642, hx643, hr644⟩ := bd_some hr641
       refine clS C59 rfl rfl rfl rfl (fun w H hH le => w59 hH (hg.mono (le.at 2 rfl)) r618.1 hx643) (gN rfl rfl (hb639) (m1 rfl (gN rfl rfl (hb639) (neS rfl rfl rfl (pF rfl rfl (hb639) rfl (m1 rfl ?_))))))
       by_cases hb645 : r642 ≠ t543.2
       ·have hr646 := if_p hb645 hr644
        refine gf' hb645 rfl (gf' hb645 rfl (gf' hb645 rfl (pt hb645 rfl rfl (on ?_))))
        cases hr646
        exact cu ⟨rfl, rfl, rfl, tv⟩
       ·have hr647 := if_n hb645 hr644
        refine gt' hb645 rfl (m1 rfl (gt' hb645 rfl ?_))
        obtain ⟨r648, hx649, hr650⟩ := bd_some hr647
        refine clS C44 rfl rfl rfl rfl (fun w H hH le => w44 r618.1 0 999999 hx649) (gt' hb645 rfl (nt rfl rfl (pf hb645 rfl rfl (on ?_))))
        cases hr650
        exact cu ⟨rfl, rfl, rfl, tv⟩
     ·rintro a w ⟨hS, hA⟩
      refine TG.ap ?_ hS hA
      refine cb rfl (fun hc654 => ?_) (fun hc654 => ?_)
      ·have hr655 := if_p hc654 hr638
       refine rg (ld G9 rfl rfl (sS 1 rfl hK3) rfl (bu (cs := [.string (bs cite)]) T10.B187 rfl rfl rfl (fi U187 rfl rfl rfl (pnc rfl ?_))))
       cases hr655
       cases hr616
       cases hr508
       intro a w hS hA
       exact ⟨hA.defers, rtT_pan hS.ext⟩
      ·have hr656 := if_f hc654 hr638
       refine sk (sq (rg (m1 rfl (a1 rfl (on (rt_ ?_))))))
       cases hr656
       intro a w hS hA
       refine ret1 hA rfl rfl ?_
       exact ⟨_, rfl, ⟨_, rfl, rfl, hS.selH [1, 2] rfl⟩⟩
    ·rintro a w v hA (⟨t617, rfl, rfl, hS⟩)
     refine putK rfl hA hS (buA (cs := [.int .i64 t543.1, .int .i64 t617, .int .i64 0]) T10.B139 rfl rfl rfl (bu (cs := [.int .u8 2, .int .i64 t543.1, .int .i64 t617, .int .i64 0]) T10.B141 rfl rfl rfl (sto 1 (cs := [.int .u8 2, .int .i64 t543.1, .int .i64 t617, .int .i64 0]) Z141 rfl rfl rfl rfl rfl rfl rfl (on ?_))))
     cases hr616
     intro a w hS hA
     exact ⟨_, rfl, hS, hA.cut ⟨rfl, rfl, tv⟩⟩
  ·replace hc510 := nbf hc510
   have hr657 := if_p hc510 hx507
   refine sq (rg (ld G9 rfl rfl (sS 0 rfl hK3) rfl ?_))
   obtain ⟨r658, hx659, hr660⟩ := bd_some hr657
   refine clS C106 rfl rfl rfl rfl (fun w H hH le => w106 hH (hg.mono (le.at 1 rfl)) cite [99, 111, 108, 46, 32] hx659) (a1 rfl (on ?_))
   obtain ⟨t844, hx845, hr846⟩ := bd_some hr660
   refine jn (fun a w => ∃ t847, t844 = .inl t847 ∧ St M W H [K2, H] [(2, cel b5 9 [.string (bs t847.2.2.2.2)]), (1, cel b4 141 [.int .u8 t847.1, .int .i64 t847.2.1, .int .i64 t847.2.2.1, .int .i64 t847.2.2.2.1])] w ∧ Has [] 58 a [(1, .pointer (some q1)), (2, .pointer (some (⟨b4, 0, none⟩)))]) ?_ ?_
   ·refine cb rfl (fun hc848 => ?_) (fun hc848 => ?_)
    ·have hr849 := if_p hc848 hx845
     refine sq (rg (m1 rfl (sto 2 (cs := [.string (bs r6.1)]) Z9 rfl rfl rfl rfl rfl rfl rfl (on (rg (m1 rfl ?_))))))
     obtain ⟨t878, hx879, hr880⟩ := bd_some hr849
     refine clIT C102 Tryz.func102 rfl Tryz.ntmps102 rfl rfl rfl rfl (fun v w => (∃ (t881 : Int × Bytes), t878 = (.inl t881) ∧ v = .int .i64 t881.1 ∧ St M W H [K2, H] [(2, cel b5 9 [.string (bs t881.2)]), (1, cel b4 141 [.int .u8 0, .int .i64 0, .int .i64 0, .int .i64 0])] w)) _ (fun _ _ _ hA h => ⟨hA.defers, h⟩) ?_ ?_
     ·refine sq (rg (a1 rfl (on (sq (rg (ld G9 rfl rfl (sO 2 rfl) rfl (a1 rfl (on (sq (sq (rg ?_)))))))))))
      refine m1 rfl (neS rfl rfl rfl (on (cT rfl ((by decide : decide (([44, 32, 99, 111, 108, 46, 32] : Bytes) ≠ []) = true)) (sq (rg (ld G9 rfl rfl (sO 2 rfl) rfl (m1 rfl ?_)))))))
      obtain ⟨r882, hx883, hr884⟩ := bd_some hx879
      refine clS C103 rfl rfl rfl rfl (fun w H hH le => w103 hH (hg.mono (le.at 1 rfl)) r6.1 [44, 32, 99, 111, 108, 46, 32] hx883) (m1 rfl (ex rfl rfl rfl (ex rfl rfl rfl (ex rfl rfl rfl (a1 rfl (a1 rfl (a1 rfl (on (sq (sq (rg ?_)))))))))))
      refine m1 rfl (nt rfl rfl (on ?_))
      refine cb rfl (fun hc888 => ?_) (fun hc888 => ?_)
      ·replace hc888 := nbt hc888
       have hr889 := if_f hc888 hr884
       refine rg (ld G9 rfl rfl (sS 0 rfl hK3) rfl (bu (cs := [.string (bs cite)]) T10.B187 rfl rfl rfl (fi U187 rfl rfl rfl (pnc rfl ?_))))
       cases hr889
       cases hr880
       cases hr846
       cases hr508
       intro a w hS hA
       exact ⟨hA.defers, rtT_pan hS.ext⟩
      ·replace hc888 := nbf hc888
       have hr890 := if_p hc888 hr884
       refine sk (rg (m1 rfl (m1 rfl (a1 rfl (sto 2 (cs := [.string (bs r882.2.1)]) Z9 rfl rfl rfl rfl rfl rfl rfl (on (sq (rg (m1 rfl ?_)))))))))
       obtain ⟨r891, hx892, hr893⟩ := bd_some hr890
       refine clK C104 rfl rfl rfl rfl (fun w H hH le => w104 hH (hg.mono (le.at 1 rfl)) r882.1 hx892) ?_
       rintro v_ K894 ⟨er895, rfl, he896⟩
       refine m1 rfl (ex rfl rfl rfl (ex rfl rfl rfl (a1 rfl (a1 rfl (on (sq (sq ?_)))))))
       obtain ⟨t909, hx910, hr911⟩ := bd_some hr893
       refine jn (fun a w => St M W H [K894, K2, H] [(2, cel b5 9 [.string (bs r882.2.1)]), (1, cel b4 141 [.int .u8 0, .int .i64 0, .int .i64 0, .int .i64 0])] w ∧ Has [] 50 a [(2, .pointer (some q1)), (9, .int .i64 r891.1), (45, .bool t909)]) ?_ ?_
       ·refine rg (m1 rfl (neE U177 rfl rfl he896 (m1 rfl ?_)))
        rcases Bool.eq_false_or_eq_true (r891.2) with hb912 | hb912
        ·have hr913 := if_p hb912 hx910
         refine gF rfl rfl (hb912) rfl (gF rfl rfl (hb912) rfl (gF rfl rfl (hb912) rfl (gF rfl rfl (hb912) rfl (pT rfl rfl (hb912) rfl (m1 rfl (gF rfl rfl rfl rfl (gF rfl rfl rfl rfl (gF rfl rfl rfl rfl (pT rfl rfl rfl rfl (on ?_))))))))))
         cases hr913
         exact cu ⟨rfl, rfl, rfl, tv⟩
        ·have hr914 := if_f hb912 hx910
         refine gN rfl rfl (hb912) (m1 rfl (gN rfl rfl (hb912) ?_))
         obtain ⟨r915, hx916, hr917⟩ := bd_some hr914
         refine clS C59 rfl rfl rfl rfl (fun w H hH le => w59 hH (hg.mono (le.at 2 rfl)) r891.1 hx916) (gN rfl rfl (hb912) (m1 rfl (gN rfl rfl (hb912) (neS rfl rfl rfl (pF rfl rfl (hb912) rfl (m1 rfl ?_))))))
         by_cases hb918 : r915 ≠ r882.1
         ·have hr919 := if_p hb918 hr917
          refine gf' hb918 rfl (gf' hb918 rfl (gf' hb918 rfl (pt hb918 rfl rfl (on ?_))))
          cases hr919
          exact cu ⟨rfl, rfl, rfl, tv⟩
         ·have hr920 := if_n hb918 hr917
          refine gt' hb918 rfl (m1 rfl (gt' hb918 rfl ?_))
          obtain ⟨r921, hx922, hr923⟩ := bd_some hr920
          refine clS C44 rfl rfl rfl rfl (fun w H hH le => w44 r891.1 0 999999 hx922) (gt' hb918 rfl (nt rfl rfl (pf hb918 rfl rfl (on ?_))))
          cases hr923
          exact cu ⟨rfl, rfl, rfl, tv⟩
       ·rintro a w ⟨hS, hA⟩
        refine TG.ap ?_ hS hA
        refine cb rfl (fun hc927 => ?_) (fun hc927 => ?_)
        ·have hr928 := if_p hc927 hr911
         refine rg (ld G9 rfl rfl (sS 1 rfl hK3) rfl (bu (cs := [.string (bs cite)]) T10.B187 rfl rfl rfl (fi U187 rfl rfl rfl (pnc rfl ?_))))
         cases hr928
         cases hr880
         cases hr846
         cases hr508
         intro a w hS hA
         exact ⟨hA.defers, rtT_pan hS.ext⟩
        ·have hr929 := if_f hc927 hr911
         refine sk (sq (rg (m1 rfl (a1 rfl (on (rt_ ?_))))))
         cases hr929
         intro a w hS hA
         refine ret1 hA rfl rfl ?_
         exact ⟨_, rfl, ⟨_, rfl, rfl, hS.selH [1, 2] rfl⟩⟩
     ·rintro a w v hA (⟨t881, rfl, rfl, hS⟩)
      refine putK rfl hA hS (m1 rfl ?_)
      obtain ⟨t958, hx959, hr960⟩ := bd_some hr880
      refine clIT C102 Tryz.func102 rfl Tryz.ntmps102 rfl rfl rfl rfl (fun v w => (∃ (t961 : Int × Bytes), t958 = (.inl t961) ∧ v = .int .i64 t961.1 ∧ St M W H [K2, H] [(2, cel b5 9 [.string (bs t961.2)]), (1, cel b4 141 [.int .u8 0, .int .i64 0, .int .i64 0, .int .i64 0])] w)) _ (fun _ _ _ hA h => ⟨hA.defers, h⟩) ?_ ?_
      ·refine sq (rg (a1 rfl (on (sq (rg (ld G9 rfl rfl (sO 2 rfl) rfl (a1 rfl (on (sq (sq (rg ?_)))))))))))
       refine m1 rfl (neS rfl rfl rfl (on (cT rfl ((by decide : decide (([44, 32, 108, 46, 32] : Bytes) ≠ []) = true)) (sq (rg (ld G9 rfl rfl (sO 2 rfl) rfl (m1 rfl ?_)))))))
       obtain ⟨r962, hx963, hr964⟩ := bd_some hx959
       refine clS C103 rfl rfl rfl rfl (fun w H hH le => w103 hH (hg.mono (le.at 1 rfl)) t881.2 [44, 32, 108, 46, 32] hx963) (m1 rfl (ex rfl rfl rfl (ex rfl rfl rfl (ex rfl rfl rfl (a1 rfl (a1 rfl (a1 rfl (on (sq (sq (rg ?_)))))))))))
       refine m1 rfl (nt rfl rfl (on ?_))
       refine cb rfl (fun hc968 => ?_) (fun hc968 => ?_)
       ·replace hc968 := nbt hc968
        have hr969 := if_f hc968 hr964
        refine rg (ld G9 rfl rfl (sS 0 rfl hK3) rfl (bu (cs := [.string (bs cite)]) T10.B187 rfl rfl rfl (fi U187 rfl rfl rfl (pnc rfl ?_))))
        cases hr969
        cases hr960
        cases hr846
        cases hr508
        intro a w hS hA
        exact ⟨hA.defers, rtT_pan hS.ext⟩
       ·replace hc968 := nbf hc968
        have hr970 := if_p hc968 hr964
        refine sk (rg (m1 rfl (m1 rfl (a1 rfl (sto 2 (cs := [.string (bs r962.2.1)]) Z9 rfl rfl rfl rfl rfl rfl rfl (on (sq (rg (m1 rfl ?_)))))))))
        obtain ⟨r971, hx972, hr973⟩ := bd_some hr970
        refine clK C104 rfl rfl rfl rfl (fun w H hH le => w104 hH (hg.mono (le.at 1 rfl)) r962.1 hx972) ?_
        rintro v_ K974 ⟨er975, rfl, he976⟩
        refine m1 rfl (ex rfl rfl rfl (ex rfl rfl rfl (a1 rfl (a1 rfl (on (sq (sq ?_)))))))
        obtain ⟨t989, hx990, hr991⟩ := bd_some hr973
        refine jn (fun a w => St M W H [K974, K2, H] [(2, cel b5 9 [.string (bs r962.2.1)]), (1, cel b4 141 [.int .u8 0, .int .i64 0, .int .i64 0, .int .i64 0])] w ∧ Has [] 50 a [(2, .pointer (some q1)), (9, .int .i64 r971.1), (45, .bool t989)]) ?_ ?_
        ·refine rg (m1 rfl (neE U177 rfl rfl he976 (m1 rfl ?_)))
         rcases Bool.eq_false_or_eq_true (r971.2) with hb992 | hb992
         ·have hr993 := if_p hb992 hx990
          refine gF rfl rfl (hb992) rfl (gF rfl rfl (hb992) rfl (gF rfl rfl (hb992) rfl (gF rfl rfl (hb992) rfl (pT rfl rfl (hb992) rfl (m1 rfl (gF rfl rfl rfl rfl (gF rfl rfl rfl rfl (gF rfl rfl rfl rfl (pT rfl rfl rfl rfl (on ?_))))))))))
          cases hr993
          exact cu ⟨rfl, rfl, rfl, tv⟩
         ·have hr994 := if_f hb992 hx990
          refine gN rfl rfl (hb992) (m1 rfl (gN rfl rfl (hb992) ?_))
          obtain ⟨r995, hx996, hr997⟩ := bd_some hr994
          refine clS C59 rfl rfl rfl rfl (fun w H hH le => w59 hH (hg.mono (le.at 2 rfl)) r971.1 hx996) (gN rfl rfl (hb992) (m1 rfl (gN rfl rfl (hb992) (neS rfl rfl rfl (pF rfl rfl (hb992) rfl (m1 rfl ?_))))))
          by_cases hb998 : r995 ≠ r962.1
          ·have hr999 := if_p hb998 hr997
           refine gf' hb998 rfl (gf' hb998 rfl (gf' hb998 rfl (pt hb998 rfl rfl (on ?_))))
           cases hr999
           exact cu ⟨rfl, rfl, rfl, tv⟩
          ·have hr1000 := if_n hb998 hr997
           refine gt' hb998 rfl (m1 rfl (gt' hb998 rfl ?_))
           obtain ⟨r1001, hx1002, hr1003⟩ := bd_some hr1000
           refine clS C44 rfl rfl rfl rfl (fun w H hH le => w44 r971.1 0 999999 hx1002) (gt' hb998 rfl (nt rfl rfl (pf hb998 rfl rfl (on ?_))))
           cases hr1003
           exact cu ⟨rfl, rfl, rfl, tv⟩
        ·rintro a w ⟨hS, hA⟩
         refine TG.ap ?_ hS hA
         refine cb rfl (fun hc1007 => ?_) (fun hc1007 => ?_)
         ·have hr1008 := if_p hc1007 hr991
          refine rg (ld G9 rfl rfl (sS 1 rfl hK3) rfl (bu (cs := [.string (bs cite)]) T10.B187 rfl rfl rfl (fi U187 rfl rfl rfl (pnc rfl ?_))))
          cases hr1008
          cases hr960
          cases hr846
          cases hr508
          intro a w hS hA
          exact ⟨hA.defers, rtT_pan hS.ext⟩
         ·have hr1009 := if_f hc1007 hr991
          refine sk (sq (rg (m1 rfl (a1 rfl (on (rt_ ?_))))))
          cases hr1009
          intro a w hS hA
          refine ret1 hA rfl rfl ?_
          exact ⟨_, rfl, ⟨_, rfl, rfl, hS.selH [1, 2] rfl⟩⟩
      ·rintro a w v hA (⟨t961, rfl, rfl, hS⟩)
       refine putK rfl hA hS (m1 rfl ?_)
       obtain ⟨t1032, hx1033, hr1034⟩ := bd_some hr960
       refine clIT C102 Tryz.func102 rfl Tryz.ntmps102 rfl rfl rfl rfl (fun v w => (∃ (t1035 : Int), t1032 = (.inl t1035) ∧ v = .int .i64 t1035 ∧ St M W H [K2, H] [(2, cel b5 9 [.string (bs t961.2)]), (1, cel b4 141 [.int .u8 0, .int .i64 0, .int .i64 0, .int .i64 0])] w)) _ (fun _ _ _ hA h => ⟨hA.defers, h⟩) ?_ ?_
       ·refine sq (rg (a1 rfl (on (sq (rg (ld G9 rfl rfl (sO 2 rfl) rfl (a1 rfl (on (sq (sq (rg ?_)))))))))))
        refine m1 rfl (neS rfl rfl rfl (on (cF rfl ((by decide : decide (([] : Bytes) ≠ []) = false)) (sk (sq (rg (m1 rfl ?_)))))))
        obtain ⟨r1036, hx1037, hr1038⟩ := bd_some hx1033
        refine clK C104 rfl rfl rfl rfl (fun w H hH le => w104 hH (hg.mono (le.at 1 rfl)) t961.2 hx1037) ?_
        rintro v_ K1039 ⟨er1040, rfl, he1041⟩
        refine m1 rfl (ex rfl rfl rfl (ex rfl rfl rfl (a1 rfl (a1 rfl (on (sq (sq ?_)))))))
        obtain ⟨t1054, hx1055, hr1056⟩ := bd_some hr1038
        refine jn (fun a w => St M W H [K1039, K2, H] [(2, cel b5 9 [.string (bs t961.2)]), (1, cel b4 141 [.int .u8 0, .int .i64 0, .int .i64 0, .int .i64 0])] w ∧ Has [] 50 a [(2, .pointer (some q1)), (9, .int .i64 r1036.1), (45, .bool t1054)]) ?_ ?_
        ·refine rg (m1 rfl (neE U177 rfl rfl he1041 (m1 rfl ?_)))
         rcases Bool.eq_false_or_eq_true (r1036.2) with hb1057 | hb1057
         ·have hr1058 := if_p hb1057 hx1055
          refine gF rfl rfl (hb1057) rfl (gF rfl rfl (hb1057) rfl (gF rfl rfl (hb1057) rfl (gF rfl rfl (hb1057) rfl (pT rfl rfl (hb1057) rfl (m1 rfl (gF rfl rfl rfl rfl (gF rfl rfl rfl rfl (gF rfl rfl rfl rfl (pT rfl rfl rfl rfl (on ?_))))))))))
          cases hr1058
          exact cu ⟨rfl, rfl, rfl, tv⟩
         ·have hr1059 := if_f hb1057 hx1055
          refine gN rfl rfl (hb1057) (m1 rfl (gN rfl rfl (hb1057) ?_))
          obtain ⟨r1060, hx1061, hr1062⟩ := bd_some hr1059
          refine clS C59 rfl rfl rfl rfl (fun w H hH le => w59 hH (hg.mono (le.at 2 rfl)) r1036.1 hx1061) (gN rfl rfl (hb1057) (m1 rfl (gN rfl rfl (hb1057) (neS rfl rfl rfl (pF rfl rfl (hb1057) rfl (m1 rfl ?_))))))
          by_cases hb1063 : r1060 ≠ t961.2
          ·have hr1064 := if_p hb1063 hr1062
           refine gf' hb1063 rfl (gf' hb1063 rfl (gf' hb1063 rfl (pt hb1063 rfl rfl (on ?_))))
           cases hr1064
           exact cu ⟨rfl, rfl, rfl, tv⟩
          ·have hr1065 := if_n hb1063 hr1062
           refine gt' hb1063 rfl (m1 rfl (gt' hb1063 rfl ?_))
           obtain ⟨r1066, hx1067, hr1068⟩ := bd_some hr1065
           refine clS C44 rfl rfl rfl rfl (fun w H hH le => w44 r1036.1 0 999999 hx1067) (gt' hb1063 rfl (nt rfl rfl (pf hb1063 rfl rfl (on ?_))))
           cases hr1068
           exact cu ⟨rfl, rfl, rfl, tv⟩
        ·rintro a w ⟨hS, hA⟩
         refine TG.ap ?_ hS hA
         refine cb rfl (fun hc1072 => ?_) (fun hc1072 => ?_)
         ·have hr1073 := if_p hc1072 hr1056
          refine rg (ld G9 rfl rfl (sS 1 rfl hK3) rfl (bu (cs := [.string (bs cite)]) T10.B187 rfl rfl rfl (fi U187 rfl rfl rfl (pnc rfl ?_))))
          cases hr1073
          cases hr1034
          cases hr846
          cases hr508
          intro a w hS hA
          exact ⟨hA.defers, rtT_pan hS.ext⟩
         ·have hr1074 := if_f hc1072 hr1056
          refine sk (sq (rg (m1 rfl (a1 rfl (on (rt_ ?_))))))
          cases hr1074
          intro a w hS hA
          refine ret1 hA rfl rfl ?_
          exact ⟨_, rfl, ⟨_, rfl, rfl, hS.selH [1, 2] rfl⟩⟩
       ·rintro a w v hA (⟨t1035, rfl, rfl, hS⟩)
        refine putK rfl hA hS (buA (cs := [.int .i64 t881.1, .int .i64 t961.1, .int .i64 t1035]) T10.B139 rfl rfl rfl (bu (cs := [.int .u8 0, .int .i64 t881.1, .int .i64 t961.1, .int .i64 t1035]) T10.B141 rfl rfl rfl (sto 1 (cs := [.int .u8 0, .int .i64 t881.1, .int .i64 t961.1, .int .i64 t1035]) Z141 rfl rfl rfl rfl rfl rfl rfl (on ?_))))
        cases hr1034
        intro a w hS hA
        exact ⟨_, rfl, hS, hA.cut ⟨rfl, rfl, tv⟩⟩
    ·have hr1075 := if_f hc848 hx845
     refine sq (rg (m1 rfl (sto 2 (cs := [.string (bs r6.1)]) Z9 rfl rfl rfl rfl rfl rfl rfl (on (rg (m1 rfl ?_))))))
     obtain ⟨t1104, hx1105, hr1106⟩ := bd_some hr1075
     refine clIT C102 Tryz.func102 rfl Tryz.ntmps102 rfl rfl rfl rfl (fun v w => (∃ (t1107 : Int × Bytes), t1104 = (.inl t1107) ∧ v = .int .i64 t1107.1 ∧ St M W H [K2, H] [(2, cel b5 9 [.string (bs t1107.2)]), (1, cel b4 141 [.int .u8 0, .int .i64 0, .int .i64 0, .int .i64 0])] w)) _ (fun _ _ _ hA h => ⟨hA.defers, h⟩) ?_ ?_
     ·refine sq (rg (a1 rfl (on (sq (rg (ld G9 rfl rfl (sO 2 rfl) rfl (a1 rfl (on (sq (sq (rg ?_)))))))))))
      refine m1 rfl (neS rfl rfl rfl (on (cT rfl ((by decide : decide (([44, 32] : Bytes) ≠ []) = true)) (sq (rg (ld G9 rfl rfl (sO 2 rfl) rfl (m1 rfl ?_)))))))
      obtain ⟨r1108, hx1109, hr1110⟩ := bd_some hx1105
      refine clS C103 rfl rfl rfl rfl (fun w H hH le => w103 hH (hg.mono (le.at 1 rfl)) r6.1 [44, 32] hx1109) (m1 rfl (ex rfl rfl rfl (ex rfl rfl rfl (ex rfl rfl rfl (a1 rfl (a1 rfl (a1 rfl (on (sq (sq (rg ?_)))))))))))
      refine m1 rfl (nt rfl rfl (on ?_))
      refine cb rfl (fun hc1114 => ?_) (fun hc1114 => ?_)
      ·replace hc1114 := nbt hc1114
       have hr1115 := if_f hc1114 hr1110
       refine rg (ld G9 rfl rfl (sS 0 rfl hK3) rfl (bu (cs := [.string (bs cite)]) T10.B187 rfl rfl rfl (fi U187 rfl rfl rfl (pnc rfl ?_))))
       cases hr1115
       cases hr1106
       cases hr846
       cases hr508
       intro a w hS hA
       exact ⟨hA.defers, rtT_pan hS.ext⟩
      ·replace hc1114 := nbf hc1114
       have hr1116 := if_p hc1114 hr1110
       refine sk (rg (m1 rfl (m1 rfl (a1 rfl (sto 2 (cs := [.string (bs r1108.2.1)]) Z9 rfl rfl rfl rfl rfl rfl rfl (on (sq (rg (m1 rfl ?_)))))))))
       obtain ⟨r1117, hx1118, hr1119⟩ := bd_some hr1116
       refine clK C104 rfl rfl rfl rfl (fun w H hH le => w104 hH (hg.mono (le.at 1 rfl)) r1108.1 hx1118) ?_
       rintro v_ K1120 ⟨er1121, rfl, he1122⟩
       refine m1 rfl (ex rfl rfl rfl (ex rfl rfl rfl (a1 rfl (a1 rfl (on (sq (sq ?_)))))))
       obtain ⟨t1135, hx1136, hr1137⟩ := bd_some hr1119
       refine jn (fun a w => St M W H [K1120, K2, H] [(2, cel b5 9 [.string (bs r1108.2.1)]), (1, cel b4 141 [.int .u8 0, .int .i64 0, .int .i64 0, .int .i64 0])] w ∧ Has [] 50 a [(2, .pointer (some q1)), (9, .int .i64 r1117.1), (45, .bool t1135)]) ?_ ?_
       ·refine rg (m1 rfl (neE U177 rfl rfl he1122 (m1 rfl ?_)))
        rcases Bool.eq_false_or_eq_true (r1117.2) with hb1138 | hb1138
        ·have hr1139 := if_p hb1138 hx1136
         refine gF rfl rfl (hb1138) rfl (gF rfl rfl (hb1138) rfl (gF rfl rfl (hb1138) rfl (gF rfl rfl (hb1138) rfl (pT rfl rfl (hb1138) rfl (m1 rfl (gF rfl rfl rfl rfl (gF rfl rfl rfl rfl (gF rfl rfl rfl rfl (pT rfl rfl rfl rfl (on ?_))))))))))
         cases hr1139
         exact cu ⟨rfl, rfl, rfl, tv⟩
        ·have hr1140 := if_f hb1138 hx1136
         refine gN rfl rfl (hb1138) (m1 rfl (gN rfl rfl (hb1138) ?_))
         obtain ⟨r1141, hx1142, hr1143⟩ := bd_some hr1140
         refine clS C59 rfl rfl rfl rfl (fun w H hH le => w59 hH (hg.mono (le.at 2 rfl)) r1117.1 hx1142) (gN rfl rfl (hb1138) (m1 rfl (gN rfl rfl (hb1138) (neS rfl rfl rfl (pF rfl rfl (hb1138) rfl (m1 rfl ?_))))))
         by_cases hb1144 : r1141 ≠ r1108.1
         ·have hr1145 := if_p hb1144 hr1143
          refine gf' hb1144 rfl (gf' hb1144 rfl (gf' hb1144 rfl (pt hb1144 rfl rfl (on ?_))))
          cases hr1145
          exact cu ⟨rfl, rfl, rfl, tv⟩
         ·have hr1146 := if_n hb1144 hr1143
          refine gt' hb1144 rfl (m1 rfl (gt' hb1144 rfl ?_))
          obtain ⟨r1147, hx1148, hr1149⟩ := bd_some hr1146
          refine clS C44 rfl rfl rfl rfl (fun w H hH le => w44 r1117.1 0 999999 hx1148) (gt' hb1144 rfl (nt rfl rfl (pf hb1144 rfl rfl (on ?_))))
          cases hr1149
          exact cu ⟨rfl, rfl, rfl, tv⟩
       ·rintro a w ⟨hS, hA⟩
        refine TG.ap ?_ hS hA
        refine cb rfl (fun hc1153 => ?_) (fun hc1153 => ?_)
        ·have hr1154 := if_p hc1153 hr1137
         refine rg (ld G9 rfl rfl (sS 1 rfl hK3) rfl (bu (cs := [.string (bs cite)]) T10.B187 rfl rfl rfl (fi U187 rfl rfl rfl (pnc rfl ?_))))
         cases hr1154
         cases hr1106
         cases hr846
         cases hr508
         intro a w hS hA
         exact ⟨hA.defers, rtT_pan hS.ext⟩
        ·have hr1155 := if_f hc1153 hr1137
         refine sk (sq (rg (m1 rfl (a1 rfl (on (rt_ ?_))))))
         cases hr1155
         intro a w hS hA
         refine ret1 hA rfl rfl ?_
         exact ⟨_, rfl, ⟨_, rfl, rfl, hS.selH [1, 2] rfl⟩⟩
     ·rintro a w v hA (⟨t1107, rfl, rfl, hS⟩)
      refine putK rfl hA hS (m1 rfl ?_)
      obtain ⟨t1184, hx1185, hr1186⟩ := bd_some hr1106
      refine clIT C102 Tryz.func102 rfl Tryz.ntmps102 rfl rfl rfl rfl (fun v w => (∃ (t1187 : Int × Bytes), t1184 = (.inl t1187) ∧ v = .int .i64 t1187.1 ∧ St M W H [K2, H] [(2, cel b5 9 [.string (bs t1187.2)]), (1, cel b4 141 [.int .u8 0, .int .i64 0, .int .i64 0, .int .i64 0])] w)) _ (fun _ _ _ hA h => ⟨hA.defers, h⟩) ?_ ?_
      ·refine sq (rg (a1 rfl (on (sq (rg (ld G9 rfl rfl (sO 2 rfl) rfl (a1 rfl (on (sq (sq (rg ?_)))))))))))
       refine m1 rfl (neS rfl rfl rfl (on (cT rfl ((by decide : decide (([44, 32, 112, 97, 114, 46, 32] : Bytes) ≠ []) = true)) (sq (rg (ld G9 rfl rfl (sO 2 rfl) rfl (m1 rfl ?_)))))))
       obtain ⟨r1188, hx1189, hr1190⟩ := bd_some hx1185
       refine clS C103 rfl rfl rfl rfl (fun w H hH le => w103 hH (hg.mono (le.at 1 rfl)) t1107.2 [44, 32, 112, 97, 114, 46, 32] hx1189) (m1 rfl (ex rfl rfl rfl (ex rfl rfl rfl (ex rfl rfl rfl (a1 rfl (a1 rfl (a1 rfl (on (sq (sq (rg ?_)))))))))))
       refine m1 rfl (nt rfl rfl (on ?_))
       refine cb rfl (fun hc1194 => ?_) (fun hc1194 => ?_)
       ·replace hc1194 := nbt hc1194
        have hr1195 := if_f hc1194 hr1190
        refine rg (ld G9 rfl rfl (sS 0 rfl hK3) rfl (bu (cs := [.string (bs cite)]) T10.B187 rfl rfl rfl (fi U187 rfl rfl rfl (pnc rfl ?_))))
        cases hr1195
        cases hr1186
        cases hr846
        cases hr508
        intro a w hS hA
        exact ⟨hA.defers, rtT_pan hS.ext⟩
       ·replace hc1194 := nbf hc1194
        have hr1196 := if_p hc1194 hr1190
        refine sk (rg (m1 rfl (m1 rfl (a1 rfl (sto 2 (cs := [.string (bs r1188.2.1)]) Z9 rfl rfl rfl rfl rfl rfl rfl (on (sq (rg (m1 rfl ?_)))))))))
        obtain ⟨r1197, hx1198, hr1199⟩ := bd_some hr1196
        refine clK C104 rfl rfl rfl rfl (fun w H hH le => w104 hH (hg.mono (le.at 1 rfl)) r1188.1 hx1198) ?_
        rintro v_ K1200 ⟨er1201, rfl, he1202⟩
        refine m1 rfl (ex rfl rfl rfl (ex rfl rfl rfl (a1 rfl (a1 rfl (on (sq (sq ?_)))))))
        obtain ⟨t1215, hx1216, hr1217⟩ := bd_some hr1199
        refine jn (fun a w => St M W H [K1200, K2, H] [(2, cel b5 9 [.string (bs r1188.2.1)]), (1, cel b4 141 [.int .u8 0, .int .i64 0, .int .i64 0, .int .i64 0])] w ∧ Has [] 50 a [(2, .pointer (some q1)), (9, .int .i64 r1197.1), (45, .bool t1215)]) ?_ ?_
        ·refine rg (m1 rfl (neE U177 rfl rfl he1202 (m1 rfl ?_)))
         rcases Bool.eq_false_or_eq_true (r1197.2) with hb1218 | hb1218
         ·have hr1219 := if_p hb1218 hx1216
          refine gF rfl rfl (hb1218) rfl (gF rfl rfl (hb1218) rfl (gF rfl rfl (hb1218) rfl (gF rfl rfl (hb1218) rfl (pT rfl rfl (hb1218) rfl (m1 rfl (gF rfl rfl rfl rfl (gF rfl rfl rfl rfl (gF rfl rfl rfl rfl (pT rfl rfl rfl rfl (on ?_))))))))))
          cases hr1219
          exact cu ⟨rfl, rfl, rfl, tv⟩
         ·have hr1220 := if_f hb1218 hx1216
          refine gN rfl rfl (hb1218) (m1 rfl (gN rfl rfl (hb1218) ?_))
          obtain ⟨r1221, hx1222, hr1223⟩ := bd_some hr1220
          refine clS C59 rfl rfl rfl rfl (fun w H hH le => w59 hH (hg.mono (le.at 2 rfl)) r1197.1 hx1222) (gN rfl rfl (hb1218) (m1 rfl (gN rfl rfl (hb1218) (neS rfl rfl rfl (pF rfl rfl (hb1218) rfl (m1 rfl ?_))))))
          by_cases hb1224 : r1221 ≠ r1188.1
          ·have hr1225 := if_p hb1224 hr1223
           refine gf' hb1224 rfl (gf' hb1224 rfl (gf' hb1224 rfl (pt hb1224 rfl rfl (on ?_))))
           cases hr1225
           exact cu ⟨rfl, rfl, rfl, tv⟩
          ·have hr1226 := if_n hb1224 hr1223
           refine gt' hb1224 rfl (m1 rfl (gt' hb1224 rfl ?_))
           obtain ⟨r1227, hx1228, hr1229⟩ := bd_some hr1226
           refine clS C44 rfl rfl rfl rfl (fun w H hH le => w44 r1197.1 0 999999 hx1228) (gt' hb1224 rfl (nt rfl rfl (pf hb1224 rfl rfl (on ?_))))
           cases hr1229
           exact cu ⟨rfl, rfl, rfl, tv⟩
        ·rintro a w ⟨hS, hA⟩
         refine TG.ap ?_ hS hA
         refine cb rfl (fun hc1233 => ?_) (fun hc1233 => ?_)
         ·have hr1234 := if_p hc1233 hr1217
          refine rg (ld G9 rfl rfl (sS 1 rfl hK3) rfl (bu (cs := [.string (bs cite)]) T10.B187 rfl rfl rfl (fi U187 rfl rfl rfl (pnc rfl ?_))))
          cases hr1234
          cases hr1186
          cases hr846
          cases hr508
          intro a w hS hA
          exact ⟨hA.defers, rtT_pan hS.ext⟩
         ·have hr1235 := if_f hc1233 hr1217
          refine sk (sq (rg (m1 rfl (a1 rfl (on (rt_ ?_))))))
          cases hr1235
          intro a w hS hA
          refine ret1 hA rfl rfl ?_
          exact ⟨_, rfl, ⟨_, rfl, rfl, hS.selH [1, 2] rfl⟩⟩
      ·rintro a w v hA (⟨t1187, rfl, rfl, hS⟩)
       refine putK rfl hA hS (m1 rfl ?_)
       obtain ⟨t1258, hx1259, hr1260⟩ := bd_some hr1186
       refine clIT C102 Tryz.func102 rfl Tryz.ntmps102 rfl rfl rfl rfl (fun v w => (∃ (t1261 : Int), t1258 = (.inl t1261) ∧ v = .int .i64 t1261 ∧ St M W H [K2, H] [(2, cel b5 9 [.string (bs t1187.2)]), (1, cel b4 141 [.int .u8 0, .int .i64 0, .int .i64 0, .int .i64 0])] w)) _ (fun _ _ _ hA h => ⟨hA.defers, h⟩) ?_ ?_
       ·refine sq (rg (a1 rfl (on (sq (rg (ld G9 rfl rfl (sO 2 rfl) rfl (a1 rfl (on (sq (sq (rg ?_)))))))))))
        refine m1 rfl (neS rfl rfl rfl (on (cF rfl ((by decide : decide (([] : Bytes) ≠ []) = false)) (sk (sq (rg (m1 rfl ?_)))))))
        obtain ⟨r1262, hx1263, hr1264⟩ := bd_some hx1259
        refine clK C104 rfl rfl rfl rfl (fun w H hH le => w104 hH (hg.mono (le.at 1 rfl)) t1187.2 hx1263) ?_
        rintro v_ K1265 ⟨er1266, rfl, he1267⟩
        refine m1 rfl (ex rfl rfl rfl (ex rfl rfl rfl (a1 rfl (a1 rfl (on (sq (sq ?_)))))))
        obtain ⟨t1280, hx1281, hr1282⟩ := bd_some hr1264
        refine jn (fun a w => St M W H [K1265, K2, H] [(2, cel b5 9 [.string (bs t1187.2)]), (1, cel b4 141 [.int .u8 0, .int .i64 0, .int .i64 0, .int .i64 0])] w ∧ Has [] 50 a [(2, .pointer (some q1)), (9, .int .i64 r1262.1), (45, .bool t1280)]) ?_ ?_
        ·refine rg (m1 rfl (neE U177 rfl rfl he1267 (m1 rfl ?_)))
         rcases Bool.eq_false_or_eq_true (r1262.2) with hb1283 | hb1283
         ·have hr1284 := if_p hb1283 hx1281
          refine gF rfl rfl (hb1283) rfl (gF rfl rfl (hb1283) rfl (gF rfl rfl (hb1283) rfl (gF rfl rfl (hb1283) rfl (pT rfl rfl (hb1283) rfl (m1 rfl (gF rfl rfl rfl rfl (gF rfl rfl rfl rfl (gF rfl rfl rfl rfl (pT rfl rfl rfl rfl (on ?_))))))))))
          cases hr1284
          exact cu ⟨rfl, rfl, rfl, tv⟩
         ·have hr1285 := if_f hb1283 hx1281
          refine gN rfl rfl (hb1283) (m1 rfl (gN rfl rfl (hb1283) ?_))
          obtain ⟨r1286, hx1287, hr1288⟩ := bd_some hr1285
          refine clS C59 rfl rfl rfl rfl (fun w H hH le => w59 hH (hg.mono (le.at 2 rfl)) r1262.1 hx1287) (gN rfl rfl (hb1283) (m1 rfl (gN rfl rfl (hb1283) (neS rfl rfl rfl (pF rfl rfl (hb1283) rfl (m1 rfl ?_))))))
          by_cases hb1289 : r1286 ≠ t1187.2
          ·have hr1290 := if_p hb1289 hr1288
           refine gf' hb1289 rfl (gf' hb1289 rfl (gf' hb1289 rfl (pt hb1289 rfl rfl (on ?_))))
           cases hr1290
           exact cu ⟨rfl, rfl, rfl, tv⟩
          ·have hr1291 := if_n hb1289 hr1288
           refine gt' hb1289 rfl (m1 rfl (gt' hb1289 rfl ?_))
           obtain ⟨r1292, hx1293, hr1294⟩ := bd_some hr1291
           refine clS C44 rfl rfl rfl rfl (fun w H hH le => w44 r1262.1 0 999999 hx1293) (gt' hb1289 rfl (nt rfl rfl (pf hb1289 rfl rfl (on ?_))))
           cases hr1294
           exact cu ⟨rfl, rfl, rfl, tv⟩
        ·rintro a w ⟨hS, hA⟩
         refine TG.ap ?_ hS hA
         refine cb rfl (fun hc1298 => ?_) (fun hc1298 => ?_)
         ·have hr1299 := if_p hc1298 hr1282
          refine rg (ld G9 rfl rfl (sS 1 rfl hK3) rfl (bu (cs := [.string (bs cite)]) T10.B187 rfl rfl rfl (fi U187 rfl rfl rfl (pnc rfl ?_))))
          cases hr1299
          cases hr1260
          cases hr846
          cases hr508
          intro a w hS hA
          exact ⟨hA.defers, rtT_pan hS.ext⟩
         ·have hr1300 := if_f hc1298 hr1282
          refine sk (sq (rg (m1 rfl (a1 rfl (on (rt_ ?_))))))
          cases hr1300
          intro a w hS hA
          refine ret1 hA rfl rfl ?_
          exact ⟨_, rfl, ⟨_, rfl, rfl, hS.selH [1, 2] rfl⟩⟩
       ·rintro a w v hA (⟨t1261, rfl, rfl, hS⟩)
        refine putK rfl hA hS (buA (cs := [.int .i64 t1107.1, .int .i64 t1187.1, .int .i64 t1261]) T10.B139 rfl rfl rfl (bu (cs := [.int .u8 1, .int .i64 t1107.1, .int .i64 t1187.1, .int .i64 t1261]) T10.B141 rfl rfl rfl (sto 1 (cs := [.int .u8 1, .int .i64 t1107.1, .int .i64 t1187.1, .int .i64 t1261]) Z141 rfl rfl rfl rfl rfl rfl rfl (on ?_))))
        cases hr1260
        intro a w hS hA
        exact ⟨_, rfl, hS, hA.cut ⟨rfl, rfl, tv⟩⟩
   ·rintro a w ⟨t847, rfl, hS, hA⟩
    cases hr846
    exact ⟨_, rfl, hS, hA.cut ⟨rfl, rfl, tv⟩⟩
 ·rintro a w ⟨t509, rfl, hS, hA⟩
  refine TG.ap ?_ hS hA
  refine sq (sq ?_)
  obtain ⟨t1307, hx1308, hr1309⟩ := bd_some hr508
  refine jn (fun a w => St M W H [K2, H] [(2, cel b5 9 [.string (bs t509.2.2.2.2)]), (1, cel b4 141 [.int .u8 t509.1, .int .i64 t509.2.1, .int .i64 t509.2.2.1, .int .i64 t509.2.2.2.1])] w ∧ Has [] 58 a [(1, .pointer (some q1)), (2, .pointer (some (⟨b4, 0, none⟩))), (53, .bool t1307)]) ?_ ?_
  ·refine rg (fb 0 U141 rfl rfl rfl rfl Z5 (ld G5 rfl rfl ((sO 1 rfl).take 1) rfl (neI rfl rfl rfl (m1 rfl ?_))))
   by_cases hb1310 : t509.1 ≠ 0
   ·have hr1311 := if_p hb1310 hx1308
    refine gt hb1310 rfl (fb 1 U141 rfl rfl rfl rfl Z139 (gt hb1310 rfl (iaA U139 Z3 rfl rfl rfl (j := 1) rfl (by decide) (gt hb1310 rfl (ld G3 rfl rfl (((sO 1 rfl).drop 2).take 1) rfl (gt hb1310 rfl ?_))))))
    obtain ⟨r1312, hx1313, hr1314⟩ := bd_some hr1311
    refine clS C34 rfl rfl rfl rfl (fun w H hH le => w34 t509.2.2.1 hx1313) (gt hb1310 rfl (nt rfl rfl (pt hb1310 rfl rfl (on ?_))))
    cases hr1314
    exact cu ⟨rfl, rfl, rfl, tv⟩
   ·have hr1315 := if_n hb1310 hx1308
    refine gf hb1310 rfl (gf hb1310 rfl (gf hb1310 rfl (gf hb1310 rfl (gf hb1310 rfl (pf hb1310 rfl rfl (on ?_))))))
    cases hr1315
    exact cu ⟨rfl, rfl, rfl, tv⟩
  ·rintro a w ⟨hS, hA⟩
   refine TG.ap ?_ hS hA
   refine cb rfl (fun hc1319 => ?_) (fun hc1319 => ?_)
   ·have hr1320 := if_p hc1319 hr1309
    refine rg (ld G9 rfl rfl (sS 0 rfl hK3) rfl (bu (cs := [.string (bs cite)]) T10.B187 rfl rfl rfl (fi U187 rfl rfl rfl (pnc rfl ?_))))
    cases hr1320
    intro a w hS hA
    exact ⟨hA.defers, rtT_pan hS.ext⟩
   ·have hr1321 := if_f hc1319 hr1309
    refine sk (sq (rg (ldA G141 Z141 rfl rfl (sO 1 rfl) rfl (sto 1 (cs := [.int .u8 t509.1, .int .i64 t509.2.1, .int .i64 t509.2.2.1, .int .i64 t509.2.2.2.1]) Z141 rfl rfl rfl rfl rfl rfl rfl (on (rt_ ?_))))))
    cases hr1321
    intro a w hS hA
    refine rc1 hA rfl (ResAt.cell rfl (loadsA G141 Z141 (cell_at (hS.get (t := 1) rfl)) rfl)) ?_
    exact rtT_ret rfl hS.ext

theorem w43 {M : Prop} {W : World} {H : Hp} (hH : H.le (hp W)) (hg : Gv M H) (p0_ : Bytes) {r : cited × Bool} (hr : m43 p0_ = some r) : Calls Tryz.prog 43 [.string (bs p0_)].toArray W (RetS M W (.tuple [.agg (enccited r.1).toArray, .bool r.2].toArray)) := by
 obtain ⟨o, h1, rfl⟩ := mp_some hr
 cases o with
 | inl c =>
  refine read43 hH p0_ c fun w K h2 h3 => (w68 h2 (hg.mono h3) p0_ h1).mono fun e w' h => ?_
  obtain ⟨rfl, hE⟩ := h
  exact ⟨rfl, hE⟩
 | inr u => exact readT hH p0_ fun w K h2 h3 => w68 h2 (hg.mono h3) p0_ h1

theorem w19 {M : Prop} {W : World} {H : Hp} (hH : H.le (hp W)) (hg : Gv M H) {cs_v_0 : List Value} (v_0 : Volume) (h_v_0 : (RVolume) H cs_v_0 v_0) {ad_errata : Option Addr} {cap_errata : Nat} {errata : List Erratum} (h_errata : Sl (Flat encErratum) 6 H ad_errata cap_errata errata) (cite : Bytes) {r : Int × Int × Int} (hr : m19 v_0 errata cite = some r) : Calls Tryz.prog 19 [.agg cs_v_0.toArray, .slice ad_errata errata.length cap_errata, .string (bs cite)].toArray W (RetS M W (.tuple [.int .i64 r.1, .int .i64 r.2.1, .int .i64 r.2.2].toArray)) := by
 have hh_v_0 := h_v_0
 obtain ⟨ad1, cap2, rfl, hl3⟩ := h_v_0
 have := hl3.len
 have := h_errata.len
 unfold m19 at hr
 refine enterG (M := M) Tryz.func19 rfl Tryz.ntmps19 rfl hH ?_
 refine sq (rg (bI (cs := [.int .i64 v_0.number, .int .i64 v_0.bound, .int .i64 v_0.height, .int .i64 v_0.width, .slice ad1 v_0.parts.length cap2]) rfl rfl rfl fun q4 K5 hK6 => (a1 rfl (a1 rfl (a1 rfl (on (sq (sq (rg (ldA G42 Z42 rfl rfl (sS 0 rfl hK6) rfl (m1 rfl ?_)))))))))))
 obtain ⟨r7, hx8, hr9⟩ := bd_some hr
 refine clS C33 rfl rfl rfl rfl (fun w H hH le => w33 hH v_0 (RVolume.mono _ _ _ _ (le.at 1 rfl) hh_v_0) (h_errata.mono (Flat.mono _) (le.at 1 rfl)) hx8) (a1 rfl (on (sq (rg (m1 rfl (neI rfl rfl rfl (on ?_)))))))
 refine ci rfl (fun hc13 => ?_) (fun hc13 => ?_)
 ·have hr14 := if_p hc13 hr9
  refine sq (rg (m1 rfl (a1 rfl (a1 rfl (a1 rfl (on (rt_ ?_)))))))
  cases hr14
  intro a w hS hA
  refine ret3 hA rfl rfl rfl rfl ?_
  exact ⟨rfl, hS.ext⟩
 ·have hr15 := if_n hc13 hr9
  refine sk (sq (rg (m1 rfl ?_)))
  obtain ⟨r16, hx17, hr18⟩ := bd_some hr15
  refine clS C43 rfl rfl rfl rfl (fun w H hH le => w43 hH (hg.mono (le.at 1 rfl)) cite hx17) (m1 rfl (ex rfl rfl rfl (ex rfl rfl rfl (va (cs := [.int .u8 r16.1.style, .int .i64 r16.1.numbers.e0, .int .i64 r16.1.numbers.e1, .int .i64 r16.1.numbers.e2]) Tryz.zeroValue141 Z141 rfl rfl rfl rfl rfl rfl rfl rfl fun q19 K20 hK21 => (a1 rfl (on (sq (sq (rg (m1 rfl (nt rfl rfl ?_)))))))))))
  refine on ?_
  refine cb rfl (fun hc25 => ?_) (fun hc25 => ?_)
  ·replace hc25 := nbt hc25
   have hr26 := if_f hc25 hr18
   refine sq (rg (a1 rfl (a1 rfl (a1 rfl (on (rt_ ?_))))))
   cases hr26
   intro a w hS hA
   refine ret3 hA rfl rfl rfl rfl ?_
   exact ⟨rfl, hS.ext⟩
  ·replace hc25 := nbf hc25
   have hr27 := if_p hc25 hr18
   refine sk (sq (rg (fb 1 U141 rfl rfl rfl rfl Z139 (ldA G139 Z139 rfl rfl ((sS 0 rfl hK21).drop 1) rfl (va (cs := [.int .i64 r16.1.numbers.e0, .int .i64 r16.1.numbers.e1, .int .i64 r16.1.numbers.e2]) Tryz.zeroValue139 Z139 rfl rfl rfl rfl rfl rfl rfl rfl fun q28 K29 hK30 => (on (sq (sq (rg (fb 0 U141 rfl rfl rfl rfl Z5 (ld G5 rfl rfl ((sS 1 rfl hK21).take 1) rfl ?_)))))))))))
   refine eqI rfl rfl rfl (on ?_)
   refine ci rfl (fun hc41 => ?_) (fun hc41 => ?_)
   ·have hr42 := if_p hc41 hr27
    refine sq (sq (rg (ldA G42 Z42 rfl rfl (sS 2 rfl hK6) rfl (m1 rfl (iaA U139 Z3 rfl rfl rfl (j := 0) rfl (by decide) (ld G3 rfl rfl ((sS 0 rfl hK30).take 1) rfl (iaA U139 Z3 rfl rfl rfl (j := 1) rfl (by decide) (ld G3 rfl rfl (((sS 0 rfl hK30).drop 1).take 1) rfl ?_))))))))
    obtain ⟨r43, hx44, hr45⟩ := bd_some hr42
    refine clS C37 rfl rfl rfl rfl (fun w H hH le => w37 hH v_0 (RVolume.mono _ _ _ _ (le.at 3 rfl) hh_v_0) (h_errata.mono (Flat.mono _) (le.at 3 rfl)) r16.1.numbers.e0 r16.1.numbers.e1 hx44) (m1 rfl (ex rfl rfl rfl (ex rfl rfl rfl (ex rfl rfl rfl (a1 rfl (a1 rfl (a1 rfl (on (sq (rg (m1 rfl ?_)))))))))))
    refine neI rfl rfl rfl (on ?_)
    refine ci rfl (fun hc49 => ?_) (fun hc49 => ?_)
    ·have hr50 := if_p hc49 hr45
     refine sq (rg (m1 rfl (a1 rfl (a1 rfl (a1 rfl (on (rt_ ?_)))))))
     cases hr50
     intro a w hS hA
     refine ret3 hA rfl rfl rfl rfl ?_
     exact ⟨rfl, hS.ext⟩
    ·have hr51 := if_n hc49 hr45
     refine sk (sq ?_)
     refine TG.cut (L' := [(0, .agg [.int .i64 v_0.number, .int .i64 v_0.bound, .int .i64 v_0.height, .int .i64 v_0.width, .slice ad1 v_0.parts.length cap2].toArray), (1, .slice ad_errata errata.length cap_errata), (2, .string (bs cite)), (3, .pointer (some q4)), (7, .int .i64 0), (8, .int .i64 0), (9, .int .i64 r7), (10, .pointer (some q19)), (11, .bool r16.2), (12, .pointer (some q28)), (13, .string (bs r43.1)), (14, .bool r43.2.1), (15, .int .i64 r43.2.2), (20, .agg [.int .i64 v_0.number, .int .i64 v_0.bound, .int .i64 v_0.height, .int .i64 v_0.width, .slice ad1 v_0.parts.length cap2].toArray), (21, .slice ad_errata errata.length cap_errata), (22, .int .i64 r7), (23, .int .i64 r7), (24, .bool (decide (r7 ≠ 0))), (26, .tuple [.agg (enccited r16.1).toArray, .bool r16.2].toArray), (27, .string (bs cite)), (28, .tuple [.agg (enccited r16.1).toArray, .bool r16.2].toArray), (29, .agg (enccited r16.1).toArray), (30, .bool r16.2), (31, .bool r16.2), (32, .bool (!r16.2)), (33, .pointer (some (q19.add 1))), (34, .agg [.int .i64 r16.1.numbers.e0, .int .i64 r16.1.numbers.e1, .int .i64 r16.1.numbers.e2].toArray), (35, .pointer (some q19)), (36, .int .u8 r16.1.style), (37, .bool (decide (r16.1.style = 2))), (38, .tuple [.string (bs r43.1), .bool r43.2.1, .int .i64 r43.2.2].toArray), (39, .agg [.int .i64 v_0.number, .int .i64 v_0.bound, .int .i64 v_0.height, .int .i64 v_0.width, .slice ad1 v_0.parts.length cap2].toArray), (40, .slice ad_errata errata.length cap_errata), (41, .pointer (some q28)), (42, .int .i64 r16.1.numbers.e0), (43, .pointer (some (q28.add 1))), (44, .int .i64 r16.1.numbers.e1), (45, .tuple [.string (bs r43.1), .bool r43.2.1, .int .i64 r43.2.2].toArray), (46, .string (bs r43.1)), (47, .bool r43.2.1), (48, .int .i64 r43.2.2), (49, .int .i64 r43.2.2), (50, .bool (decide (r43.2.2 ≠ 0)))]) ⟨rfl, rfl, rfl, rfl, rfl, rfl, rfl, rfl, rfl, rfl, rfl, rfl, rfl, rfl, rfl, rfl, rfl, rfl, rfl, rfl, rfl, rfl, rfl, rfl, rfl, rfl, rfl, rfl, rfl, rfl, rfl, rfl, rfl, rfl, rfl, rfl, rfl, rfl, rfl, rfl, rfl, rfl, rfl, tv⟩ ?_
     refine drG 5 mixed (by kernel_rfl) rfl (dt rfl (iaA U139 Z3 rfl rfl rfl (j := 0) rfl (by decide) fin1) (dt rfl (ld G3 rfl rfl ((sS 1 rfl hK30).take 1) rfl fin1) (dt rfl (iaA U139 Z3 rfl rfl rfl (j := 1) rfl (by decide) fin1) (dt rfl (ld G3 rfl rfl (((sS 1 rfl hK30).drop 1).take 1) rfl fin1) (dt rfl (a1 rfl fin1) (DF.nil fun K52 hF => (a1 rfl (a1 rfl (on (rt_ ?_))))))))))
     cases hr51
     intro a w hS hA
     refine ret3 hA rfl rfl rfl rfl ?_
     exact ⟨rfl, hS.ext⟩
   ·have hr53 := if_n hc41 hr27
    refine sk (sq (sq (rg (ldA G42 Z42 rfl rfl (sS 2 rfl hK6) rfl (m1 rfl ?_)))))
    obtain ⟨r54, hx55, hr56⟩ := bd_some hr53
    refine clK C39 rfl rfl rfl rfl (fun w H hH le => w39 hH v_0 (RVolume.mono _ _ _ _ (le.at 3 rfl) hh_v_0) (h_errata.mono (Flat.mono _) (le.at 3 rfl)) hx55) ?_
    rintro v_ K57 ⟨ad58, cap59, rfl, hl60⟩
    have := hl60.len
    refine lnL U121 rfl rfl (m1 rfl (on ?_))
    obtain ⟨e112, hl113, hr114⟩ := bd_some hr56
    refine jn (fun a w => ∃ t115, e112 = .inl t115 ∧ St M W H [K57, K29, K20, K5, H] [] w ∧ Has [] 122 a []) ?_ ?_
    ·refine bk ?_
     refine lp hl113 (fun s116 a w => St M W H [K57, K29, K20, K5, H] [] w ∧ Has [] 122 a [(3, .pointer (some q4)), (10, .pointer (some q19)), (12, .pointer (some q28)), (58, .slice ad58 r54.length cap59), (59, .int .i64 (r54.length : Int)), (60, .int .i64 (s116 : Int))]) ?_ ?_
     ·exact cu ⟨rfl, rfl, rfl, rfl, rfl, rfl, tv⟩
     ·rintro j s116 y119 hr117 hz118 a w ⟨hS, hA⟩
      refine TG.ap ?_ hS hA
      unfold m19_1 at hr117
      refine sq (rg (ltI rfl rfl rfl (on (sq ?_))))
      refine ci rfl (fun hc123 => ?_) (fun hc123 => ?_)
      ·have hr124 := if_p hc123 hr117
       refine sk (sq (bk (sq (rg ?_))))
       obtain ⟨x172, hx173, hr174⟩ := bd_some hr124
       obtain ⟨p175, rfl⟩ := hl60.adr hx173
       obtain ⟨cs176, hcs177, hq178, hr179⟩ := hl60.at hx173
       obtain rfl := hr179
       refine iaP U121 Z124 rfl rfl rfl rfl (lt_of hx173) (ldA G124 Z124 rfl rfl (sS 0 rfl hq178) rfl (va (cs := [.int .i64 x172.place.anchor, .int .i64 x172.place.column, .int .i64 x172.place.line, .int .i64 x172.place.lines, .int .i64 x172.day, .int .i64 x172.number]) Tryz.zeroValue124 Z124 rfl rfl rfl rfl rfl rfl rfl rfl fun q180 K181 hK182 => (on (sq (rg (iaA U139 Z3 rfl rfl rfl (j := 1) rfl (by decide) (ld G3 rfl rfl (((sS 2 rfl hK30).drop 1).take 1) rfl (fb 0 U124 rfl rfl rfl rfl Z81 (fb 1 U81 rfl rfl rfl rfl Z3 (ld G3 rfl rfl (((sS 0 rfl hK182).drop 1).take 1) rfl ?_))))))))))
       obtain ⟨hk183, hr184⟩ := chk_some hr174
       refine sbI rfl rfl rfl hk183 (fb 2 U42 rfl rfl rfl rfl Z3 (ld G3 rfl rfl (((sS 4 rfl hK6).drop 2).take 1) rfl ?_))
       obtain ⟨hk185, hr186⟩ := chk_some hr184
       refine mlI rfl rfl rfl hk185 (iaA U139 Z3 rfl rfl rfl (j := 2) rfl (by decide) (ld G3 rfl rfl ((sS 2 rfl hK30).drop 2) rfl ?_))
       obtain ⟨hk187, hr188⟩ := chk_some hr186
       refine adI rfl rfl rfl hk187 (fb 0 U124 rfl rfl rfl rfl Z81 (fb 2 U81 rfl rfl rfl rfl Z3 (ld G3 rfl rfl (((sS 0 rfl hK182).drop 2).take 1) rfl ?_)))
       obtain ⟨hk189, hr190⟩ := chk_some hr188
       refine sbI rfl rfl rfl hk189 (a1 rfl (on (sq ?_)))
       obtain ⟨t194, hx195, hr196⟩ := bd_some hr190
       refine jn (fun a w => St M W H [K181, K57, K29, K20, K5, H] [] w ∧ Has [] 122 a [(3, .pointer (some q4)), (10, .pointer (some q19)), (12, .pointer (some q28)), (17, .pointer (some q180)), (18, .int .i64 ((((r16.1.numbers.e1 - x172.place.column) * v_0.height) + r16.1.numbers.e2) - x172.place.line)), (19, .bool t194), (58, .slice (some p175) r54.length cap59), (59, .int .i64 (r54.length : Int)), (60, .int .i64 (s116 : Int))]) ?_ ?_
       ·refine rg (fb 4 U124 rfl rfl rfl rfl Z3 (ld G3 rfl rfl (((sS 0 rfl hK182).drop 4).take 1) rfl (iaA U139 Z3 rfl rfl rfl (j := 1) rfl (by decide) (ld G3 rfl rfl (((sS 2 rfl hK30).drop 1).take 1) rfl (eqI rfl rfl rfl (m1 rfl ?_))))))
        by_cases hb197 : x172.day = r16.1.numbers.e1
        ·have hr198 := if_p hb197 hx195
         refine gt hb197 rfl (fb 5 U124 rfl rfl rfl rfl Z3 (gt hb197 rfl (ld G3 rfl rfl ((sS 0 rfl hK182).drop 5) rfl (gt hb197 rfl (iaA U139 Z3 rfl rfl rfl (j := 2) rfl (by decide) (gt hb197 rfl (ld G3 rfl rfl ((sS 2 rfl hK30).drop 2) rfl (gt hb197 rfl (eqI rfl rfl rfl (pt hb197 rfl rfl (a1 rfl ?_)))))))))))
         refine on ?_
         cases hr198
         exact cu ⟨rfl, rfl, rfl, rfl, rfl, rfl, rfl, rfl, rfl, tv⟩
        ·have hr199 := if_n hb197 hx195
         refine gf hb197 rfl (gf hb197 rfl (gf hb197 rfl (gf hb197 rfl (gf hb197 rfl (pf hb197 rfl rfl (a1 rfl (on ?_)))))))
         cases hr199
         exact cu ⟨rfl, rfl, rfl, rfl, rfl, rfl, rfl, rfl, rfl, tv⟩
       ·rintro a w ⟨hS, hA⟩
        refine TG.ap ?_ hS hA
        refine sq (sq (rg (fb 0 U141 rfl rfl rfl rfl Z5 (ld G5 rfl rfl ((sS 3 rfl hK21).take 1) rfl (eqI rfl rfl rfl (on ?_))))))
        obtain ⟨t215, hx216, hr217⟩ := bd_some hr196
        refine jn (fun a w => St M W H [K181, K57, K29, K20, K5, H] [] w ∧ Has [] 122 a [(3, .pointer (some q4)), (10, .pointer (some q19)), (12, .pointer (some q28)), (17, .pointer (some q180)), (19, .bool t215), (58, .slice (some p175) r54.length cap59), (59, .int .i64 (r54.length : Int)), (60, .int .i64 (s116 : Int))]) ?_ ?_
        ·refine ci rfl (fun hc218 => ?_) (fun hc218 => ?_)
         ·have hr219 := if_p hc218 hx216
          obtain ⟨t231, hx232, hr233⟩ := bd_some hr219
          refine jn (fun a w => St M W H [K181, K57, K29, K20, K5, H] [] w ∧ Has [] 122 a [(3, .pointer (some q4)), (10, .pointer (some q19)), (12, .pointer (some q28)), (17, .pointer (some q180)), (19, .bool t231), (58, .slice (some p175) r54.length cap59), (59, .int .i64 (r54.length : Int)), (60, .int .i64 (s116 : Int))]) ?_ ?_
          ·refine rg (iaA U139 Z3 rfl rfl rfl (j := 2) rfl (by decide) (ld G3 rfl rfl ((sS 2 rfl hK30).drop 2) rfl (fb 2 U42 rfl rfl rfl rfl Z3 (ld G3 rfl rfl (((sS 4 rfl hK6).drop 2).take 1) rfl ?_))))
           obtain ⟨r234, hx235, hr236⟩ := bd_some hx232
           refine clS C44 rfl rfl rfl rfl (fun w H hH le => w44 r16.1.numbers.e2 1 v_0.height hx235) (m1 rfl ?_)
           rcases Bool.eq_false_or_eq_true (r234) with hb237 | hb237
           ·have hr238 := if_p hb237 hr236
            refine gN rfl rfl (hb237) (m1 rfl (gN rfl rfl (hb237) (fb 0 U124 rfl rfl rfl rfl Z81 (gN rfl rfl (hb237) (fb 3 U81 rfl rfl rfl rfl Z3 (gN rfl rfl (hb237) (ld G3 rfl rfl (((sS 0 rfl hK182).drop 3).take 1) rfl (gN rfl rfl (hb237) ?_))))))))
            obtain ⟨hk239, hr240⟩ := chk_some hr238
            refine sbI rfl rfl rfl hk239 (gN rfl rfl (hb237) ?_)
            obtain ⟨r241, hx242, hr243⟩ := bd_some hr240
            refine clS C44 rfl rfl rfl rfl (fun w H hH le => w44 ((((r16.1.numbers.e1 - x172.place.column) * v_0.height) + r16.1.numbers.e2) - x172.place.line) 0 (x172.place.lines - 1) hx242) (pT rfl rfl (hb237) rfl (a1 rfl (on ?_)))
            cases hr243
            exact cu ⟨rfl, rfl, rfl, rfl, rfl, rfl, rfl, rfl, tv⟩
           ·have hr244 := if_f hb237 hr236
            refine gF rfl rfl (hb237) rfl (gF rfl rfl (hb237) rfl (gF rfl rfl (hb237) rfl (gF rfl rfl (hb237) rfl (gF rfl rfl (hb237) rfl (gF rfl rfl (hb237) rfl (pF rfl rfl (hb237) rfl (a1 rfl (on ?_))))))))
            cases hr244
            exact cu ⟨rfl, rfl, rfl, rfl, rfl, rfl, rfl, rfl, tv⟩
          ·rintro a w ⟨hS, hA⟩
           refine TG.apJ ?_ hS hA
           cases hr233
           exact cu ⟨rfl, rfl, rfl, rfl, rfl, rfl, rfl, rfl, tv⟩
         ·have hr245 := if_n hc218 hx216
          refine sk ?_
          cases hr245
          exact cu ⟨rfl, rfl, rfl, rfl, rfl, rfl, rfl, rfl, tv⟩
        ·rintro a w ⟨hS, hA⟩
         refine TG.ap ?_ hS hA
         refine sq ?_
         obtain ⟨t249, hx250, hr251⟩ := bd_some hr217
         refine jn (fun a w => St M W H [K181, K57, K29, K20, K5, H] [] w ∧ Has [] 122 a [(3, .pointer (some q4)), (10, .pointer (some q19)), (12, .pointer (some q28)), (17, .pointer (some q180)), (58, .slice (some p175) r54.length cap59), (59, .int .i64 (r54.length : Int)), (60, .int .i64 (s116 : Int)), (115, .bool t249)]) ?_ ?_
         ·refine rg (m1 rfl (m1 rfl ?_))
          rcases Bool.eq_false_or_eq_true (t215) with hb252 | hb252
          ·have hr253 := if_p hb252 hx250
           refine gN rfl rfl (hb252) (iaA U139 Z3 rfl rfl rfl (j := 0) rfl (by decide) (gN rfl rfl (hb252) (ld G3 rfl rfl ((sS 2 rfl hK30).take 1) rfl (gN rfl rfl (hb252) (fb 0 U42 rfl rfl rfl rfl Z3 (gN rfl rfl (hb252) (ld G3 rfl rfl ((sS 4 rfl hK6).take 1) rfl (gN rfl rfl (hb252) (eqI rfl rfl rfl (pT rfl rfl (hb252) rfl (on ?_)))))))))))
           cases hr253
           exact cu ⟨rfl, rfl, rfl, rfl, rfl, rfl, rfl, rfl, tv⟩
          ·have hr254 := if_f hb252 hx250
           refine gF rfl rfl (hb252) rfl (gF rfl rfl (hb252) rfl (gF rfl rfl (hb252) rfl (gF rfl rfl (hb252) rfl (gF rfl rfl (hb252) rfl (pF rfl rfl (hb252) rfl (on ?_))))))
           cases hr254
           exact cu ⟨rfl, rfl, rfl, rfl, rfl, rfl, rfl, rfl, tv⟩
         ·rintro a w ⟨hS, hA⟩
          refine TG.ap ?_ hS hA
          refine cb rfl (fun hc259 => ?_) (fun hc259 => ?_)
          ·have hr260 := if_p hc259 hr251
           refine sq (drG 6 mixed (by kernel_rfl) rfl (dt rfl (fb 0 U124 rfl rfl rfl rfl Z81 fin1) (dt rfl (fb 0 U81 rfl rfl rfl rfl Z3 fin1) (dt rfl (ld G3 rfl rfl ((sS 1 rfl hK182).take 1) rfl fin1) (dt rfl (fb 1 U42 rfl rfl rfl rfl Z3 fin1) (dt rfl (ld G3 rfl rfl (((sS 5 rfl hK6).drop 1).take 1) rfl fin1) (dt rfl (a1 rfl fin1) (DF.nil fun K261 hF => (a1 rfl (a1 rfl (on ?_)))))))))))
           refine rt_ ?_
           cases hr260
           obtain rfl := Fin.out hz118
           cases hr114
           intro a w hS hA
           refine ret3 hA rfl rfl rfl rfl ?_
           exact ⟨rfl, hS.ext⟩
          ·have hr262 := if_f hc259 hr251
           refine sk (rg (adI rfl rfl rfl (by omega) (m1 rfl (on ?_))))
           cases hr262
           intro a w hS hA
           exact ⟨_, hz118, hS.selH [1, 2, 3, 4, 5] rfl, hA.cut ⟨rfl, rfl, rfl, rfl, rfl, rfl, tv⟩⟩
      ·have hr263 := if_n hc123 hr117
       refine xt rfl ?_
       cases hr263
       obtain rfl := Fin.out hz118
       intro a w hS hA
       exact ⟨_, rfl, hS, hA.cut tv⟩
    ·rintro a w ⟨t115, rfl, hS, hA⟩
     refine TG.ap ?_ hS hA
     refine sq (rg (a1 rfl (a1 rfl (a1 rfl (on (rt_ ?_))))))
     cases hr114
     intro a w hS hA
     refine ret3 hA rfl rfl rfl rfl ?_
     exact ⟨rfl, hS.ext⟩

theorem w69 {M : Prop} {W : World} {H : Hp} (hH : H.le (hp W)) {ad_l_0 : Option Addr} {cap_l_0 : Nat} {l_0 : List Int} (h_l_0 : Sl (Flat (encI .i64)) 1 H ad_l_0 cap_l_0 l_0) (n_1 : Int) {r : Bool} (hr : m69 l_0 n_1 = some r) : Calls Tryz.prog 69 [.slice ad_l_0 l_0.length cap_l_0, .int .i64 n_1].toArray W (RetS M W (.bool r)) := by
 have := h_l_0.len
 unfold m69 at hr
 refine enterG (M := M) Tryz.func69 rfl Tryz.ntmps69 rfl hH ?_
 refine sq (rg (a1 rfl (on (sq (sq (rg (a1 rfl (on ?_))))))))
 obtain ⟨e16, hl17, hr18⟩ := bd_some hr
 refine jn (fun a w => ∃ t19, e16 = .inl t19 ∧ St M W H [H] [] w ∧ Has [] 18 a []) ?_ ?_
 ·refine bk ?_
  refine lp hl17 (fun s20 a w => St M W H [H] [] w ∧ Has [] 18 a [(0, .slice ad_l_0 l_0.length cap_l_0), (1, .int .i64 n_1), (5, .int .i64 (s20 : Int))]) ?_ ?_
  ·exact cu ⟨rfl, rfl, rfl, tv⟩
  ·rintro j s20 y23 hr21 hz22 a w ⟨hS, hA⟩
   refine TG.ap ?_ hS hA
   unfold m69_1 at hr21
   refine sq (sq (rg (m1 rfl (m1 rfl (lnL U28 rfl rfl (ltI rfl rfl rfl (on ?_)))))))
   refine ci rfl (fun hc27 => ?_) (fun hc27 => ?_)
   ·have hr28 := if_p hc27 hr21
    refine sk (sq (bk (sq (rg (m1 rfl (m1 rfl ?_))))))
    obtain ⟨x40, hx41, hr42⟩ := bd_some hr28
    obtain ⟨p43, rfl⟩ := h_l_0.adr hx41
    obtain ⟨cs44, hcs45, hq46, hr47⟩ := h_l_0.at hx41
    obtain rfl := hr47
    refine iaP U28 Z3 rfl rfl rfl rfl (lt_of hx41) (ld G3 rfl rfl (sS 0 rfl hq46) rfl (m1 rfl (eqI rfl rfl rfl (on ?_))))
    refine ci rfl (fun hc51 => ?_) (fun hc51 => ?_)
    ·have hr52 := if_p hc51 hr42
     refine sq (rg (a1 rfl (on (rt_ ?_))))
     cases hr52
     obtain rfl := Fin.out hz22
     cases hr18
     intro a w hS hA
     refine ret1 hA rfl rfl ?_
     exact ⟨rfl, hS.ext⟩
    ·have hr53 := if_n hc51 hr42
     refine sk (rg (m1 rfl (adI rfl rfl rfl (by omega) (a1 rfl (on ?_)))))
     cases hr53
     intro a w hS hA
     exact ⟨_, hz22, hS, hA.cut ⟨rfl, rfl, rfl, tv⟩⟩
   ·have hr54 := if_n hc27 hr21
    refine xt rfl ?_
    cases hr54
    obtain rfl := Fin.out hz22
    intro a w hS hA
    exact ⟨_, rfl, hS, hA.cut tv⟩
 ·rintro a w ⟨t19, rfl, hS, hA⟩
  refine TG.ap ?_ hS hA
  refine sq (rg (a1 rfl (on (rt_ ?_))))
  cases hr18
  intro a w hS hA
  refine ret1 hA rfl rfl ?_
  exact ⟨rfl, hS.ext⟩

theorem w45 {M : Prop} {W : World} {H : Hp} (hH : H.le (hp W)) {cs_o_0 : List Value} (o_0 : Order) (h_o_0 : (Flat encOrder) H cs_o_0 o_0) {cs_x_1 : List Value} (x_1 : Reader) (h_x_1 : (RReader) H cs_x_1 x_1) {r : Bool} (hr : m45 o_0 x_1 = some r) : Calls Tryz.prog 45 [.agg cs_o_0.toArray, .agg cs_x_1.toArray].toArray W (RetS M W (.bool r)) := by
 obtain rfl := h_o_0
 have hh_x_1 := h_x_1
 obtain ⟨ad1, cap2, rfl, hl3⟩ := h_x_1
 have := hl3.len
 unfold m45 at hr
 refine enterG (M := M) Tryz.func45 rfl Tryz.ntmps45 rfl hH ?_
 refine sq (rg (bI (cs := [.int .i64 o_0.from_, .int .i64 o_0.to_, .int .i64 o_0.kind, .int .i64 o_0.until_]) rfl rfl rfl fun q4 K5 hK6 => (bI (cs := [.int .i64 x_1.year, .slice ad1 x_1.may.length cap2]) rfl rfl rfl fun q7 K8 hK9 => (a1 rfl (on (sq ?_))))))
 obtain ⟨t16, hx17, hr18⟩ := bd_some hr
 refine jn (fun a w => St M W H [K8, K5, H] [] w ∧ Has [] 18 a [(4, .bool t16)]) ?_ ?_
 ·refine rg (fb 0 U30 rfl rfl rfl rfl Z3 (ld G3 rfl rfl ((sS 0 rfl hK9).take 1) rfl (fb 3 U126 rfl rfl rfl rfl Z3 (ld G3 rfl rfl ((sS 1 rfl hK6).drop 3) rfl (ltI rfl rfl rfl (m1 rfl ?_))))))
  by_cases hb19 : x_1.year < o_0.until_
  ·have hr20 := if_p hb19 hx17
   refine gt hb19 rfl (fb 1 U30 rfl rfl rfl rfl Z28 (gt hb19 rfl (ld G28 rfl rfl ((sS 0 rfl hK9).drop 1) rfl (gt hb19 rfl (fb 2 U126 rfl rfl rfl rfl Z3 (gt hb19 rfl (ld G3 rfl rfl (((sS 1 rfl hK6).drop 2).take 1) rfl (gt hb19 rfl ?_))))))))
   obtain ⟨r21, hx22, hr23⟩ := bd_some hr20
   refine clS C69 rfl rfl rfl rfl (fun w H hH le => w69 hH (hl3.mono (Flat.mono _) (le.at 2 rfl)) o_0.kind hx22) (gt hb19 rfl (nt rfl rfl (pt hb19 rfl rfl (a1 rfl (on ?_)))))
   cases hr23
   exact cu ⟨rfl, tv⟩
  ·have hr24 := if_n hb19 hx17
   refine gf hb19 rfl (gf hb19 rfl (gf hb19 rfl (gf hb19 rfl (gf hb19 rfl (gf hb19 rfl (pf hb19 rfl rfl (a1 rfl (on ?_))))))))
   cases hr24
   exact cu ⟨rfl, tv⟩
 ·rintro a w ⟨hS, hA⟩
  refine TG.ap ?_ hS hA
  refine rt_ ?_
  cases hr18
  intro a w hS hA
  refine ret1 hA rfl rfl ?_
  exact ⟨rfl, hS.ext⟩

theorem w20 {M : Prop} {W : World} {H : Hp} (hH : H.le (hp W)) {cs_r_0 : List Value} (r_0 : Report) (h_r_0 : (RReport) H cs_r_0 r_0) {cs_x_1 : List Value} (x_1 : Reader) (h_x_1 : (RReader) H cs_x_1 x_1) (word : Int) {r : Bool} (hr : m20 r_0 x_1 word = some r) : Calls Tryz.prog 20 [.agg cs_r_0.toArray, .agg cs_x_1.toArray, .int .i64 word].toArray W (RetS M W (.bool r)) := by
 have hh_r_0 := h_r_0
 obtain ⟨ad1, cap2, ad4, cap5, rfl, hl3, hl6⟩ := h_r_0
 have := hl3.len
 have := hl6.len
 have hh_x_1 := h_x_1
 obtain ⟨ad7, cap8, rfl, hl9⟩ := h_x_1
 have := hl9.len
 unfold m20 at hr
 refine enterG (M := M) Tryz.func20 rfl Tryz.ntmps20 rfl hH ?_
 refine sq (rg (bI (cs := [.slice ad1 r_0.words.length cap2, .slice ad4 r_0.orders.length cap5, .int .i64 r_0.columns]) rfl rfl rfl fun q10 K11 hK12 => (bI (cs := [.int .i64 x_1.year, .slice ad7 x_1.may.length cap8]) rfl rfl rfl fun q13 K14 hK15 => (a1 rfl (on (sq (sq (rg (a1 rfl (on ?_))))))))))
 obtain ⟨e45, hl46, hr47⟩ := bd_some hr
 refine jn (fun a w => ∃ t48, e45 = .inl t48 ∧ St M W H [K14, K11, H] [] w ∧ Has [] 39 a []) ?_ ?_
 ·refine bk ?_
  refine lp hl46 (fun s49 a w => St M W H [K14, K11, H] [] w ∧ Has [] 39 a [(2, .int .i64 word), (3, .pointer (some q10)), (4, .pointer (some q13)), (7, .int .i64 (s49 : Int))]) ?_ ?_
  ·exact cu ⟨rfl, rfl, rfl, rfl, tv⟩
  ·rintro j s49 y52 hr50 hz51 a w ⟨hS, hA⟩
   refine TG.ap ?_ hS hA
   unfold m20_1 at hr50
   refine sq (sq (rg (m1 rfl (fb 1 U48 rfl rfl rfl rfl Z27 (ld G27 rfl rfl (((sS 1 rfl hK12).drop 1).take 1) rfl (lnL U27 rfl rfl (ltI rfl rfl rfl (on ?_))))))))
   refine ci rfl (fun hc56 => ?_) (fun hc56 => ?_)
   ·have hr57 := if_p hc56 hr50
    refine sk (sq (bk (sq ?_)))
    obtain ⟨t104, hx105, hr106⟩ := bd_some hr57
    refine jn (fun a w => St M W H [K14, K11, H] [] w ∧ Has [] 39 a [(2, .int .i64 word), (3, .pointer (some q10)), (4, .pointer (some q13)), (7, .int .i64 (s49 : Int)), (38, .bool t104)]) ?_ ?_
    ·obtain ⟨x107, hx108, hr109⟩ := bd_some hx105
     obtain ⟨p110, rfl⟩ := hl6.adr hx108
     obtain ⟨cs111, hcs112, hq113, hr114⟩ := hl6.at hx108
     obtain rfl := hr114
     obtain ⟨r115, hx116, hr117⟩ := bd_some hr109
     rcases Bool.eq_false_or_eq_true (r115) with hb118 | hb118
     ·have hr119 := if_p hb118 hr117
      obtain ⟨hk120, hr121⟩ := chk_some hr119
      refine drG 22 mixed (by kernel_rfl) rfl (dt rfl (fb 1 U48 rfl rfl rfl rfl Z27 fin1) (dt rfl (ld G27 rfl rfl (((sS 2 rfl hK12).drop 1).take 1) rfl fin1) (dt rfl (m1 rfl fin1) (dt rfl (iaP U27 Z126 rfl rfl rfl rfl (lt_of hx108) fin1) (dt rfl (ldA G126 Z126 rfl rfl (sS 3 rfl hq113) rfl fin1) (dt rfl (ldA G30 Z30 rfl rfl (sS 1 rfl hK15) rfl fin1) (dt rfl (clS C45 rfl rfl rfl rfl (fun w H hH le => w45 hH x107 rfl x_1 (RReader.mono _ _ _ _ (le.at 3 rfl) hh_x_1) hx116) fin1) (dt rfl (m1 rfl fin1) (dt rfl (gN rfl rfl (hb118) (m1 rfl fin1)) (dt rfl (gN rfl rfl (hb118) (fb 1 U48 rfl rfl rfl rfl Z27 fin1)) (dt rfl (gN rfl rfl (hb118) (ld G27 rfl rfl (((sS 2 rfl hK12).drop 1).take 1) rfl fin1)) ?_)))))))))))
      refine dt rfl (gN rfl rfl (hb118) (m1 rfl fin1)) (dt rfl (gN rfl rfl (hb118) (iaP U27 Z126 rfl rfl rfl rfl (lt_of hx108) fin1)) (dt rfl (gN rfl rfl (hb118) (fb 0 U126 rfl rfl rfl rfl Z3 fin1)) (dt rfl (gN rfl rfl (hb118) (ld G3 rfl rfl ((sS 3 rfl hq113).take 1) rfl fin1)) (dt rfl (gN rfl rfl (hb118) (fb 1 U48 rfl rfl rfl rfl Z27 fin1)) (dt rfl (gN rfl rfl (hb118) (ld G27 rfl rfl (((sS 2 rfl hK12).drop 1).take 1) rfl fin1)) (dt rfl (gN rfl rfl (hb118) (m1 rfl fin1)) (dt rfl (gN rfl rfl (hb118) (iaP U27 Z126 rfl rfl rfl rfl (lt_of hx108) fin1)) (dt rfl (gN rfl rfl (hb118) (fb 1 U126 rfl rfl rfl rfl Z3 fin1)) (dt rfl (gN rfl rfl (hb118) (ld G3 rfl rfl (((sS 3 rfl hq113).drop 1).take 1) rfl fin1)) (dt rfl (gN rfl rfl (hb118) (sbI rfl rfl rfl hk120 fin1)) (DF.nil fun K122 hF => ?_)))))))))))
      refine gN rfl rfl (hb118) ?_
      obtain ⟨r123, hx124, hr125⟩ := bd_some hr121
      refine clS C31 rfl rfl rfl rfl (fun w H hH le => w31 word x107.from_ (x107.to_ - 1) hx124) (pT rfl rfl (hb118) rfl (on ?_))
      cases hr125
      intro a w hS hA
      exact ⟨hS.selH [1, 2, 3] rfl, hA.cut ⟨rfl, rfl, rfl, rfl, rfl, tv⟩⟩
     ·have hr126 := if_f hb118 hr117
      refine drG 22 mixed (by kernel_rfl) rfl (dt rfl (fb 1 U48 rfl rfl rfl rfl Z27 fin1) (dt rfl (ld G27 rfl rfl (((sS 2 rfl hK12).drop 1).take 1) rfl fin1) (dt rfl (m1 rfl fin1) (dt rfl (iaP U27 Z126 rfl rfl rfl rfl (lt_of hx108) fin1) (dt rfl (ldA G126 Z126 rfl rfl (sS 3 rfl hq113) rfl fin1) (dt rfl (ldA G30 Z30 rfl rfl (sS 1 rfl hK15) rfl fin1) (dt rfl (clS C45 rfl rfl rfl rfl (fun w H hH le => w45 hH x107 rfl x_1 (RReader.mono _ _ _ _ (le.at 3 rfl) hh_x_1) hx116) fin1) (dt rfl (m1 rfl fin1) (dt rfl (gF rfl rfl (hb118) rfl fin1) (dt rfl (gF rfl rfl (hb118) rfl fin1) (dt rfl (gF rfl rfl (hb118) rfl fin1) ?_)))))))))))
      refine dt rfl (gF rfl rfl (hb118) rfl fin1) (dt rfl (gF rfl rfl (hb118) rfl fin1) (dt rfl (gF rfl rfl (hb118) rfl fin1) (dt rfl (gF rfl rfl (hb118) rfl fin1) (dt rfl (gF rfl rfl (hb118) rfl fin1) (dt rfl (gF rfl rfl (hb118) rfl fin1) (dt rfl (gF rfl rfl (hb118) rfl fin1) (dt rfl (gF rfl rfl (hb118) rfl fin1) (dt rfl (gF rfl rfl (hb118) rfl fin1) (dt rfl (gF rfl rfl (hb118) rfl fin1) (dt rfl (gF rfl rfl (hb118) rfl fin1) (DF.nil fun K127 hF => ?_)))))))))))
      refine gF rfl rfl (hb118) rfl (pF rfl rfl (hb118) rfl (on ?_))
      cases hr126
      intro a w hS hA
      exact ⟨hS.selH [1, 2, 3] rfl, hA.cut ⟨rfl, rfl, rfl, rfl, rfl, tv⟩⟩
    ·rintro a w ⟨hS, hA⟩
     refine TG.ap ?_ hS hA
     refine cb rfl (fun hc131 => ?_) (fun hc131 => ?_)
     ·have hr132 := if_p hc131 hr106
      refine sq (rg (a1 rfl (on (rt_ ?_))))
      cases hr132
      obtain rfl := Fin.out hz51
      cases hr47
      intro a w hS hA
      refine ret1 hA rfl rfl ?_
      exact ⟨rfl, hS.ext⟩
     ·have hr133 := if_f hc131 hr106
      refine sk (rg (m1 rfl (adI rfl rfl rfl (by omega) (a1 rfl (on ?_)))))
      cases hr133
      intro a w hS hA
      exact ⟨_, hz51, hS, hA.cut ⟨rfl, rfl, rfl, rfl, tv⟩⟩
   ·have hr134 := if_n hc56 hr50
    refine xt rfl ?_
    cases hr134
    obtain rfl := Fin.out hz51
    intro a w hS hA
    exact ⟨_, rfl, hS, hA.cut tv⟩
 ·rintro a w ⟨t48, rfl, hS, hA⟩
  refine TG.ap ?_ hS hA
  refine sq (rg (a1 rfl (on (rt_ ?_))))
  cases hr47
  intro a w hS hA
  refine ret1 hA rfl rfl ?_
  exact ⟨rfl, hS.ext⟩

theorem w3 {M : Prop} {W : World} {H : Hp} (hH : H.le (hp W)) (hg : Gv M H) {cs_v_0 : List Value} (v_0 : Volume) (h_v_0 : (RVolume) H cs_v_0 v_0) {ad_errata : Option Addr} {cap_errata : Nat} {errata : List Erratum} (h_errata : Sl (Flat encErratum) 6 H ad_errata cap_errata errata) (day : Int) {ad_orders : Option Addr} {cap_orders : Nat} {orders : List Order} (h_orders : Sl (Flat encOrder) 4 H ad_orders cap_orders orders) {cs_x_4 : List Value} (x_4 : Reader) (h_x_4 : (RReader) H cs_x_4 x_4) {r : Bool} (hr : m3 v_0 errata day orders x_4 = some r) : Calls Tryz.prog 3 [.agg cs_v_0.toArray, .slice ad_errata errata.length cap_errata, .int .u16 day, .slice ad_orders orders.length cap_orders, .agg cs_x_4.toArray].toArray W (RetS M W (.bool r)) := by
 have hh_v_0 := h_v_0
 obtain ⟨ad1, cap2, rfl, hl3⟩ := h_v_0
 have := hl3.len
 have := h_errata.len
 have := h_orders.len
 have hh_x_4 := h_x_4
 obtain ⟨ad4, cap5, rfl, hl6⟩ := h_x_4
 have := hl6.len
 unfold m3 at hr
 refine enterG (M := M) Tryz.func3 rfl Tryz.ntmps3 rfl hH ?_
 refine sq (rg (bI (cs := [.int .i64 v_0.number, .int .i64 v_0.bound, .int .i64 v_0.height, .int .i64 v_0.width, .slice ad1 v_0.parts.length cap2]) rfl rfl rfl fun q7 K8 hK9 => (bI (cs := [.int .i64 x_4.year, .slice ad4 x_4.may.length cap5]) rfl rfl rfl fun q10 K11 hK12 => (a1 rfl (on (sq (sq ?_)))))))
 obtain ⟨t40, hx41, hr42⟩ := bd_some hr
 refine jn (fun a w => St M W H [K11, K8, H] [] w ∧ Has [] 193 a [(1, .slice ad_errata errata.length cap_errata), (2, .int .u16 day), (3, .slice ad_orders orders.length cap_orders), (5, .pointer (some q7)), (9, .pointer (some q10)), (55, .bool t40)]) ?_ ?_
 ·refine rg (ldA G24 Z24 rfl rfl (sS 1 rfl hK9) rfl (m1 rfl ?_))
  obtain ⟨r43, hx44, hr45⟩ := bd_some hx41
  refine clS C5 rfl rfl rfl rfl (fun w H hH le => w5 hH v_0 (RVolume.mono _ _ _ _ (le.at 2 rfl) hh_v_0) (h_errata.mono (Flat.mono _) (le.at 2 rfl)) hx44) (nt rfl rfl (m1 rfl ?_))
  rcases Bool.eq_false_or_eq_true (r43) with hb46 | hb46
  ·have hr47 := if_p hb46 hr45
   refine gN rfl rfl (congrArg not (hb46)) (ldA G24 Z24 rfl rfl (sS 1 rfl hK9) rfl (gN rfl rfl (congrArg not (hb46)) ?_))
   obtain ⟨r48, hx49, hr50⟩ := bd_some hr47
   refine clS C6 rfl rfl rfl rfl (fun w H hH le => w6 hH v_0 (RVolume.mono _ _ _ _ (le.at 2 rfl) hh_v_0) hx49) (gN rfl rfl (congrArg not (hb46)) (neI rfl rfl rfl (pF rfl rfl (congrArg not (hb46)) rfl (m1 rfl ?_))))
   by_cases hb51 : r48 ≠ 0
   ·have hr52 := if_p hb51 hr50
    refine gf' hb51 rfl (gf' hb51 rfl (gf' hb51 rfl (gf' hb51 rfl (pt hb51 rfl rfl (m1 rfl (gF rfl rfl rfl rfl (gF rfl rfl rfl rfl (gF rfl rfl rfl rfl (pT rfl rfl rfl rfl (m1 rfl (gF rfl rfl rfl rfl ?_)))))))))))
    refine gF rfl rfl rfl rfl (gF rfl rfl rfl rfl (gF rfl rfl rfl rfl (pT rfl rfl rfl rfl (m1 rfl (gF rfl rfl rfl rfl (gF rfl rfl rfl rfl (gF rfl rfl rfl rfl (pT rfl rfl rfl rfl (on ?_)))))))))
    cases hr52
    exact cu ⟨rfl, rfl, rfl, rfl, rfl, rfl, tv⟩
   ·have hr53 := if_n hb51 hr50
    refine gt' hb51 rfl (ldA G24 Z24 rfl rfl (sS 1 rfl hK9) rfl (gt' hb51 rfl (m1 rfl (gt' hb51 rfl ?_))))
    obtain ⟨r54, hx55, hr56⟩ := bd_some hr53
    refine clS C7 rfl rfl rfl rfl (fun w H hH le => w7 hH v_0 (RVolume.mono _ _ _ _ (le.at 2 rfl) hh_v_0) (h_errata.mono (Flat.mono _) (le.at 2 rfl)) hx55) (gt' hb51 rfl (neI rfl rfl rfl (pf hb51 rfl rfl (m1 rfl ?_))))
    by_cases hb57 : r54 ≠ 0
    ·have hr58 := if_p hb57 hr56
     refine gf' hb57 rfl (gf' hb57 rfl (gf' hb57 rfl (pt hb57 rfl rfl (m1 rfl (gF rfl rfl rfl rfl (gF rfl rfl rfl rfl (gF rfl rfl rfl rfl (gF rfl rfl rfl rfl (pT rfl rfl rfl rfl (m1 rfl (gF rfl rfl rfl rfl ?_)))))))))))
     refine gF rfl rfl rfl rfl (gF rfl rfl rfl rfl (pT rfl rfl rfl rfl (on ?_)))
     cases hr58
     exact cu ⟨rfl, rfl, rfl, rfl, rfl, rfl, tv⟩
    ·have hr59 := if_n hb57 hr56
     refine gt' hb57 rfl (m1 rfl (gt' hb57 rfl (lnL U27 rfl rfl (gt' hb57 rfl (gtI rfl rfl rfl (pf hb57 rfl rfl (m1 rfl ?_)))))))
     by_cases hb60 : 12 < (orders.length : Int)
     ·have hr61 := if_p hb60 hr59
      refine gf' hb60 rfl (gf' hb60 rfl (gf' hb60 rfl (gf' hb60 rfl (pt hb60 rfl rfl (m1 rfl (gF rfl rfl rfl rfl (gF rfl rfl rfl rfl (gF rfl rfl rfl rfl (pT rfl rfl rfl rfl (on ?_))))))))))
      cases hr61
      exact cu ⟨rfl, rfl, rfl, rfl, rfl, rfl, tv⟩
     ·have hr62 := if_n hb60 hr59
      refine gt' hb60 rfl (fb 1 U30 rfl rfl rfl rfl Z28 (gt' hb60 rfl (ld G28 rfl rfl ((sS 0 rfl hK12).drop 1) rfl (gt' hb60 rfl (lnL U28 rfl rfl (gt' hb60 rfl (gtI rfl rfl rfl (pf hb60 rfl rfl (m1 rfl ?_)))))))))
      by_cases hb63 : 8 < (x_4.may.length : Int)
      ·have hr64 := if_p hb63 hr62
       refine gf' hb63 rfl (gf' hb63 rfl (gf' hb63 rfl (pt hb63 rfl rfl (on ?_))))
       cases hr64
       exact cu ⟨rfl, rfl, rfl, rfl, rfl, rfl, tv⟩
      ·have hr65 := if_n hb63 hr62
       refine gt' hb63 rfl (ldA G30 Z30 rfl rfl (sS 0 rfl hK12) rfl (gt' hb63 rfl ?_))
       obtain ⟨r66, hx67, hr68⟩ := bd_some hr65
       refine clS C8 rfl rfl rfl rfl (fun w H hH le => w8 hH x_4 (RReader.mono _ _ _ _ (le.at 2 rfl) hh_x_4) hx67) (gt' hb63 rfl (nt rfl rfl (pf hb63 rfl rfl (on ?_))))
       cases hr68
       exact cu ⟨rfl, rfl, rfl, rfl, rfl, rfl, tv⟩
  ·have hr69 := if_f hb46 hr45
   refine gF rfl rfl (congrArg not (hb46)) rfl (gF rfl rfl (congrArg not (hb46)) rfl (gF rfl rfl (congrArg not (hb46)) rfl (pT rfl rfl (congrArg not (hb46)) rfl (m1 rfl (gF rfl rfl rfl rfl (gF rfl rfl rfl rfl (gF rfl rfl rfl rfl (gF rfl rfl rfl rfl (pT rfl rfl rfl rfl (m1 rfl (gF rfl rfl rfl rfl ?_)))))))))))
   refine gF rfl rfl rfl rfl (gF rfl rfl rfl rfl (pT rfl rfl rfl rfl (m1 rfl (gF rfl rfl rfl rfl (gF rfl rfl rfl rfl (gF rfl rfl rfl rfl (gF rfl rfl rfl rfl (pT rfl rfl rfl rfl (m1 rfl (gF rfl rfl rfl rfl (gF rfl rfl rfl rfl ?_)))))))))))
   refine gF rfl rfl rfl rfl (pT rfl rfl rfl rfl (on ?_))
   cases hr69
   exact cu ⟨rfl, rfl, rfl, rfl, rfl, rfl, tv⟩
 ·rintro a w ⟨hS, hA⟩
  refine TG.ap ?_ hS hA
  refine cb rfl (fun hc76 => ?_) (fun hc76 => ?_)
  ·have hr77 := if_p hc76 hr42
   refine sq (rg ?_)
   obtain ⟨r78, hx79, hr80⟩ := bd_some hr77
   refine clS C9 rfl rfl rfl rfl (fun w H hH le => w9  hx79) (a1 rfl (on (rt_ ?_)))
   cases hr80
   intro a w hS hA
   refine ret1 hA rfl rfl ?_
   exact ⟨rfl, hS.ext⟩
  ·have hr81 := if_f hc76 hr42
   refine sk (sq (rg (ldA G24 Z24 rfl rfl (sS 1 rfl hK9) rfl ?_)))
   obtain ⟨r82, hx83, hr84⟩ := bd_some hr81
   refine clK C11 rfl rfl rfl rfl (fun w H hH le => w11 hH v_0 (RVolume.mono _ _ _ _ (le.at 2 rfl) hh_v_0) hx83) ?_
   rintro v_ K85 ⟨cs86, rfl, hr87⟩
   have hr88 := hr87
   obtain ⟨ad89, cap90, rfl, hl91⟩ := hr87
   have := hl91.len
   refine m1 rfl ?_
   obtain ⟨r92, hx93, hr94⟩ := bd_some hr84
   refine clK C12 rfl rfl rfl rfl (fun w H hH le => w12 hH (h_errata.mono (Flat.mono _) (le.at 3 rfl)) hx93) ?_
   rintro v_ K95 ⟨ad96, cap97, rfl, hl98⟩
   have := hl98.len
   refine m1 rfl ?_
   obtain ⟨hk99, hr100⟩ := chk_some hr94
   refine cvI U26 U3 rfl rfl (wr_i64 hk99) ?_
   obtain ⟨r101, hx102, hr103⟩ := bd_some hr100
   refine clK C10 rfl rfl rfl rfl (fun w H hH le => w10 hH r82 (RVolume.mono _ _ _ _ (le.at 1 rfl) hr88) (hl98.mono (Flat.mono _) (le.at 0 rfl)) day hx102) ?_
   rintro v_ K104 ⟨ad105, cap106, rfl, hl107⟩
   have := hl107.len
   refine m1 rfl (ex rfl rfl rfl (ex rfl rfl rfl (a1 rfl (a1 rfl (on (sq (sq ?_)))))))
   obtain ⟨t111, hx112, hr113⟩ := bd_some hr103
   refine jn (fun a w => St M W H [K104, K95, K85, K11, K8, H] [] w ∧ Has [] 193 a [(1, .slice ad_errata errata.length cap_errata), (2, .int .u16 day), (3, .slice ad_orders orders.length cap_orders), (5, .pointer (some q7)), (9, .pointer (some q10)), (11, .slice ad105 r101.1.length cap106), (73, .bool t111)]) ?_ ?_
   ·refine rg (m1 rfl (neI rfl rfl rfl (m1 rfl ?_)))
    by_cases hb114 : r101.2 ≠ 0
    ·have hr115 := if_p hb114 hx112
     refine gf' hb114 rfl (gf' hb114 rfl (gf' hb114 rfl (pt hb114 rfl rfl (on ?_))))
     cases hr115
     exact cu ⟨rfl, rfl, rfl, rfl, rfl, rfl, rfl, tv⟩
    ·have hr116 := if_n hb114 hx112
     refine gt' hb114 rfl (m1 rfl (gt' hb114 rfl (lnL U36 rfl rfl (gt' hb114 rfl (gtI rfl rfl rfl (pf hb114 rfl rfl (on ?_)))))))
     cases hr116
     exact cu ⟨rfl, rfl, rfl, rfl, rfl, rfl, rfl, tv⟩
   ·rintro a w ⟨hS, hA⟩
    refine TG.ap ?_ hS hA
    refine cb rfl (fun hc120 => ?_) (fun hc120 => ?_)
    ·have hr121 := if_p hc120 hr113
     refine sq (rg (a1 rfl (on (rt_ ?_))))
     cases hr121
     intro a w hS hA
     refine ret1 hA rfl rfl ?_
     exact ⟨rfl, hS.ext⟩
    ·have hr122 := if_f hc120 hr113
     refine sk (sq (rg (m1 rfl (bu (cs := [.slice none 0 0, .slice ad_orders orders.length cap_orders, .int .i64 3]) T10.B48 rfl rfl rfl (al 1 (cs := [.slice none 0 0, .slice none 0 0, .int .i64 0]) Tryz.zeroValue48 rfl rfl fun b123 => (sto 1 (cs := [.slice none 0 0, .slice ad_orders orders.length cap_orders, .int .i64 3]) Z48 rfl rfl rfl rfl rfl rfl rfl (on (sq (sq (rg (a1 rfl ?_)))))))))))
     refine on (TG.nilRow 3 54 2 ?_)
     have hR167 : Rows (RWord) 2 H [] ([] : List Word) := tv
     refine TG.as 3 (z := Own.rows none 0 54 2 [] ([] : List Word)) rfl rfl ?_
     obtain ⟨e267, hl268, hr269⟩ := bd_some hr122
     refine jn (fun a w => ∃ t270, e267 = .inl t270 ∧ ∃ (ad271 : Option Addr) (cap272 : Nat) (css273 : List (List Value)) (K274 : Hp), St M W H [K274, K104, K95, K85, K11, K8, H] [(3, Own.rows ad271 cap272 54 2 css273 t270), (1, cel b123 48 [.slice ad271 t270.length cap272, .slice ad_orders orders.length cap_orders, .int .i64 3])] w ∧ Has [] 193 a [(1, .slice ad_errata errata.length cap_errata), (2, .int .u16 day), (5, .pointer (some q7)), (9, .pointer (some q10)), (11, .slice ad105 r101.1.length cap106), (13, .pointer (some (⟨b123, 0, none⟩)))] ∧ Rows (RWord) 2 K274 css273 t270) ?_ ?_
     ·refine bk ?_
      refine lp hl268 (fun s276 a w => ∃ (ad277 : Option Addr) (cap278 : Nat) (css279 : List (List Value)) (K280 : Hp), St M W H [K280, K104, K95, K85, K11, K8, H] [(3, Own.rows ad277 cap278 54 2 css279 s276.2), (1, cel b123 48 [.slice ad277 s276.2.length cap278, .slice ad_orders orders.length cap_orders, .int .i64 3])] w ∧ Has [] 193 a [(1, .slice ad_errata errata.length cap_errata), (2, .int .u16 day), (5, .pointer (some q7)), (9, .pointer (some q10)), (11, .slice ad105 r101.1.length cap106), (13, .pointer (some (⟨b123, 0, none⟩))), (14, .int .i64 (s276.1 : Int))] ∧ Rows (RWord) 2 K280 css279 s276.2) ?_ ?_
      ·intro a w hS hA
       exact ⟨none, 0, [], H, hS.selH [5, 0, 1, 2, 3, 4, 5] rfl, hA.cut ⟨rfl, rfl, rfl, rfl, rfl, rfl, rfl, tv⟩, hR167⟩
      ·rintro j s276 y284 hr282 hz283 a w ⟨ad277, cap278, css279, K280, hS, hA, hR281⟩
       refine TG.ap ?_ hS hA
       unfold m3_1 at hr282
       refine sq (sq (rg (m1 rfl (m1 rfl (lnL U36 rfl rfl (ltI rfl rfl rfl (on ?_)))))))
       refine ci rfl (fun hc288 => ?_) (fun hc288 => ?_)
       ·have hr289 := if_p hc288 hr282
        refine sk (sq (bk (sq ?_)))
        obtain ⟨x340, hx341, hr342⟩ := bd_some hr289
        obtain ⟨p343, rfl⟩ := hl107.adr hx341
        obtain ⟨cs344, hcs345, hq346, hr347⟩ := hl107.at hx341
        obtain rfl := hr347
        obtain ⟨r348, hx349, hr350⟩ := bd_some hr342
        refine drG 16 mixed (by kernel_rfl) rfl (dt rfl (ldA G24 Z24 rfl rfl (sS 6 rfl hK9) rfl fin1) ?_)
        refine DF.und (α := List Value) [] (fun q => .agg q.toArray) (fun (q : List Value) K => (RVolume) K q r82) (fun _ _ _ h x => RVolume.mono _ _ _ _ h x) (by kernel_rfl) rfl (fun a w K hS hA hF => TG.pa hS hA (clK C11 rfl rfl rfl rfl (fun w H hH le => w11 hH v_0 (RVolume.mono _ _ _ _ (le.at 7 rfl) hh_v_0) hx83) (by
          rintro v_ K328 ⟨cs329, rfl, hr330⟩
          exact finU (f := fun q => .agg q.toArray) (G := (fun (q : List Value) K => (RVolume) K q r82)) _ (fun _ _ _ h x => RVolume.mono _ _ _ _ h x) hr330))) fun cs332 => ?_
        refine dt rfl (m1 rfl fin1) ?_
        refine DF.und (α := Option Addr × Nat) (none, 0) (fun q => .slice q.1 r92.length q.2) (fun (q : Option Addr × Nat) K => Sl (Flat encErratum) 6 K q.1 q.2 r92) (fun _ _ _ h x => x.mono (Flat.mono _) h) (by kernel_rfl) rfl (fun a w K hS hA hF => TG.pa hS hA (clK C12 rfl rfl rfl rfl (fun w H hH le => w12 hH (h_errata.mono (Flat.mono _) (le.at 7 rfl)) hx93) (by
          rintro v_ K333 ⟨ad334, cap335, rfl, hl336⟩
          exact finU (f := fun q => .slice q.1 r92.length q.2) (G := (fun (q : Option Addr × Nat) K => Sl (Flat encErratum) 6 K q.1 q.2 r92)) (_, _) (fun _ _ _ h x => x.mono (Flat.mono _) h) hl336))) ?_
        rintro ⟨ad338, cap339⟩
        refine dt rfl (m1 rfl fin1) (dt rfl (m1 rfl fin1) (dt rfl (iaP U36 Z52 rfl rfl rfl rfl (lt_of hx341) fin1) (dt rfl (fb 0 U52 rfl rfl rfl rfl Z3 fin1) (dt rfl (ld G3 rfl rfl ((sS 2 rfl hq346).take 1) rfl fin1) (dt rfl (m1 rfl fin1) (dt rfl (cvI U26 U3 rfl rfl (wr_i64 hk99) fin1) (DF.det rfl (fun a w K hS hA hF => TG.pa hS hA (clS C13 rfl rfl rfl rfl (fun w H hH le => w13 hH (hg.mono (le.at 7 rfl)) r82 (RVolume.mono _ _ _ _ (le.at 0 rfl) (hF.2.1 rfl)) ((hF.1 rfl).mono (Flat.mono _) (le.at 0 rfl)) x340.anchor 2 day hx349) fin1)) (dt rfl (m1 rfl fin1) (dt rfl (ex rfl rfl rfl fin1) (dt rfl (ex rfl rfl rfl fin1) (dt rfl (a1 rfl fin1) ?_)))))))))))
        refine DF.nil fun K351 hF => ?_
        obtain ⟨hu337, hu331, _⟩ := hF
        have hr352 := hu331
        obtain ⟨ad353, cap354, rfl, hl355⟩ := hu331
        have := hl355.len
        have := hu337.len
        refine a1 rfl (on (sq (sq (rg (m1 rfl (neI rfl rfl rfl (on ?_)))))))
        refine ci rfl (fun hc359 => ?_) (fun hc359 => ?_)
        ·have hr360 := if_p hc359 hr350
         refine sq (rg (a1 rfl (on (rt_ ?_))))
         cases hr360
         obtain rfl := Fin.out hz283
         cases hr269
         intro a w hS hA
         refine ret1 hA rfl rfl ?_
         exact ⟨rfl, hS.ext⟩
        ·have hr361 := if_n hc359 hr350
         refine sk (rg (fb 0 U48 rfl rfl rfl rfl Z46 (ld G46 rfl rfl ((sO 1 rfl).take 1) rfl (m1 rfl (bu (cs := [.string (bs r348.1), .slice none 0 0]) T10.B54 rfl rfl rfl ?_)))))
         obtain ⟨hk362, hr363⟩ := chk_some hr361
         have := lenA s276.2 [(⟨r348.1, ([] : List Int)⟩ : Word)]
         refine TG.pack (fun K => Rows (RWord) 2 K (css279 ++ [[.string (bs r348.1), .slice none 0 0]]) (s276.2 ++ [(⟨r348.1, ([] : List Int)⟩ : Word)])) (fun H le => (hR281.mono (RWord.mono) (le.at 1 rfl)).snoc (cs := [.string (bs r348.1), .slice none 0 0]) (x := (⟨r348.1, ([] : List Int)⟩ : Word)) rfl rfl ⟨_, _, rfl, (Sl.nil _ _ _ _ _ (by decide))⟩) fun K367 hR368 => (ap1R 3 [.string (bs r348.1), .slice none 0 0] (⟨r348.1, ([] : List Int)⟩ : Word) (l := s276.2) (css := css279) T10.E46 rfl rfl rfl rfl rfl rfl rfl rfl rfl rfl rfl rfl hk362 fun ad364 cap365 u366 => (fb 0 U48 rfl rfl rfl rfl Z46 (sto 1 (cs := [.slice ad364 ((s276.2 ++ [(⟨r348.1, ([] : List Int)⟩ : Word)]).length) cap365]) Z46 rfl rfl rfl rfl rfl rfl rfl (on (rg (m1 rfl (adI rfl rfl rfl (by omega) (a1 rfl (on ?_)))))))))
         cases hr363
         intro a w hS hA
         exact ⟨_, hz283, ad364, cap365, (css279 ++ [[Value.string (bs r348.1), Value.slice none 0 0]]), K367, hS.selH [0, 3, 4, 5, 6, 7, 8] rfl, hA.cut ⟨rfl, rfl, rfl, rfl, rfl, rfl, rfl, tv⟩, hR368⟩
       ·have hr369 := if_n hc288 hr282
        refine xt rfl ?_
        cases hr369
        obtain rfl := Fin.out hz283
        intro a w hS hA
        exact ⟨_, rfl, ad277, cap278, css279, K280, hS, hA.cut ⟨rfl, rfl, rfl, rfl, rfl, rfl, tv⟩, hR281⟩
     ·rintro a w ⟨t270, rfl, ad271, cap272, css273, K274, hS, hA, hR275⟩
      refine TG.ap ?_ hS hA
      refine sq (sq (rg (ldA G48 Z48 rfl rfl (sO 1 rfl) rfl ?_)))
      obtain ⟨r370, hx371, hr372⟩ := bd_some hr269
      refine clL C14 rfl rfl rfl rfl (fun w hS => w14 (Hp.le.refl (hp w)) (⟨t270, orders, 3⟩ : Report) ⟨_, _, _, _, rfl, (rows_sl (H := hp w) (hS.get (t := 3) rfl) (hR275.mono (RWord.mono) (hS.hp 0 rfl)) (fun _ _ _ ho => ho)), (h_orders.mono (Flat.mono _) (hS.hp 6 rfl))⟩ hx371) (neI rfl rfl rfl (on ?_))
      refine ci rfl (fun hc379 => ?_) (fun hc379 => ?_)
      ·have hr380 := if_p hc379 hr372
       refine sq (rg ?_)
       obtain ⟨r381, hx382, hr383⟩ := bd_some hr380
       refine clS C9 rfl rfl rfl rfl (fun w H hH le => w9  hx382) (a1 rfl (on (rt_ ?_)))
       cases hr383
       intro a w hS hA
       refine ret1 hA rfl rfl ?_
       exact ⟨rfl, hS.ext⟩
      ·have hr384 := if_n hc379 hr372
       refine sk (sq (TG.stillR 3 rfl 0 rfl (RWord.mono) hR275 fun K385 hl386 => ?_))
       have := hl386.len
       obtain ⟨r387, hx388, hr389⟩ := bd_some hr384
       obtain ⟨r395, hx396, hr397⟩ := bd_some hr389
       obtain ⟨r403, hx404, hr405⟩ := bd_some hr397
       refine drG 9 mixed (by kernel_rfl) rfl (dt rfl (ldA G48 Z48 rfl rfl (sO 1 rfl) rfl fin1) ?_)
       refine DF.und (α := List Value) [] (fun q => .agg q.toArray) (fun (q : List Value) K => (RReport) K q r387) (fun _ _ _ h x => RReport.mono _ _ _ _ h x) (by kernel_rfl) rfl (fun a w K hS hA hF => TG.pa hS hA (clK C16 rfl rfl rfl rfl (fun w H hH le => w16 hH (⟨t270, orders, 3⟩ : Report) ⟨_, _, _, _, rfl, (hl386.mono (RWord.mono) (le.at 1 rfl)), (h_orders.mono (Flat.mono _) (le.at 8 rfl))⟩ hx388) (by
         rintro v_ K390 ⟨cs391, rfl, hr392⟩
         exact finU (f := fun q => .agg q.toArray) (G := (fun (q : List Value) K => (RReport) K q r387)) _ (fun _ _ _ h x => RReport.mono _ _ _ _ h x) hr392))) fun cs394 => ?_
       refine dt rfl (ldA G30 Z30 rfl rfl (sS 6 rfl hK12) rfl fin1) ?_
       refine DF.und (α := List Value) [] (fun q => .agg q.toArray) (fun (q : List Value) K => (RReader) K q r395) (fun _ _ _ h x => RReader.mono _ _ _ _ h x) (by kernel_rfl) rfl (fun a w K hS hA hF => TG.pa hS hA (clK C17 rfl rfl rfl rfl (fun w H hH le => w17 hH x_4 (RReader.mono _ _ _ _ (le.at 8 rfl) hh_x_4) hx396) (by
         rintro v_ K398 ⟨cs399, rfl, hr400⟩
         exact finU (f := fun q => .agg q.toArray) (G := (fun (q : List Value) K => (RReader) K q r395)) _ (fun _ _ _ h x => RReader.mono _ _ _ _ h x) hr400))) fun cs402 => ?_
       refine DF.und (α := Option Addr × Nat) (none, 0) (fun q => .tuple [.slice q.1 r403.1.length q.2, .int .i64 r403.2].toArray) (fun (q : Option Addr × Nat) K => Sl (Flat encPiece) 2 K q.1 q.2 r403.1) (fun _ _ _ h x => x.mono (Flat.mono _) h) (by kernel_rfl) rfl (fun a w K hS hA hF => TG.pa hS hA (clK C15 rfl rfl rfl rfl (fun w H hH le => w15 hH r387 (RReport.mono _ _ _ _ (le.at 0 rfl) (hF.2.1 rfl)) r395 (RReader.mono _ _ _ _ (le.at 0 rfl) (hF.1 rfl)) hx404) (by
         rintro v_ K406 ⟨ad407, cap408, rfl, hl409⟩
         exact finU (f := fun q => .tuple [.slice q.1 r403.1.length q.2, .int .i64 r403.2].toArray) (G := (fun (q : Option Addr × Nat) K => Sl (Flat encPiece) 2 K q.1 q.2 r403.1)) (ad407, cap408) (fun _ _ _ h x => x.mono (Flat.mono _) h) hl409))) ?_
       rintro ⟨ad411, cap412⟩
       refine DF.und () (fun _ => .tuple [.slice ad411 r403.1.length cap412, .int .i64 r403.2].toArray) (fun _ K => Sl (Flat encPiece) 2 K ad411 cap412 r403.1) (fun _ _ _ h x => x.mono (Flat.mono _) h) (by kernel_rfl) rfl (fun a w K hS hA hF => TG.pa hS hA (m1 rfl (finF (f := fun _ => .tuple [.slice ad411 r403.1.length cap412, .int .i64 r403.2].toArray) (G := fun _ K => Sl (Flat encPiece) 2 K ad411 cap412 r403.1) () (hF.1 rfl)))) fun _ => (DF.und () (fun _ => .slice ad411 r403.1.length cap412) (fun _ K => Sl (Flat encPiece) 2 K ad411 cap412 r403.1) (fun _ _ _ h x => x.mono (Flat.mono _) h) (by kernel_rfl) rfl (fun a w K hS hA hF => TG.pa hS hA (ex rfl rfl rfl (finF (f := fun _ => .slice ad411 r403.1.length cap412) (G := fun _ K => Sl (Flat encPiece) 2 K ad411 cap412 r403.1) () (hF.1 rfl)))) fun _ => (dt rfl (ex rfl rfl rfl fin1) (DF.und () (fun _ => .slice ad411 r403.1.length cap412) (fun _ K => Sl (Flat encPiece) 2 K ad411 cap412 r403.1) (fun _ _ _ h x => x.mono (Flat.mono _) h) (by kernel_rfl) rfl (fun a w K hS hA hF => TG.pa hS hA (a1 rfl (finF (f := fun _ => .slice ad411 r403.1.length cap412) (G := fun _ K => Sl (Flat encPiece) 2 K ad411 cap412 r403.1) () (hF.1 rfl)))) fun _ => (DF.nil fun K416 hF => ?_))))
       obtain ⟨hu415, hu414, hu413, hu410, hu401, hu393, _⟩ := hF
       have hr417 := hu393
       obtain ⟨ad418, cap419, ad421, cap422, rfl, hl420, hl423⟩ := hu393
       have := hl420.len
       have := hl423.len
       have hr424 := hu401
       obtain ⟨ad425, cap426, rfl, hl427⟩ := hu401
       have := hl427.len
       have := hu410.len
       refine a1 rfl (on (sq (sq (rg (m1 rfl (neI rfl rfl rfl (on ?_)))))))
       refine ci rfl (fun hc431 => ?_) (fun hc431 => ?_)
       ·have hr432 := if_p hc431 hr405
        refine sq (rg (a1 rfl (on (rt_ ?_))))
        cases hr432
        intro a w hS hA
        refine ret1 hA rfl rfl ?_
        exact ⟨rfl, hS.ext⟩
       ·have hr433 := if_n hc431 hr405
        refine sk (sq (sq (rg (a1 rfl (on ?_)))))
        obtain ⟨e530, hl531, hr532⟩ := bd_some hr433
        refine jn (fun a w => ∃ t533, e530 = .inl t533 ∧ St M W H [K416, K385, K274, K104, K95, K85, K11, K8, H] [(1, cel b123 48 [.slice ad271 t270.length cap272, .slice ad_orders orders.length cap_orders, .int .i64 3])] w ∧ Has [] 193 a []) ?_ ?_
        ·refine bk ?_
         refine lp hl531 (fun s534 a w => St M W H [K416, K385, K274, K104, K95, K85, K11, K8, H] [(1, cel b123 48 [.slice ad271 t270.length cap272, .slice ad_orders orders.length cap_orders, .int .i64 3])] w ∧ Has [] 193 a [(1, .slice ad_errata errata.length cap_errata), (2, .int .u16 day), (5, .pointer (some q7)), (9, .pointer (some q10)), (11, .slice ad105 r101.1.length cap106), (13, .pointer (some (⟨b123, 0, none⟩))), (17, .slice ad411 r403.1.length cap412), (19, .int .i64 (s534 : Int))]) ?_ ?_
         ·exact cu ⟨rfl, rfl, rfl, rfl, rfl, rfl, rfl, rfl, tv⟩
         ·rintro j s534 y537 hr535 hz536 a w ⟨hS, hA⟩
          refine TG.ap ?_ hS hA
          unfold m3_2 at hr535
          refine sq (sq (rg (m1 rfl (m1 rfl (lnL U56 rfl rfl (ltI rfl rfl rfl (on ?_)))))))
          refine ci rfl (fun hc541 => ?_) (fun hc541 => ?_)
          ·have hr542 := if_p hc541 hr535
           refine sk (sq ?_)
           obtain ⟨t634, hx635, hr636⟩ := bd_some hr542
           refine jn (fun a w => ∃ t637, t634 = .inl t637 ∧ St M W H [K416, K385, K274, K104, K95, K85, K11, K8, H] [(1, cel b123 48 [.slice ad271 t270.length cap272, .slice ad_orders orders.length cap_orders, .int .i64 3])] w ∧ Has [] 193 a [(1, .slice ad_errata errata.length cap_errata), (2, .int .u16 day), (5, .pointer (some q7)), (9, .pointer (some q10)), (11, .slice ad105 r101.1.length cap106), (13, .pointer (some (⟨b123, 0, none⟩))), (17, .slice ad411 r403.1.length cap412), (19, .int .i64 (s534 : Int))]) ?_ ?_
           ·refine bk (sq (sq (rg (m1 rfl (m1 rfl ?_)))))
            obtain ⟨x638, hx639, hr640⟩ := bd_some hx635
            obtain ⟨p641, rfl⟩ := hu415.adr hx639
            obtain ⟨cs642, hcs643, hq644, hr645⟩ := hu415.at hx639
            obtain rfl := hr645
            refine iaP U56 Z67 rfl rfl rfl rfl (lt_of hx639) (fb 0 U67 rfl rfl rfl rfl Z9 (ld G9 rfl rfl ((sS 0 rfl hq644).take 1) rfl (eqS rfl rfl rfl (on ?_))))
            refine ci rfl (fun hc649 => ?_) (fun hc649 => ?_)
            ·have hr650 := if_p hc649 hr640
             refine xt rfl ?_
             cases hr650
             intro a w hS hA
             exact ⟨_, rfl, hS, hA.cut ⟨rfl, rfl, rfl, rfl, rfl, rfl, rfl, rfl, tv⟩⟩
            ·have hr651 := if_n hc649 hr640
             refine sk (sq ?_)
             obtain ⟨r662, hx663, hr664⟩ := bd_some hr651
             refine drG 10 mixed (by kernel_rfl) rfl (dt rfl (ldA G48 Z48 rfl rfl (sO 1 rfl) rfl fin1) ?_)
             refine DF.und (α := List Value) [] (fun q => .agg q.toArray) (fun (q : List Value) K => (RReport) K q r387) (fun _ _ _ h x => RReport.mono _ _ _ _ h x) (by kernel_rfl) rfl (fun a w K hS hA hF => TG.pa hS hA (clK C16 rfl rfl rfl rfl (fun w H hH le => w16 hH (⟨t270, orders, 3⟩ : Report) ⟨_, _, _, _, rfl, (hl386.mono (RWord.mono) (le.at 2 rfl)), (h_orders.mono (Flat.mono _) (le.at 9 rfl))⟩ hx388) (by
               rintro v_ K652 ⟨cs653, rfl, hr654⟩
               exact finU (f := fun q => .agg q.toArray) (G := (fun (q : List Value) K => (RReport) K q r387)) _ (fun _ _ _ h x => RReport.mono _ _ _ _ h x) hr654))) fun cs656 => ?_
             refine dt rfl (ldA G30 Z30 rfl rfl (sS 7 rfl hK12) rfl fin1) ?_
             refine DF.und (α := List Value) [] (fun q => .agg q.toArray) (fun (q : List Value) K => (RReader) K q r395) (fun _ _ _ h x => RReader.mono _ _ _ _ h x) (by kernel_rfl) rfl (fun a w K hS hA hF => TG.pa hS hA (clK C17 rfl rfl rfl rfl (fun w H hH le => w17 hH x_4 (RReader.mono _ _ _ _ (le.at 9 rfl) hh_x_4) hx396) (by
               rintro v_ K657 ⟨cs658, rfl, hr659⟩
               exact finU (f := fun q => .agg q.toArray) (G := (fun (q : List Value) K => (RReader) K q r395)) _ (fun _ _ _ h x => RReader.mono _ _ _ _ h x) hr659))) fun cs661 => ?_
             refine dt rfl (m1 rfl fin1) (DF.det rfl (fun a w K hS hA hF => TG.pa hS hA (clS C18 rfl rfl rfl rfl (fun w H hH le => w18 hH r387 (RReport.mono _ _ _ _ (le.at 0 rfl) (hF.2.1 rfl)) r395 (RReader.mono _ _ _ _ (le.at 0 rfl) (hF.1 rfl)) (s534 : Int) hx663) fin1)) (dt rfl (m1 rfl fin1) (dt rfl (ex rfl rfl rfl fin1) (dt rfl (ex rfl rfl rfl fin1) (dt rfl (a1 rfl fin1) (DF.nil fun K665 hF => ?_))))))
             obtain ⟨hu660, hu655, _⟩ := hF
             have hr666 := hu655
             obtain ⟨ad667, cap668, ad670, cap671, rfl, hl669, hl672⟩ := hu655
             have := hl669.len
             have := hl672.len
             have hr673 := hu660
             obtain ⟨ad674, cap675, rfl, hl676⟩ := hu660
             have := hl676.len
             refine a1 rfl (on (sq ?_))
             obtain ⟨r689, hx690, hr691⟩ := bd_some hr664
             refine drG 16 mixed (by kernel_rfl) rfl (dt rfl (ldA G24 Z24 rfl rfl (sS 9 rfl hK9) rfl fin1) ?_)
             refine DF.und (α := List Value) [] (fun q => .agg q.toArray) (fun (q : List Value) K => (RVolume) K q r82) (fun _ _ _ h x => RVolume.mono _ _ _ _ h x) (by kernel_rfl) rfl (fun a w K hS hA hF => TG.pa hS hA (clK C11 rfl rfl rfl rfl (fun w H hH le => w11 hH v_0 (RVolume.mono _ _ _ _ (le.at 10 rfl) hh_v_0) hx83) (by
               rintro v_ K677 ⟨cs678, rfl, hr679⟩
               exact finU (f := fun q => .agg q.toArray) (G := (fun (q : List Value) K => (RVolume) K q r82)) _ (fun _ _ _ h x => RVolume.mono _ _ _ _ h x) hr679))) fun cs681 => ?_
             refine dt rfl (m1 rfl fin1) ?_
             refine DF.und (α := Option Addr × Nat) (none, 0) (fun q => .slice q.1 r92.length q.2) (fun (q : Option Addr × Nat) K => Sl (Flat encErratum) 6 K q.1 q.2 r92) (fun _ _ _ h x => x.mono (Flat.mono _) h) (by kernel_rfl) rfl (fun a w K hS hA hF => TG.pa hS hA (clK C12 rfl rfl rfl rfl (fun w H hH le => w12 hH (h_errata.mono (Flat.mono _) (le.at 10 rfl)) hx93) (by
               rintro v_ K682 ⟨ad683, cap684, rfl, hl685⟩
               exact finU (f := fun q => .slice q.1 r92.length q.2) (G := (fun (q : Option Addr × Nat) K => Sl (Flat encErratum) 6 K q.1 q.2 r92)) (_, _) (fun _ _ _ h x => x.mono (Flat.mono _) h) hl685))) ?_
             rintro ⟨ad687, cap688⟩
             refine dt rfl (m1 rfl fin1) (dt rfl (m1 rfl fin1) (dt rfl (iaP U56 Z67 rfl rfl rfl rfl (lt_of hx639) fin1) (dt rfl (fb 0 U67 rfl rfl rfl rfl Z9 fin1) (dt rfl (ld G9 rfl rfl ((sS 2 rfl hq644).take 1) rfl fin1) (DF.det rfl (fun a w K hS hA hF => TG.pa hS hA (clS C19 rfl rfl rfl rfl (fun w H hH le => w19 hH (hg.mono (le.at 10 rfl)) r82 (RVolume.mono _ _ _ _ (le.at 0 rfl) (hF.2.1 rfl)) ((hF.1 rfl).mono (Flat.mono _) (le.at 0 rfl)) x638.text hx690) fin1)) (dt rfl (m1 rfl fin1) (dt rfl (ex rfl rfl rfl fin1) (dt rfl (ex rfl rfl rfl fin1) (dt rfl (ex rfl rfl rfl fin1) (dt rfl (a1 rfl fin1) (dt rfl (a1 rfl fin1) ?_)))))))))))
             refine DF.nil fun K692 hF => ?_
             obtain ⟨hu686, hu680, _⟩ := hF
             have hr693 := hu680
             obtain ⟨ad694, cap695, rfl, hl696⟩ := hu680
             have := hl696.len
             have := hu686.len
             refine a1 rfl (on (sq ?_))
             obtain ⟨t728, hx729, hr730⟩ := bd_some hr691
             refine jn (fun a w => St M W H [K692, K665, K416, K385, K274, K104, K95, K85, K11, K8, H] [(1, cel b123 48 [.slice ad271 t270.length cap272, .slice ad_orders orders.length cap_orders, .int .i64 3])] w ∧ Has [] 193 a [(1, .slice ad_errata errata.length cap_errata), (2, .int .u16 day), (5, .pointer (some q7)), (9, .pointer (some q10)), (11, .slice ad105 r101.1.length cap106), (13, .pointer (some (⟨b123, 0, none⟩))), (17, .slice (some p641) r403.1.length cap412), (19, .int .i64 (s534 : Int)), (191, .bool t728)]) ?_ ?_
             ·refine rg (m1 rfl (neI rfl rfl rfl (m1 rfl ?_)))
              by_cases hb731 : r662.2 ≠ 0
              ·have hr732 := if_p hb731 hx729
               refine gf' hb731 rfl (gf' hb731 rfl (pt hb731 rfl rfl (m1 rfl (gF rfl rfl rfl rfl (gF rfl rfl rfl rfl (pT rfl rfl rfl rfl (m1 rfl (gF rfl rfl rfl rfl (gF rfl rfl rfl rfl (gF rfl rfl rfl rfl (gF rfl rfl rfl rfl ?_)))))))))))
               refine pT rfl rfl rfl rfl (m1 rfl (gF rfl rfl rfl rfl (gF rfl rfl rfl rfl (gF rfl rfl rfl rfl (gF rfl rfl rfl rfl (pT rfl rfl rfl rfl (m1 rfl (gF rfl rfl rfl rfl (gF rfl rfl rfl rfl (gF rfl rfl rfl rfl (gF rfl rfl rfl rfl ?_)))))))))))
               refine gF rfl rfl rfl rfl (gF rfl rfl rfl rfl (gF rfl rfl rfl rfl (pT rfl rfl rfl rfl (m1 rfl (gF rfl rfl rfl rfl (gF rfl rfl rfl rfl (gF rfl rfl rfl rfl (gF rfl rfl rfl rfl (pT rfl rfl rfl rfl (on ?_))))))))))
               cases hr732
               exact cu ⟨rfl, rfl, rfl, rfl, rfl, rfl, rfl, rfl, rfl, tv⟩
              ·have hr733 := if_n hb731 hx729
               refine gt' hb731 rfl (m1 rfl (gt' hb731 rfl (neI rfl rfl rfl (pf hb731 rfl rfl (m1 rfl ?_)))))
               by_cases hb734 : r689.2.2 ≠ 0
               ·have hr735 := if_p hb734 hr733
                refine gf' hb734 rfl (gf' hb734 rfl (pt hb734 rfl rfl (m1 rfl (gF rfl rfl rfl rfl (gF rfl rfl rfl rfl (gF rfl rfl rfl rfl (gF rfl rfl rfl rfl (pT rfl rfl rfl rfl (m1 rfl (gF rfl rfl rfl rfl (gF rfl rfl rfl rfl ?_)))))))))))
                refine gF rfl rfl rfl rfl (gF rfl rfl rfl rfl (pT rfl rfl rfl rfl (m1 rfl (gF rfl rfl rfl rfl (gF rfl rfl rfl rfl (gF rfl rfl rfl rfl (gF rfl rfl rfl rfl (gF rfl rfl rfl rfl (gF rfl rfl rfl rfl (gF rfl rfl rfl rfl (pT rfl rfl rfl rfl ?_)))))))))))
                refine m1 rfl (gF rfl rfl rfl rfl (gF rfl rfl rfl rfl (gF rfl rfl rfl rfl (gF rfl rfl rfl rfl (pT rfl rfl rfl rfl (on ?_))))))
                cases hr735
                exact cu ⟨rfl, rfl, rfl, rfl, rfl, rfl, rfl, rfl, rfl, tv⟩
               ·have hr736 := if_n hb734 hr733
                refine gt' hb734 rfl (m1 rfl (gt' hb734 rfl (ltI rfl rfl rfl (pf hb734 rfl rfl (m1 rfl ?_)))))
                by_cases hb737 : r662.1 < 0
                ·have hr738 := if_p hb737 hr736
                 refine gf' hb737 rfl (gf' hb737 rfl (gf' hb737 rfl (gf' hb737 rfl (pt hb737 rfl rfl (m1 rfl (gF rfl rfl rfl rfl (gF rfl rfl rfl rfl (gF rfl rfl rfl rfl (gF rfl rfl rfl rfl (pT rfl rfl rfl rfl (m1 rfl ?_)))))))))))
                 refine gF rfl rfl rfl rfl (gF rfl rfl rfl rfl (gF rfl rfl rfl rfl (gF rfl rfl rfl rfl (gF rfl rfl rfl rfl (gF rfl rfl rfl rfl (gF rfl rfl rfl rfl (pT rfl rfl rfl rfl (m1 rfl (gF rfl rfl rfl rfl (gF rfl rfl rfl rfl (gF rfl rfl rfl rfl ?_)))))))))))
                 refine gF rfl rfl rfl rfl (pT rfl rfl rfl rfl (on ?_))
                 cases hr738
                 exact cu ⟨rfl, rfl, rfl, rfl, rfl, rfl, rfl, rfl, rfl, tv⟩
                ·have hr739 := if_n hb737 hr736
                 refine gt' hb737 rfl (m1 rfl (gt' hb737 rfl (m1 rfl (gt' hb737 rfl (lnL U36 rfl rfl (gt' hb737 rfl (geI rfl rfl rfl (pf hb737 rfl rfl (m1 rfl ?_)))))))))
                 by_cases hb740 : (r101.1.length : Int) ≤ r662.1
                 ·have hr741 := if_p hb740 hr739
                  refine gf' hb740 rfl (gf' hb740 rfl (gf' hb740 rfl (gf' hb740 rfl (pt hb740 rfl rfl (m1 rfl (gF rfl rfl rfl rfl (gF rfl rfl rfl rfl (gF rfl rfl rfl rfl (gF rfl rfl rfl rfl (gF rfl rfl rfl rfl (gF rfl rfl rfl rfl ?_)))))))))))
                  refine gF rfl rfl rfl rfl (pT rfl rfl rfl rfl (m1 rfl (gF rfl rfl rfl rfl (gF rfl rfl rfl rfl (gF rfl rfl rfl rfl (gF rfl rfl rfl rfl (pT rfl rfl rfl rfl (on ?_))))))))
                  cases hr741
                  exact cu ⟨rfl, rfl, rfl, rfl, rfl, rfl, rfl, rfl, rfl, tv⟩
                 ·have hr742 := if_n hb740 hr739
                  refine gt' hb740 rfl (m1 rfl (gt' hb740 rfl (m1 rfl (gt' hb740 rfl (cvI U26 U3 rfl rfl (wr_i64 hk99) (gt' hb740 rfl (neI rfl rfl rfl (pf hb740 rfl rfl (m1 rfl ?_)))))))))
                  by_cases hb743 : r689.2.1 ≠ day
                  ·have hr744 := if_p hb743 hr742
                   refine gf' hb743 rfl (gf' hb743 rfl (gf' hb743 rfl (gf' hb743 rfl (gf' hb743 rfl (gf' hb743 rfl (gf' hb743 rfl (pt hb743 rfl rfl (m1 rfl (gF rfl rfl rfl rfl (gF rfl rfl rfl rfl (gF rfl rfl rfl rfl ?_)))))))))))
                   refine gF rfl rfl rfl rfl (pT rfl rfl rfl rfl (on ?_))
                   cases hr744
                   exact cu ⟨rfl, rfl, rfl, rfl, rfl, rfl, rfl, rfl, rfl, tv⟩
                  ·have hr745 := if_n hb743 hr742
                   refine gt' hb743 rfl (m1 rfl (gt' hb743 rfl (m1 rfl (gt' hb743 rfl (m1 rfl (gt' hb743 rfl ?_))))))
                   obtain ⟨hk746, hr747⟩ := chk_some hr745
                   obtain ⟨x748, hx749, hr750⟩ := bd_some hr747
                   obtain ⟨p751, rfl⟩ := hl107.adr hx749
                   obtain ⟨cs752, hcs753, hq754, hr755⟩ := hl107.at hx749
                   obtain rfl := hr755
                   refine iaP U36 Z52 rfl rfl rfl (by omega) (lt_of hx749) (gt' hb743 rfl (fb 0 U52 rfl rfl rfl rfl Z3 (gt' hb743 rfl (ld G3 rfl rfl ((sS 5 rfl hq754).take 1) rfl (gt' hb743 rfl (neI rfl rfl rfl (pf hb743 rfl rfl (m1 rfl ?_))))))))
                   by_cases hb756 : r689.1 ≠ x748.anchor
                   ·have hr757 := if_p hb756 hr750
                    refine gf' hb756 rfl (gf' hb756 rfl (gf' hb756 rfl (gf' hb756 rfl (pt hb756 rfl rfl (on ?_)))))
                    cases hr757
                    exact cu ⟨rfl, rfl, rfl, rfl, rfl, rfl, rfl, rfl, rfl, tv⟩
                   ·have hr758 := if_n hb756 hr750
                    refine gt' hb756 rfl (ldA G48 Z48 rfl rfl (sO 1 rfl) rfl (gt' hb756 rfl (ldA G30 Z30 rfl rfl (sS 8 rfl hK12) rfl (gt' hb756 rfl (m1 rfl (gt' hb756 rfl ?_))))))
                    obtain ⟨r759, hx760, hr761⟩ := bd_some hr758
                    refine clS C20 rfl rfl rfl rfl (fun w H hH le => w20 hH (⟨t270, orders, 3⟩ : Report) ⟨_, _, _, _, rfl, (hl386.mono (RWord.mono) (le.at 3 rfl)), (h_orders.mono (Flat.mono _) (le.at 10 rfl))⟩ x_4 (RReader.mono _ _ _ _ (le.at 10 rfl) hh_x_4) r662.1 hx760) (pf hb756 rfl rfl (on ?_))
                    cases hr761
                    exact cu ⟨rfl, rfl, rfl, rfl, rfl, rfl, rfl, rfl, rfl, tv⟩
             ·rintro a w ⟨hS, hA⟩
              refine TG.ap ?_ hS hA
              refine cb rfl (fun hc765 => ?_) (fun hc765 => ?_)
              ·have hr766 := if_p hc765 hr730
               refine sq (rg (a1 rfl (on (rt_ ?_))))
               cases hr766
               cases hr636
               obtain rfl := Fin.out hz536
               cases hr532
               intro a w hS hA
               refine ret1 hA rfl rfl ?_
               exact ⟨rfl, hS.ext⟩
              ·have hr767 := if_f hc765 hr730
               refine sk ?_
               cases hr767
               intro a w hS hA
               exact ⟨_, rfl, hS.selH [2, 3, 4, 5, 6, 7, 8, 9, 10] rfl, hA.cut ⟨rfl, rfl, rfl, rfl, rfl, rfl, rfl, rfl, tv⟩⟩
           ·rintro a w ⟨t637, rfl, hS, hA⟩
            refine TG.ap ?_ hS hA
            refine rg (m1 rfl (adI rfl rfl rfl (by omega) (a1 rfl (on ?_))))
            cases hr636
            intro a w hS hA
            exact ⟨_, hz536, hS, hA.cut ⟨rfl, rfl, rfl, rfl, rfl, rfl, rfl, rfl, tv⟩⟩
          ·have hr768 := if_n hc541 hr535
           refine xt rfl ?_
           cases hr768
           obtain rfl := Fin.out hz536
           intro a w hS hA
           exact ⟨_, rfl, hS, hA.cut tv⟩
        ·rintro a w ⟨t533, rfl, hS, hA⟩
         refine TG.ap ?_ hS hA
         refine sq (rg ?_)
         obtain ⟨r769, hx770, hr771⟩ := bd_some hr532
         refine clS C9 rfl rfl rfl rfl (fun w H hH le => w9  hx770) (a1 rfl (on (rt_ ?_)))
         cases hr771
         intro a w hS hA
         refine ret1 hA rfl rfl ?_
         exact ⟨rfl, hS.ext⟩

end T10
