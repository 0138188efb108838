/-
 Walks of functions of an index: each call comes to what the model says. Printed by a program of ours.
-/
import Derived.Test.YtejccogankgniaaGreatDoorWalkA
set_option linter.all false
set_option maxHeartbeats 4000000
namespace T11
open Go Go.Proofs Pk
theorem w100 {M : Prop} {W : World} {H : Hp} (hH : H.le (hp W)) (hg : Gv M H) {cs_h_0 : List Value} (h_0 : Heading) (h_h_0 : (RHeading) H cs_h_0 h_0) {r : Bytes} (hr : m100 h_0 = some r) : Calls Tryz.prog 100 [.agg cs_h_0.toArray].toArray W (RetS M W (.string (bs r))) := by
 have hh_h_0 := h_h_0
 obtain ⟨ad1, cap2, ad4, cap5, ad7, cap8, rfl, hl3, hl6, hl9⟩ := h_h_0
 have := hl3.len
 have := hl6.len
 have := hl9.len
 unfold m100 at hr
 refine enterG (M := M) Tryz.func100 rfl Tryz.ntmps100 rfl hH ?_
 refine sq (rg (bI (cs := [.string (bs h_0.name), .slice ad1 h_0.variants.length cap2, .slice ad4 h_0.also.length cap5, .slice ad7 h_0.places.length cap8]) rfl rfl rfl fun q10 K11 hK12 => (a1 rfl (on (sq (rg (a1 rfl (on (sq (sq (rg ?_)))))))))))
 refine fb 3 U64 rfl rfl rfl rfl Z62 (ld G62 rfl rfl ((sS 0 rfl hK12).drop 3) rfl (lnL U62 rfl rfl (m1 rfl (on (TG.nilRow 2 9 1 (TG.as 2 (z := Own.list none 0 9 1 encS ([] : List Bytes)) rfl rfl ?_))))))
 obtain ⟨e94, hl95, hr96⟩ := bd_some hr
 refine jn (fun a w => ∃ (ad97 : Option Addr) (cap98 : Nat), St M W H [K11, H] [(2, Own.list ad97 cap98 9 1 encS e94)] w ∧ Has [] 38 a [(1, .pointer (some q10)), (3, .slice ad97 e94.length cap98)]) ?_ ?_
 ·refine bk ?_
  refine lp hl95 (fun s99 a w => ∃ (ad100 : Option Addr) (cap101 : Nat), St M W H [K11, H] [(2, Own.list ad100 cap101 9 1 encS s99.2)] w ∧ Has [] 38 a [(1, .pointer (some q10)), (3, .slice ad100 s99.2.length cap101), (8, .slice ad7 h_0.places.length cap8), (9, .int .i64 (h_0.places.length : Int)), (10, .int .i64 (s99.1 : Int))]) ?_ ?_
  ·intro a w hS hA
   exact ⟨none, 0, hS, hA.cut ⟨rfl, rfl, rfl, rfl, rfl, tv⟩⟩
  ·rintro j s99 y104 hr102 hz103 a w ⟨ad100, cap101, hS, hA⟩
   refine TG.ap ?_ hS hA
   unfold m100_1 at hr102
   refine sq (rg (ltI rfl rfl rfl (on (sq ?_))))
   refine ci rfl (fun hc108 => ?_) (fun hc108 => ?_)
   ·have hr109 := if_p hc108 hr102
    refine sk (sq (bk (sq (rg ?_))))
    obtain ⟨x131, hx132, hr133⟩ := bd_some hr109
    obtain ⟨p134, rfl⟩ := hl9.adr hx132
    obtain ⟨cs135, hcs136, hq137, hr138⟩ := hl9.at hx132
    obtain rfl := hr138
    refine iaP U62 Z81 rfl rfl rfl rfl (lt_of hx132) (ldA G81 Z81 rfl rfl (sS 1 rfl hq137) rfl (va (cs := [.int .i64 x131.volume, .int .i64 x131.from_, .int .i64 x131.to_]) Tryz.zeroValue81 Z81 rfl rfl rfl rfl rfl rfl rfl rfl fun q139 K140 hK141 => (on (rg (m1 rfl (ldA G81 Z81 rfl rfl (sS 0 rfl hK141) rfl ?_))))))
    obtain ⟨r142, hx143, hr144⟩ := bd_some hr133
    refine clS C139 rfl rfl rfl rfl (fun w H hH le => w139 hH (hg.mono (le.at 2 rfl)) x131 rfl hx143) ?_
    obtain ⟨hk145, hr146⟩ := chk_some hr144
    refine cat rfl rfl rfl hk145 ?_
    obtain ⟨hk147, hr148⟩ := chk_some hr146
    have := lenA s99.2 [([32] ++ r142)]
    have := len1 ([32] ++ r142)
    refine ap1 2 encS (l := s99.2) ([32] ++ r142) T11.E50 rfl rfl rfl rfl rfl rfl rfl rfl rfl rfl rfl rfl hk147 fun ad149 cap150 u151 => (a1 rfl (on (rg (adI rfl rfl rfl (by omega) (m1 rfl (on ?_))))))
    cases hr148
    intro a w hS hA
    exact ⟨_, hz103, ad149, cap150, hS.selH [1, 2] rfl, hA.cut ⟨rfl, rfl, rfl, rfl, rfl, tv⟩⟩
   ·have hr152 := if_n hc108 hr102
    refine xt rfl ?_
    cases hr152
    obtain rfl := Fin.out hz103
    intro a w hS hA
    exact ⟨ad100, cap101, hS, hA.cut ⟨rfl, rfl, tv⟩⟩
 ·rintro a w ⟨ad97, cap98, hS, hA⟩
  apply TG.ap ?_ hS hA
  refine sq ?_
  obtain ⟨hk153, hr154⟩ := chk_some hr96
  obtain ⟨r155, hx156, hr157⟩ := bd_some hr154
  refine drG 5 mixed (by kernel_rfl) rfl (dt rfl (fb 0 U64 rfl rfl rfl rfl Z9 fin1) (dt rfl (ld G9 rfl rfl ((sS 1 rfl hK12).take 1) rfl fin1) (dt rfl (cat rfl rfl rfl hk153 fin1) (dt rfl (m1 rfl fin1) (dt rfl (clL C140 rfl rfl rfl rfl (fun w hS => w140 (Hp.le.refl (hp w)) (hg.mono (hS.hp 2 rfl)) (list_sl (H := hp w) (enc := encS) (size := 1) (ad := ad97) (cap := cap98) (el := 9) (l := e94) (fun _ => rfl) (hS.get (t := 2) rfl) (fun _ _ _ ho => ho)) [44] hx156) fin1) (DF.nil fun K158 hF => ?_))))))
  obtain ⟨hk159, hr160⟩ := chk_some hr157
  refine cat rfl rfl rfl hk159 (a1 rfl (on (sq (sq (rg (fb 2 U64 rfl rfl rfl rfl Z50 (ld G50 rfl rfl (((sS 1 rfl hK12).drop 2).take 1) rfl (lnL U50 rfl rfl (gtI rfl rfl rfl (on ?_))))))))))
  obtain ⟨t171, hx172, hr173⟩ := bd_some hr160
  refine jn (fun a w => St M W H [K158, K11, H] [(2, Own.list ad97 cap98 9 1 encS e94)] w ∧ Has [] 38 a [(6, .string (bs t171))]) ?_ ?_
  ·refine ci rfl (fun hc174 => ?_) (fun hc174 => ?_)
   ·have hr175 := if_p hc174 hx172
    refine rg (m1 rfl (fb 2 U64 rfl rfl rfl rfl Z50 (ld G50 rfl rfl (((sS 1 rfl hK12).drop 2).take 1) rfl ?_)))
    obtain ⟨r176, hx177, hr178⟩ := bd_some hr175
    refine clS C140 rfl rfl rfl rfl (fun w H hH le => w140 hH (hg.mono (le.at 2 rfl)) (hl6.mono (Flat.mono _) (le.at 2 rfl)) [44, 32] hx177) ?_
    obtain ⟨hk179, hr180⟩ := chk_some hr178
    refine cat rfl rfl rfl hk179 ?_
    obtain ⟨hk181, hr182⟩ := chk_some hr180
    refine cat rfl rfl rfl hk181 (a1 rfl (on ?_))
    cases hr182
    exact cu ⟨rfl, tv⟩
   ·have hr183 := if_n hc174 hx172
    refine sk ?_
    cases hr183
    exact cu ⟨rfl, tv⟩
  ·rintro a w ⟨hS, hA⟩
   refine TG.ap ?_ hS hA
   refine sq (rg (m1 rfl (a1 rfl (on (rt_ ?_)))))
   cases hr173
   intro a w hS hA
   refine ret1 hA rfl rfl ?_
   exact ⟨rfl, hS.ext⟩

theorem w63 {M : Prop} {W : World} {H : Hp} (hH : H.le (hp W)) (hg : Gv M H) {ad_l_0 : Option Addr} {cap_l_0 : Nat} {l_0 : List Heading} (h_l_0 : Sl (RHeading) 4 H ad_l_0 cap_l_0 l_0) {r : Bytes} (hr : m63 l_0 = some r) : Calls Tryz.prog 63 [.slice ad_l_0 l_0.length cap_l_0].toArray W (RetS M W (.string (bs r))) := by
 have := h_l_0.len
 unfold m63 at hr
 refine enterGM (M := M) Tryz.func63 rfl Tryz.ntmps63 rfl hH ?_
 refine sq (rg (a1 rfl (on (sq (rg (mkM 1 keS (fun x => Value.string (bs x)) rfl fun b1 => (al 2 (cs := [.map none]) Tryz.zeroValue84 rfl rfl fun b2 => (sto 2 (cs := [.map (some b1)]) Z84 rfl rfl rfl rfl rfl rfl rfl (on (sq (rg ?_)))))))))))
 refine al 3 (cs := [.slice none 0 0]) Tryz.zeroValue50 rfl rfl fun b3 => (on (sq (sq (rg (m1 rfl (lnL U26 rfl rfl (m1 rfl (on (TG.nilRow 8 9 1 (TG.as 8 (z := Own.list none 0 9 1 encS ([] : List Bytes)) rfl rfl ?_))))))))))
 obtain ⟨e552, hl553, hr554⟩ := bd_some hr
 refine jn (fun a w => ∃ (ad555 : Option Addr) (cap556 : Nat) (bs557 : List Nat), St M W H [H] ([(8, Own.list ad555 cap556 9 1 encS e552.1), (3, cel b3 50 [.slice ad555 e552.1.length cap556]), (2, cel b2 84 [.map (some b1)]), (1, Own.map' keS (fun x => Value.string (bs x)) b1 e552.2)] ++ MK bs557) w ∧ Has (bs557.map mk1) 53 a [(3, .pointer (some (⟨b2, 0, none⟩))), (4, .pointer (some (⟨b3, 0, none⟩)))]) ?_ ?_
 ·refine bk ?_
  refine lp hl553 (fun s558 a w => ∃ (ad559 : Option Addr) (cap560 : Nat) (bs561 : List Nat), St M W H [H] ([(8, Own.list ad559 cap560 9 1 encS s558.2.1), (3, cel b3 50 [.slice ad559 s558.2.1.length cap560]), (2, cel b2 84 [.map (some b1)]), (1, Own.map' keS (fun x => Value.string (bs x)) b1 s558.2.2)] ++ MK bs561) w ∧ Has (bs561.map mk1) 53 a [(3, .pointer (some (⟨b2, 0, none⟩))), (4, .pointer (some (⟨b3, 0, none⟩))), (12, .slice ad_l_0 l_0.length cap_l_0), (13, .int .i64 (l_0.length : Int)), (14, .int .i64 (s558.1 : Int))]) ?_ ?_
  ·intro a w hS hA
   exact ⟨none, 0, [], hS, hA.cut ⟨rfl, rfl, rfl, rfl, rfl, tv⟩⟩
  ·rintro j s558 y564 hr562 hz563 a w ⟨ad559, cap560, bs561, hS, hA⟩
   refine TG.ap ?_ hS hA
   unfold m63_1 at hr562
   refine sq (rg (ltI rfl rfl rfl (on (sq ?_))))
   refine ci rfl (fun hc568 => ?_) (fun hc568 => ?_)
   ·have hr569 := if_p hc568 hr562
    refine sk (sq (bk (sq (rg ?_))))
    obtain ⟨x709, hx710, hr711⟩ := bd_some hr569
    obtain ⟨p712, rfl⟩ := h_l_0.adr hx710
    obtain ⟨cs713, hcs714, hq715, hr716⟩ := h_l_0.at hx710
    have hr717 := hr716
    obtain ⟨ad718, cap719, ad721, cap722, ad724, cap725, rfl, hl720, hl723, hl726⟩ := hr716
    have := hl720.len
    have := hl723.len
    have := hl726.len
    refine iaP U26 Z64 rfl rfl rfl rfl (lt_of hx710) (ldA G64 Z64 rfl rfl (sS 0 rfl hq715) rfl (va (cs := [.string (bs x709.name), .slice ad718 x709.variants.length cap719, .slice ad721 x709.also.length cap722, .slice ad724 x709.places.length cap725]) Tryz.zeroValue64 Z64 rfl rfl rfl rfl rfl rfl rfl rfl fun q727 K728 hK729 => (on (sq (sq (rg (ldA G64 Z64 rfl rfl (sS 0 rfl hK729) rfl (clT C51 Tryz.func51 rfl Tryz.ntmps51 rfl rfl rfl rfl (sq (rg (bI (cs := [.string (bs x709.name), .slice ad718 x709.variants.length cap719, .slice ad721 x709.also.length cap722, .slice ad724 x709.places.length cap725]) rfl rfl rfl fun q733 K734 hK735 => ?_)))))))))))
    refine a1 rfl (on (sq (rg (fn rfl rfl rfl (a1 rfl (on (rt_ ?_)))))))
    intro a w hS hA
    refine ret1 hA rfl rfl ?_
    refine ⟨_, rfl, fun a hA => ?_⟩
    refine putK rfl hA hS (on (bk ?_))
    obtain ⟨t953, hx954, hr955⟩ := bd_some hr711
    refine rfO 4 5 C84 Tryz.func84 rfl Tryz.ntmps84 rfl rfl (fun l847 dB848 O850 w => (∃ (ad956 : Option Addr) (cap957 : Nat), St M W H [K734, K728, H] ([(4, Own.blk l847 (O850 .ready none)), (5, Own.blk dB848 (.deferred (some []))), (8, Own.list ad956 cap957 9 1 encS t953.1), (3, cel b3 50 [.slice ad956 t953.1.length cap957]), (2, cel b2 84 [.map (some b1)]), (1, Own.map' keS (fun x => Value.string (bs x)) b1 t953.2)] ++ MK bs561) w)) ?_ ?_
    ·intro l847 dB848 O850 tm849 hT851 hO852
     refine sq (sq (rg (m1 rfl (fb 0 U64 rfl rfl rfl rfl Z9 (ld G9 rfl rfl ((sS 0 rfl hK735).take 1) rfl ?_)))))
     obtain ⟨t967, hx968, hr969⟩ := bd_some hx954
     refine yl 4 [] (L1 := (20, .string (bs x709.name)) :: _) rfl rfl rfl hT851 hO852 rfl rfl rfl (fun v w => (∃ (ad970 : Option Addr) (cap971 : Nat), v = .bool true ∧ St M W H [K734, K728, H] ([(4, Own.blk l847 (O850 .ready none)), (5, Own.blk dB848 (.deferred (some []))), (8, Own.list ad970 cap971 9 1 encS t967.1), (3, cel b3 50 [.slice ad970 t967.1.length cap971]), (2, cel b2 84 [.map (some b1)]), (1, Own.map' keS (fun x => Value.string (bs x)) b1 t967.2)] ++ MK bs561) w)) ?_ ?_
     ·refine rg (a1 rfl (on (bR 4 hO852 rfl (bk (sq (rg (ld G50 rfl rfl (sO 3 rfl) rfl (m1 rfl ?_))))))))
      obtain ⟨hk981, hr982⟩ := chk_some hx968
      have := lenA s558.2.1 [x709.name]
      have := len1 x709.name
      refine ap1 8 encS (l := s558.2.1) x709.name T11.E50 rfl rfl rfl rfl rfl rfl rfl rfl rfl rfl rfl rfl hk981 fun ad983 cap984 u985 => (sto 3 (cs := [.slice ad983 ((s558.2.1 ++ [x709.name]).length) cap984]) Z50 rfl rfl rfl rfl rfl rfl rfl (on (rg (ld G84 rfl rfl (sO 2 rfl) rfl (m1 rfl (m1 rfl ?_))))))
      obtain ⟨hk986, hr987⟩ := chk_some hr982
      refine cat rfl rfl rfl hk986 (fb 0 U64 rfl rfl rfl rfl Z9 (ld G9 rfl rfl ((sS 1 rfl hK729).take 1) rfl ?_))
      obtain ⟨hk988, hr989⟩ := chk_some hr987
      refine cat rfl rfl rfl hk988 (mpU 1 (ke := keS) (enc := (fun x => Value.string (bs x))) x709.name ((x709.name ++ [32, 61, 32]) ++ x709.name) U84 U9 rfl rfl rfl rfl (on ?_))
      cases hr989
      refine eR 4 none hO852 rfl fun w hS => ?_
      exact ⟨ad983, cap984, rfl, hS⟩
     ·rintro a w v hA (⟨ad970, cap971, rfl, hS⟩)
      refine putK rfl hA hS (nt rfl rfl (on (cF rfl rfl (sk (sq (rg (fb 1 U64 rfl rfl rfl rfl Z50 (ld G50 rfl rfl (((sS 0 rfl hK735).drop 1).take 1) rfl (lnL U50 rfl rfl (m1 rfl (on ?_)))))))))))
      obtain ⟨e1073, hl1074, hr1075⟩ := bd_some hr969
      refine jn (fun a w => ∃ (ad1076 : Option Addr) (cap1077 : Nat), St M W H [K734, K728, H] ([(4, Own.blk l847 (O850 .ready none)), (5, Own.blk dB848 (.deferred (some []))), (8, Own.list ad1076 cap1077 9 1 encS e1073.1), (3, cel b3 50 [.slice ad1076 e1073.1.length cap1077]), (2, cel b2 84 [.map (some b1)]), (1, Own.map' keS (fun x => Value.string (bs x)) b1 e1073.2)] ++ MK bs561) w ∧ Has [] 22 a []) ?_ ?_
      ·refine bk ?_
       refine lp hl1074 (fun s1078 a w => ∃ (ad1079 : Option Addr) (cap1080 : Nat), St M W H [K734, K728, H] ([(4, Own.blk l847 (O850 .ready none)), (5, Own.blk dB848 (.deferred (some []))), (8, Own.list ad1079 cap1080 9 1 encS s1078.2.1), (3, cel b3 50 [.slice ad1079 s1078.2.1.length cap1080]), (2, cel b2 84 [.map (some b1)]), (1, Own.map' keS (fun x => Value.string (bs x)) b1 s1078.2.2)] ++ MK bs561) w ∧ Has [] 22 a [(0, .func (.yield l847) #[] #[]), (11, .slice ad718 x709.variants.length cap719), (12, .int .i64 (x709.variants.length : Int)), (13, .int .i64 (s1078.1 : Int))]) ?_ ?_
       ·intro a w hS hA
        exact ⟨ad970, cap971, hS, hA.cut ⟨rfl, rfl, rfl, rfl, tv⟩⟩
       ·rintro j s1078 y1083 hr1081 hz1082 a w ⟨ad1079, cap1080, hS, hA⟩
        refine TG.ap ?_ hS hA
        unfold m63_2 at hr1081
        refine sq (rg (ltI rfl rfl rfl (on (sq ?_))))
        refine ci rfl (fun hc1087 => ?_) (fun hc1087 => ?_)
        ·have hr1088 := if_p hc1087 hr1081
         refine sk (sq (bk (sq (rg ?_))))
         obtain ⟨x1111, hx1112, hr1113⟩ := bd_some hr1088
         obtain ⟨p1114, rfl⟩ := hl720.adr hx1112
         obtain ⟨cs1115, hcs1116, hq1117, hr1118⟩ := hl720.at hx1112
         obtain rfl := hr1118
         refine iaP U50 Z9 rfl rfl rfl rfl (lt_of hx1112) (ld G9 rfl rfl (sS 2 rfl hq1117) rfl (a1 rfl (on (sq (rg (m1 rfl (m1 rfl ?_)))))))
         obtain ⟨t1128, hx1129, hr1130⟩ := bd_some hr1113
         refine yl 4 [] (L1 := (20, .string (bs x1111)) :: _) rfl rfl rfl hT851 hO852 rfl rfl rfl (fun v w => (∃ (ad1131 : Option Addr) (cap1132 : Nat), v = .bool true ∧ St M W H [K734, K728, H] ([(4, Own.blk l847 (O850 .ready none)), (5, Own.blk dB848 (.deferred (some []))), (8, Own.list ad1131 cap1132 9 1 encS t1128.1), (3, cel b3 50 [.slice ad1131 t1128.1.length cap1132]), (2, cel b2 84 [.map (some b1)]), (1, Own.map' keS (fun x => Value.string (bs x)) b1 t1128.2)] ++ MK bs561) w)) ?_ ?_
         ·refine rg (a1 rfl (on (bR 4 hO852 rfl (bk (sq (rg (ld G50 rfl rfl (sO 3 rfl) rfl (m1 rfl ?_))))))))
          obtain ⟨hk1142, hr1143⟩ := chk_some hx1129
          have := lenA s1078.2.1 [x1111]
          have := len1 x1111
          refine ap1 8 encS (l := s1078.2.1) x1111 T11.E50 rfl rfl rfl rfl rfl rfl rfl rfl rfl rfl rfl rfl hk1142 fun ad1144 cap1145 u1146 => (sto 3 (cs := [.slice ad1144 ((s1078.2.1 ++ [x1111]).length) cap1145]) Z50 rfl rfl rfl rfl rfl rfl rfl (on (rg (ld G84 rfl rfl (sO 2 rfl) rfl (m1 rfl (m1 rfl ?_))))))
          obtain ⟨hk1147, hr1148⟩ := chk_some hr1143
          refine cat rfl rfl rfl hk1147 (fb 0 U64 rfl rfl rfl rfl Z9 (ld G9 rfl rfl ((sS 1 rfl hK729).take 1) rfl ?_))
          obtain ⟨hk1149, hr1150⟩ := chk_some hr1148
          refine cat rfl rfl rfl hk1149 (mpU 1 (ke := keS) (enc := (fun x => Value.string (bs x))) x1111 ((x1111 ++ [32, 61, 32]) ++ x709.name) U84 U9 rfl rfl rfl rfl (on ?_))
          cases hr1150
          refine eR 4 none hO852 rfl fun w hS => ?_
          exact ⟨ad1144, cap1145, rfl, hS⟩
         ·rintro a w v hA (⟨ad1131, cap1132, rfl, hS⟩)
          refine putK rfl hA hS (nt rfl rfl (on (cF rfl rfl (sk (rg (adI rfl rfl rfl (by omega) (m1 rfl (on ?_))))))))
          cases hr1130
          intro a w hS hA
          exact ⟨_, hz1082, ad1131, cap1132, hS, hA.cut ⟨rfl, rfl, rfl, rfl, tv⟩⟩
        ·have hr1151 := if_n hc1087 hr1081
         refine xt rfl ?_
         cases hr1151
         obtain rfl := Fin.out hz1082
         intro a w hS hA
         exact ⟨ad1079, cap1080, hS, hA.cut tv⟩
      ·rintro a w ⟨ad1076, cap1077, hS, hA⟩
       apply TG.ap ?_ hS hA
       cases hr1075
       intro a w hS hA
       refine ret0 hA rfl ?_
       exact ⟨_, rfl, ⟨ad1076, cap1077, hS⟩⟩
    ·rintro l847 dB848 O850 tm849 a w hO852 hA (⟨ad956, cap957, hS⟩)
     refine TG.ap ?_ hS hA
     refine elN 4 hO852 rfl ?_
     obtain ⟨r1152, hx1153, hr1154⟩ := bd_some hr955
     refine drG 5 mixed (by kernel_rfl) rfl (dt rfl (ld G84 rfl rfl (sO 2 rfl) rfl fin1) (dt rfl (fb 0 U64 rfl rfl rfl rfl Z9 fin1) (dt rfl (ld G9 rfl rfl ((sS 2 rfl hK729).take 1) rfl fin1) (dt rfl (ldA G64 Z64 rfl rfl (sS 2 rfl hK729) rfl fin1) (dt rfl (clS C100 rfl rfl rfl rfl (fun w H hH le => w100 hH (hg.mono (le.at 3 rfl)) x709 (RHeading.mono _ _ _ _ (le.at 3 rfl) hr717) hx1153) fin1) (DF.nil fun K1155 hF => (mpU 1 (ke := keS) (enc := (fun x => Value.string (bs x))) x709.name r1152 U84 U9 rfl rfl rfl rfl (on (rg (adI rfl rfl rfl (by omega) (m1 rfl ?_)))))))))))
     refine on (TG.absM (A := [(5, Own.blk dB848 (.deferred (some []))), (8, Own.list ad956 cap957 9 1 encS t953.1), (3, cel b3 50 [.slice ad956 t953.1.length cap957]), (2, cel b2 84 [.map (some b1)]), (1, Own.map' keS (fun x => Value.string (bs x)) b1 (put t953.2 x709.name r1152))]) (bs := bs561) 5 rfl rfl ?_)
     cases hr1154
     intro a w hS hA
     exact ⟨_, hz563, ad956, cap957, (dB848 :: bs561), hS.selH [3] rfl, hA.cut ⟨rfl, rfl, rfl, rfl, rfl, tv⟩⟩
   ·have hr1156 := if_n hc568 hr562
    refine xt rfl ?_
    cases hr1156
    obtain rfl := Fin.out hz563
    intro a w hS hA
    exact ⟨ad559, cap560, bs561, hS, hA.cut ⟨rfl, rfl, tv⟩⟩
 ·rintro a w ⟨ad555, cap556, bs557, hS, hA⟩
  apply TG.ap ?_ hS hA
  refine sq (rg (ld G50 rfl rfl (sO 3 rfl) rfl ?_))
  obtain ⟨l1157, hx1158, hr1159⟩ := bd_some hr554
  have hln1160 : l1157.length = e552.1.length := (sortO_len hx1158)
  refine srt1 8 (enc := encS) (V := Vs) (V' := Vs) (fun x => Value.string (bs x)) (fun _ => rfl) (fun _ => rfl) Tryz.srt90 C90 rfl rfl rfl rfl rfl rfl (fun H le => ⟨55, [], [], rfl, C55, fun w_ K_ args_ v_ hK hw hs => by obtain ⟨u0_, u1_, x0_, x1_, r_, rfl, h0_, h1_, hx, rfl⟩ := hs; cases h0_; cases h1_; exact w55  x0_ x1_  hx⟩) (fun _ _ => rfl) (fun _ _ => rfl) hx1158 (on (sq (rg (al 9 (cs := [.pointer none, .slice none 0 0]) Tryz.zeroValue147 rfl rfl fun b1161 => (on (sq (sq (rg (ld G50 rfl rfl (sO 3 rfl) rfl (TG.len 8 rfl fun _ => (lnL U50 rfl rfl ?_)))))))))))
  refine m1 rfl (on (TG.nilRow 11 5 1 (TG.as 11 (z := Own.list none 0 5 1 encC ([] : List UInt8)) rfl rfl ?_)))
  obtain ⟨e1229, hl1230, hr1231⟩ := bd_some hr1159
  refine jn (fun a w => ∃ (ad1232 : Option Addr) (cap1233 : Nat), St M W H [H] ([(11, Own.list ad1232 cap1233 5 1 encC e1229.2), (9, cel b1161 147 [selfP b1161 e1229.1, .slice ad1232 e1229.2.length cap1233]), (8, Own.list ad555 cap556 9 1 encS l1157), (3, cel b3 50 [.slice ad555 e552.1.length cap556]), (2, cel b2 84 [.map (some b1)]), (1, Own.map' keS (fun x => Value.string (bs x)) b1 e552.2)] ++ MK bs557) w ∧ Has (bs557.map mk1) 53 a [(8, .pointer (some (⟨b1161, 0, none⟩)))]) ?_ ?_
  ·refine bk ?_
   refine lp hl1230 (fun s1234 a w => ∃ (ad1235 : Option Addr) (cap1236 : Nat), St M W H [H] ([(11, Own.list ad1235 cap1236 5 1 encC s1234.2.2), (9, cel b1161 147 [selfP b1161 s1234.2.1, .slice ad1235 s1234.2.2.length cap1236]), (8, Own.list ad555 cap556 9 1 encS l1157), (3, cel b3 50 [.slice ad555 e552.1.length cap556]), (2, cel b2 84 [.map (some b1)]), (1, Own.map' keS (fun x => Value.string (bs x)) b1 e552.2)] ++ MK bs557) w ∧ Has (bs557.map mk1) 53 a [(3, .pointer (some (⟨b2, 0, none⟩))), (8, .pointer (some (⟨b1161, 0, none⟩))), (40, .slice ad555 e552.1.length cap556), (41, .int .i64 (e552.1.length : Int)), (42, .int .i64 (s1234.1 : Int))]) ?_ ?_
   ·intro a w hS hA
    exact ⟨none, 0, hS, hA.cut ⟨rfl, rfl, rfl, rfl, rfl, tv⟩⟩
   ·rintro j s1234 y1239 hr1237 hz1238 a w ⟨ad1235, cap1236, hS, hA⟩
    refine TG.ap ?_ hS hA
    unfold m63_3 at hr1237
    refine sq (rg (ltI rfl rfl rfl (on (sq ?_))))
    refine ci rfl (fun hc1243 => ?_) (fun hc1243 => ?_)
    ·have hr1244 := if_p hc1243 hr1237
     refine sk (sq (bk (sq (rg ?_))))
     obtain ⟨x1260, hx1261, hr1262⟩ := bd_some hr1244
     refine TG.addr 8 rfl (lt_of0 hx1261) fun b1263 h => ?_; subst h
     refine iaP U50 Z9 rfl rfl rfl rfl (Nat.lt_of_lt_of_eq (lt_of hx1261) hln1160) (ld G9 rfl rfl (sE 8 rfl (fun _ => rfl) hx1261) rfl (a1 rfl (on (rg (ld G84 rfl rfl (sO 2 rfl) rfl (m1 rfl (lk1 (ke := keS) (enc := (fun x => Value.string (bs x))) x1260 (z0 := ([] : Bytes)) U84 U9 Tryz.zeroValue9 rfl rfl rfl rfl (mO 1 rfl) ?_)))))))
     obtain ⟨hk1264, hr1265⟩ := chk_some hr1262
     refine cat rfl rfl rfl hk1264 ?_
     obtain ⟨t1270, hx1271, hr1272⟩ := bd_some hr1265
     refine clI C101 Tryz.func101 rfl Tryz.ntmps101 rfl rfl rfl rfl (fun v w => (∃ (ad1273 : Option Addr) (cap1274 : Nat), v = .tuple [.int .i64 (t1270.1 : Int), .nilIface].toArray ∧ St M W H [H] ([(11, Own.list ad1273 cap1274 5 1 encC t1270.2.2), (9, cel b1161 147 [selfP b1161 t1270.2.1, .slice ad1273 t1270.2.2.length cap1274]), (8, Own.list (some ⟨b1263, 0, none⟩) cap556 9 1 encS l1157), (3, cel b3 50 [.slice (some ⟨b1263, 0, none⟩) e552.1.length cap556]), (2, cel b2 84 [.map (some b1)]), (1, Own.map' keS (fun x => Value.string (bs x)) b1 e552.2)] ++ MK bs557) w)) ?_ ?_
     ·refine sq (rg (a1 rfl (a1 rfl (on (sq (rg (m1 rfl (clOw _ C141 rfl rfl rfl (fun w hS => Tryz.ccS hS (T := 9) (k := s1234.2.1) rfl) (on (sq (rg ?_)))))))))))
      refine m1 rfl (m1 rfl (nl rfl rfl (fb 1 U147 rfl rfl rfl rfl Z37 (ld G37 rfl rfl ((sO 9 rfl).drop 1) rfl (m1 rfl ?_)))))
      obtain ⟨hk1275, hr1276⟩ := chk_some hx1271
      refine apT hg.gl.nq 11 (l := s1234.2.2) (s := (((lkp e552.2 x1260).getD ([] : Bytes)) ++ [10])) U37 U9 (info_of Tryz.type5) rfl rfl rfl rfl rfl rfl rfl rfl hk1275 fun ad1277 cap1278 => (nl rfl rfl (fb 1 U147 rfl rfl rfl rfl Z37 (sto 9 (cs := [.slice ad1277 ((s1234.2.2 ++ (((lkp e552.2 x1260).getD ([] : Bytes)) ++ [10])).length) cap1278]) Z37 rfl rfl rfl rfl rfl rfl rfl (on (sq (rg (m1 rfl (lnS U9 rfl rfl (a1 rfl (a1 rfl (on ?_)))))))))))
      refine rt_ ?_
      cases hr1276
      intro a w hS hA
      refine ret2 hA rfl rfl rfl ?_
      exact ⟨_, rfl, ⟨ad1277, cap1278, rfl, hS⟩⟩
     ·rintro a w v hA (⟨ad1273, cap1274, rfl, hS⟩)
      refine putK rfl hA hS (on (rg (adI rfl rfl rfl (by omega) (m1 rfl (on ?_)))))
      cases hr1272
      intro a w hS hA
      exact ⟨_, hz1238, ad1273, cap1274, hS, hA.cut ⟨rfl, rfl, rfl, rfl, rfl, tv⟩⟩
    ·have hr1279 := if_n hc1243 hr1237
     refine xt rfl ?_
     cases hr1279
     obtain rfl := Fin.out hz1238
     intro a w hS hA
     exact ⟨ad1235, cap1236, hS, hA.cut ⟨rfl, tv⟩⟩
  ·rintro a w ⟨ad1232, cap1233, hS, hA⟩
   apply TG.ap ?_ hS hA
   refine sq (rg (clOw _ C102 rfl rfl rfl (fun w hS => Tryz.strS hg.gl.nq hS (T := 9) (T2 := 11) (k := e1229.1) (l := e1229.2) rfl rfl) (a1 rfl (on (rt_ ?_)))))
   cases hr1231
   refine rtM (rtMs (A := [(8, Own.list ad555 cap556 9 1 encS l1157), (3, cel b3 50 [.slice ad555 e552.1.length cap556]), (2, cel b2 84 [.map (some b1)]), (1, Own.map' keS (fun x => Value.string (bs x)) b1 e552.2)]) (bs := bs557) (rt0 ?_))
   intro a w hS hA
   refine ret1 hA rfl rfl ?_
   exact ⟨rfl, hS.ext⟩

theorem w25 {M : Prop} {W : World} {H : Hp} (hH : H.le (hp W)) (hg : Gv M H) {ad_l_0 : Option Addr} {cap_l_0 : Nat} {l_0 : List Heading} (h_l_0 : Sl (RHeading) 4 H ad_l_0 cap_l_0 l_0) {r : List UInt8 × Int} (hr : m25 l_0 = some r) : Calls Tryz.prog 25 [.slice ad_l_0 l_0.length cap_l_0].toArray W (RetK M H W (fun v K => ∃ (ad0 : Option Addr) (cap0 : Nat), v = .tuple [.slice ad0 r.1.length cap0, .int .i64 r.2].toArray ∧ Sl (Flat encC) 1 K ad0 cap0 r.1)) := by
 have := h_l_0.len
 unfold m25 at hr
 refine enterG (M := M) Tryz.func25 rfl Tryz.ntmps25 rfl hH ?_
 refine sq (rg (a1 rfl (a1 rfl (on (sq (sq (rg (m1 rfl ?_))))))))
 obtain ⟨r1, hx2, hr3⟩ := bd_some hr
 refine clK C50 rfl rfl rfl rfl (fun w H hH le => w50 hH (hg.mono (le.at 0 rfl)) (h_l_0.mono (RHeading.mono) (le.at 0 rfl)) hx2) ?_
 rintro v_ K4 ⟨mp5, rfl, hm6⟩
 refine m1 rfl (ex rfl rfl rfl (ex rfl rfl rfl (a1 rfl (a1 rfl (on (sq (rg (m1 rfl (neI rfl rfl rfl (on ?_))))))))))
 refine ci rfl (fun hc10 => ?_) (fun hc10 => ?_)
 ·have hr11 := if_p hc10 hr3
  refine sq (rg (m1 rfl (a1 rfl (a1 rfl (on (rt_ ?_))))))
  cases hr11
  intro a w hS hA
  refine ret2 hA rfl rfl rfl ?_
  exact ⟨⟨_, _, rfl, (Sl.nil _ _ _ _ _ (by decide))⟩, hS.ext⟩
 ·have hr12 := if_n hc10 hr3
  refine sk (sq (rg (m1 rfl ?_)))
  obtain ⟨r13, hx14, hr15⟩ := bd_some hr12
  refine clS C63 rfl rfl rfl rfl (fun w H hH le => w63 hH (hg.mono (le.at 1 rfl)) (h_l_0.mono (RHeading.mono) (le.at 1 rfl)) hx14) ?_
  obtain ⟨hk20, hr21⟩ := chk_some hr15
  refine cvB U9 U37 U5 rfl rfl hk20 fun ad16 cap17 K18 hl19 => ?_
  have := hl19.len
  refine a1 rfl (a1 rfl (on (rt_ ?_)))
  cases hr21
  intro a w hS hA
  refine ret2 hA rfl rfl rfl ?_
  exact ⟨⟨_, _, rfl, (hl19.mono (Flat.mono _) (hS.grow 0 rfl))⟩, hS.ext⟩

theorem w48 {M : Prop} {W : World}  {r : Bytes} (hr : m48 = some r) : Calls Tryz.prog 48 [].toArray W (RetS M W (.string (bs r))) := by
 unfold m48 at hr
 refine enterG (M := M) Tryz.func48 rfl Tryz.ntmps48 rfl (Hp.le.refl _) ?_
 refine sq (rg (a1 rfl (on (sq (rg (a1 rfl (on (rt_ ?_))))))))
 obtain rfl := sj hr
 intro a w hS hA
 refine ret1 hA rfl rfl ?_
 exact ⟨rfl, hS.ext⟩

theorem w146 {M : Prop} {W : World} {H : Hp} (hH : H.le (hp W)) (hg : Gv M H) {cs_o_0 : List Value} (o_0 : odd) (h_o_0 : (Flat encodd) H cs_o_0 o_0) (s_1 : Bytes) {r : Int ⊕ Unit} (hr : m146 o_0 s_1 = some r) : Calls Tryz.prog 146 [.agg cs_o_0.toArray, .string (bs s_1)].toArray W (RetT M W (fun r => .int .i64 r) (.iface 111 (.agg (encodd o_0).toArray)) r) := by
 obtain rfl := h_o_0
 unfold m146 at hr
 refine enterG (M := M) Tryz.func146 rfl Tryz.ntmps146 rfl hH ?_
 refine sq (rg (bI (cs := [.string (bs o_0.line)]) rfl rfl rfl fun q1 K2 hK3 => (a1 rfl (on (sq (rg (m1 rfl ?_)))))))
 obtain ⟨r4, hx5, hr6⟩ := bd_some hr
 refine clK C189 rfl rfl rfl rfl (fun w H hH le => w189 hH (hg.mono (le.at 1 rfl)) s_1 hx5) ?_
 rintro v_ K7 ⟨er8, rfl, he9⟩
 refine m1 rfl (ex rfl rfl rfl (ex rfl rfl rfl (a1 rfl (a1 rfl (on (sq (sq (rg (m1 rfl (neE U149 rfl rfl he9 (on ?_)))))))))))
 refine cb rfl (fun hc13 => ?_) (fun hc13 => ?_)
 ·have hr14 := if_p hc13 hr6
  refine rg (ldA G111 Z111 rfl rfl (sS 1 rfl hK3) rfl (fi U111 rfl rfl rfl (pnc rfl ?_)))
  cases hr14
  intro a w hS hA
  exact ⟨hA.defers, rtT_pan hS.ext⟩
 ·have hr15 := if_f hc13 hr6
  refine sk (sq (rg (m1 rfl (a1 rfl (on (rt_ ?_))))))
  cases hr15
  intro a w hS hA
  refine ret1 hA rfl rfl ?_
  exact rtT_ret rfl hS.ext

theorem w109 {M : Prop} {W : World} {H : Hp} (hH : H.le (hp W)) (hg : Gv M H) {cs_o_0 : List Value} (o_0 : odd) (h_o_0 : (Flat encodd) H cs_o_0 o_0) (s_1 : Bytes) {r : Place ⊕ Unit} (hr : m109 o_0 s_1 = some r) : Calls Tryz.prog 109 [.agg cs_o_0.toArray, .string (bs s_1)].toArray W (RetT M W (fun r => .agg (encPlace r).toArray) (.iface 111 (.agg (encodd o_0).toArray)) r) := by
 obtain rfl := h_o_0
 unfold m109 at hr
 refine enterG (M := M) Tryz.func109 rfl Tryz.ntmps109 rfl hH ?_
 refine sq (rg (bI (cs := [.string (bs o_0.line)]) rfl rfl rfl fun q1 K2 hK3 => (al 1 (cs := [.int .i64 0, .int .i64 0, .int .i64 0]) Tryz.zeroValue81 rfl rfl fun b4 => (on (sq (rg (ldA G111 Z111 rfl rfl (sS 0 rfl hK3) rfl (fn rfl rfl rfl (a1 rfl (on (sq ?_)))))))))))
 refine rg (m1 rfl ?_)
 obtain ⟨r5, hx6, hr7⟩ := bd_some hr
 refine clS C68 rfl rfl rfl rfl (fun w H hH le => w68 hH (hg.mono (le.at 1 rfl)) s_1 [47] hx6) (m1 rfl (ex rfl rfl rfl (ex rfl rfl rfl (ex rfl rfl rfl (a1 rfl (a1 rfl (a1 rfl (on (sq (rg (m1 rfl ?_)))))))))))
 obtain ⟨r8, hx9, hr10⟩ := bd_some hr7
 refine clS C68 rfl rfl rfl rfl (fun w H hH le => w68 hH (hg.mono (le.at 1 rfl)) r5.2.1 [45] hx9) (m1 rfl (ex rfl rfl rfl (ex rfl rfl rfl (ex rfl rfl rfl (a1 rfl (a1 rfl (a1 rfl (on (sq (rg (m1 rfl ?_)))))))))))
 refine m1 rfl ?_
 obtain ⟨r11, hx12, hr13⟩ := bd_some hr10
 rcases r11 with y14 | u15
 ·refine clS C146 rfl rfl rfl rfl (fun w H hH le => rtI (w146 hH (hg.mono (le.at 1 rfl)) o_0 rfl r5.1 hx12)) (m1 rfl (m1 rfl ?_))
  obtain ⟨r16, hx17, hr18⟩ := bd_some hr13
  rcases r16 with y19 | u20
  ·refine clS C146 rfl rfl rfl rfl (fun w H hH le => rtI (w146 hH (hg.mono (le.at 1 rfl)) o_0 rfl r8.1 hx17)) (m1 rfl (m1 rfl (clS C146 rfl rfl rfl rfl (fun w H hH le => rtI (w146 hH (hg.mono (le.at 1 rfl)) o_0 rfl r8.1 hx17)) (bu (cs := [.int .i64 y14, .int .i64 y19, .int .i64 y19]) T11.B81 rfl rfl rfl (al 2 (cs := [.int .i64 0, .int .i64 0, .int .i64 0]) Tryz.zeroValue81 rfl rfl fun b21 => (sto 2 (cs := [.int .i64 y14, .int .i64 y19, .int .i64 y19]) Z81 rfl rfl rfl rfl rfl rfl rfl (on (sq (sq (rg (m1 rfl ?_)))))))))))
   refine on ?_
   obtain ⟨t30, hx31, hr32⟩ := bd_some hr18
   refine jn (fun a w => ∃ t33, t30 = .inl t33 ∧ St M W H [K2, H] [(2, cel b21 81 [.int .i64 y14, .int .i64 y19, .int .i64 t33]), (1, cel b4 81 [.int .i64 0, .int .i64 0, .int .i64 0])] w ∧ Has [] 43 a [(4, .pointer (some (⟨b4, 0, none⟩))), (12, .pointer (some (⟨b21, 0, none⟩)))]) ?_ ?_
   ·refine cb rfl (fun hc34 => ?_) (fun hc34 => ?_)
    ·have hr35 := if_p hc34 hx31
     refine rg (m1 rfl (m1 rfl ?_))
     obtain ⟨r36, hx37, hr38⟩ := bd_some hr35
     rcases r36 with y39 | u40
     ·refine clS C146 rfl rfl rfl rfl (fun w H hH le => rtI (w146 hH (hg.mono (le.at 1 rfl)) o_0 rfl r8.2.1 hx37)) (fb 2 U81 rfl rfl rfl rfl Z3 (sto 2 (cs := [.int .i64 y39]) Z3 rfl rfl rfl rfl rfl rfl rfl (on ?_)))
      cases hr38
      intro a w hS hA
      exact ⟨_, rfl, hS, hA.cut ⟨rfl, rfl, tv⟩⟩
     ·refine clTp C146 rfl rfl rfl (fun w H hH le => rtP (w146 hH (hg.mono (le.at 1 rfl)) o_0 rfl r8.2.1 hx37)) ?_
      cases hr38
      cases hr32
      intro a w hS hA
      exact ⟨hA.defers, rtT_pan hS.ext⟩
    ·have hr41 := if_f hc34 hx31
     refine sk ?_
     cases hr41
     intro a w hS hA
     exact ⟨_, rfl, hS, hA.cut ⟨rfl, rfl, tv⟩⟩
   ·rintro a w ⟨t33, rfl, hS, hA⟩
    refine TG.ap ?_ hS hA
    refine sq (rg (ldA G81 Z81 rfl rfl (sO 2 rfl) rfl (sto 1 (cs := [.int .i64 y14, .int .i64 y19, .int .i64 t33]) Z81 rfl rfl rfl rfl rfl rfl rfl (on (rt_ ?_)))))
    cases hr32
    intro a w hS hA
    refine rc1 hA rfl (ResAt.cell rfl (loadsA G81 Z81 (cell_at (hS.get (t := 1) rfl)) rfl)) ?_
    exact rtT_ret rfl hS.ext
  ·refine clTp C146 rfl rfl rfl (fun w H hH le => rtP (w146 hH (hg.mono (le.at 1 rfl)) o_0 rfl r8.1 hx17)) ?_
   cases hr18
   intro a w hS hA
   exact ⟨hA.defers, rtT_pan hS.ext⟩
 ·refine clTp C146 rfl rfl rfl (fun w H hH le => rtP (w146 hH (hg.mono (le.at 1 rfl)) o_0 rfl r5.1 hx12)) ?_
  cases hr13
  intro a w hS hA
  exact ⟨hA.defers, rtT_pan hS.ext⟩

theorem w69 {M : Prop} {W : World} {H : Hp} (hH : H.le (hp W)) (hg : Gv M H) {cs_o_0 : List Value} (o_0 : odd) (h_o_0 : (Flat encodd) H cs_o_0 o_0) {r : Heading ⊕ Unit} (hr : m69 o_0 = some r) : Calls Tryz.prog 69 [.agg cs_o_0.toArray].toArray W (RetTK M H W (fun r v K => ∃ (cs0 : List Value), v = .agg cs0.toArray ∧ (RHeading) K cs0 r) (.iface 111 (.agg (encodd o_0).toArray)) r) := by
 obtain rfl := h_o_0
 unfold m69 at hr
 refine enterG (M := M) Tryz.func69 rfl Tryz.ntmps69 rfl hH ?_
 refine sq (rg (bI (cs := [.string (bs o_0.line)]) rfl rfl rfl fun q1 K2 hK3 => (al 1 (cs := [.string (bs []), .slice none 0 0, .slice none 0 0, .slice none 0 0]) Tryz.zeroValue64 rfl rfl fun b4 => (on (sq (rg (fb 0 U111 rfl rfl rfl rfl Z9 (ld G9 rfl rfl (sS 0 rfl hK3) rfl ?_))))))))
 obtain ⟨r5, hx6, hr7⟩ := bd_some hr
 refine clS C68 rfl rfl rfl rfl (fun w H hH le => w68 hH (hg.mono (le.at 1 rfl)) o_0.line [58] hx6) (m1 rfl (ex rfl rfl rfl (ex rfl rfl rfl (ex rfl rfl rfl (a1 rfl (a1 rfl (a1 rfl (on (sq (rg (m1 rfl ?_)))))))))))
 obtain ⟨r8, hx9, hr10⟩ := bd_some hr7
 refine clS C68 rfl rfl rfl rfl (fun w H hH le => w68 hH (hg.mono (le.at 1 rfl)) r5.2.1 [59, 32] hx9) (m1 rfl (ex rfl rfl rfl (ex rfl rfl rfl (ex rfl rfl rfl (a1 rfl (a1 rfl (a1 rfl (on (sq (rg (m1 rfl ?_)))))))))))
 refine bu (cs := [.string (bs r5.1), .slice none 0 0, .slice none 0 0, .slice none 0 0]) T11.B64 rfl rfl rfl (al 2 (cs := [.string (bs []), .slice none 0 0, .slice none 0 0, .slice none 0 0]) Tryz.zeroValue64 rfl rfl fun b11 => (sto 2 (cs := [.string (bs r5.1), .slice none 0 0, .slice none 0 0, .slice none 0 0]) Z64 rfl rfl rfl rfl rfl rfl rfl (on (sq (sq (rg (m1 rfl (neS rfl rfl rfl (on (TG.nilRow 4 81 3 ?_))))))))))
 obtain ⟨t230, hx231, hr232⟩ := bd_some hr10
 refine jn (fun a w => ∃ t233, t230 = .inl t233 ∧ ∃ (ad234 : Option Addr) (cap235 : Nat), St M W H [K2, H] [(4, Own.list ad234 cap235 81 3 encPlace t233), (2, cel b11 64 [.string (bs r5.1), .slice none 0 0, .slice none 0 0, .slice ad234 t233.length cap235]), (1, cel b4 64 [.string (bs []), .slice none 0 0, .slice none 0 0, .slice none 0 0])] w ∧ Has [] 51 a [(2, .pointer (some (⟨b4, 0, none⟩))), (7, .string (bs r8.2.1)), (8, .bool r8.2.2), (9, .pointer (some (⟨b11, 0, none⟩)))]) ?_ ?_
 ·refine ci rfl (fun hc236 => ?_) (fun hc236 => ?_)
  ·have hr237 := if_p hc236 hx231
   refine sq (rg (m1 rfl ?_))
   obtain ⟨r238, hx239, hr240⟩ := bd_some hr237
   refine clK C67 rfl rfl rfl rfl (fun w H hH le => w67 hH (hg.mono (le.at 1 rfl)) r8.1 [44] hx239) ?_
   rintro v_ K241 ⟨ad242, cap243, rfl, hl244⟩
   have := hl244.len
   refine lnL U50 rfl rfl (m1 rfl (on (TG.as 4 (z := Own.list none 0 81 3 encPlace ([] : List Place)) rfl rfl ?_)))
   obtain ⟨e323, hl324, hr325⟩ := bd_some hr240
   refine jn (fun a w => ∃ t326, e323 = .inl t326 ∧ ∃ (ad327 : Option Addr) (cap328 : Nat), St M W H [K241, K2, H] [(4, Own.list ad327 cap328 81 3 encPlace t326), (2, cel b11 64 [.string (bs r5.1), .slice none 0 0, .slice none 0 0, .slice ad327 t326.length cap328]), (1, cel b4 64 [.string (bs []), .slice none 0 0, .slice none 0 0, .slice none 0 0])] w ∧ Has [] 51 a [(2, .pointer (some (⟨b4, 0, none⟩))), (7, .string (bs r8.2.1)), (8, .bool r8.2.2), (9, .pointer (some (⟨b11, 0, none⟩)))]) ?_ ?_
   ·refine bk ?_
    refine lp hl324 (fun s329 a w => ∃ (ad330 : Option Addr) (cap331 : Nat), St M W H [K241, K2, H] [(4, Own.list ad330 cap331 81 3 encPlace s329.2), (2, cel b11 64 [.string (bs r5.1), .slice none 0 0, .slice none 0 0, .slice ad330 s329.2.length cap331]), (1, cel b4 64 [.string (bs []), .slice none 0 0, .slice none 0 0, .slice none 0 0])] w ∧ Has [] 51 a [(1, .pointer (some q1)), (2, .pointer (some (⟨b4, 0, none⟩))), (7, .string (bs r8.2.1)), (8, .bool r8.2.2), (9, .pointer (some (⟨b11, 0, none⟩))), (30, .slice ad242 r238.length cap243), (31, .int .i64 (r238.length : Int)), (32, .int .i64 (s329.1 : Int))]) ?_ ?_
    ·intro a w hS hA
     exact ⟨none, 0, hS, hA.cut ⟨rfl, rfl, rfl, rfl, rfl, rfl, rfl, rfl, tv⟩⟩
    ·rintro j s329 y334 hr332 hz333 a w ⟨ad330, cap331, hS, hA⟩
     refine TG.ap ?_ hS hA
     unfold m69_1 at hr332
     refine sq (rg (ltI rfl rfl rfl (on (sq ?_))))
     refine ci rfl (fun hc338 => ?_) (fun hc338 => ?_)
     ·have hr339 := if_p hc338 hr332
      refine sk (sq (bk (sq (rg ?_))))
      obtain ⟨x372, hx373, hr374⟩ := bd_some hr339
      obtain ⟨p375, rfl⟩ := hl244.adr hx373
      obtain ⟨cs376, hcs377, hq378, hr379⟩ := hl244.at hx373
      obtain rfl := hr379
      refine iaP U50 Z9 rfl rfl rfl rfl (lt_of hx373) (ld G9 rfl rfl (sS 0 rfl hq378) rfl (a1 rfl (on ?_)))
      obtain ⟨r380, hx381, hr382⟩ := bd_some hr374
      obtain ⟨r383, hx384, hr385⟩ := bd_some hr382
      rcases r383 with y386 | u387
      ·refine drG 7 mixed (by kernel_rfl) rfl (dt rfl (fb 3 U64 rfl rfl rfl rfl Z62 fin1) (dt rfl (ld G62 rfl rfl ((sO 2 rfl).drop 3) rfl fin1) (dt rfl (ldA G111 Z111 rfl rfl (sS 2 rfl hK3) rfl fin1) (dt rfl (m1 rfl fin1) (dt rfl (clS C110 rfl rfl rfl rfl (fun w H hH le => w110 x372 [32] hx381) fin1) (dt rfl (clS C109 rfl rfl rfl rfl (fun w H hH le => rtI (w109 hH (hg.mono (le.at 3 rfl)) o_0 rfl r380 hx384)) fin1) ?_))))))
       refine DF.und (α := Option Addr × Nat) (none, 0) (fun q => .slice q.1 1 q.2) (fun (q : Option Addr × Nat) K => Sl (Flat encPlace) 3 K q.1 q.2 ([y386] : List Place)) (fun _ _ _ h x => x.mono (Flat.mono _) h) (by kernel_rfl) rfl (fun a w K hS hA hF => TG.pa hS hA (bS (cs := [.int .i64 y386.volume, .int .i64 y386.from_, .int .i64 y386.to_]) T11.E62 rfl rfl rfl rfl fun q388 K389 hq390 hK391 => by
         have hl392 : Sl (Flat encPlace) 3 K389 (some q388) 1 ([y386] : List Place) := Sl.litR (css := [[.int .i64 y386.volume, .int .i64 y386.from_, .int .i64 y386.to_]]) (l := ([y386] : List Place)) ⟨⟨rfl, rfl, rfl⟩, tv⟩ hq390 hK391 rfl
         have := hl392.len
         exact finU (f := fun q => .slice q.1 1 q.2) (G := (fun (q : Option Addr × Nat) K => Sl (Flat encPlace) 3 K q.1 q.2 ([y386] : List Place))) (_, _) (fun _ _ _ h x => x.mono (Flat.mono _) h) hl392)) ?_
       rintro ⟨ad394, cap395⟩
       refine DF.nil fun K396 hF => ?_
       obtain ⟨hu393, _⟩ := hF
       have := hu393.len
       obtain ⟨hk397, hr398⟩ := chk_some hr385
       have := lenA s329.2 ([y386] : List Place)
       refine apS 4 (enc := encPlace) (l := s329.2) (m := ([y386] : List Place)) T11.E62 rfl rfl rfl rfl rfl rfl hu393 0 rfl (fun _ => rfl) (fun _ => rfl) rfl hk397 fun ad399 cap400 => (fb 3 U64 rfl rfl rfl rfl Z62 (sto 2 (cs := [.slice ad399 ((s329.2 ++ ([y386] : List Place)).length) cap400]) Z62 rfl rfl rfl rfl rfl rfl rfl (on (rg (adI rfl rfl rfl (by omega) (m1 rfl (on ?_)))))))
       cases hr398
       intro a w hS hA
       exact ⟨_, hz333, ad399, cap400, hS.selH [1, 2, 3] rfl, hA.cut ⟨rfl, rfl, rfl, rfl, rfl, rfl, rfl, rfl, tv⟩⟩
      ·cases hr385
       obtain rfl := Fin.out hz333
       cases hr325
       cases hr232
       refine drG 7 mixed (by kernel_rfl) rfl (dt rfl (fb 3 U64 rfl rfl rfl rfl Z62 fin1) (dt rfl (ld G62 rfl rfl ((sO 2 rfl).drop 3) rfl fin1) (dt rfl (ldA G111 Z111 rfl rfl (sS 2 rfl hK3) rfl fin1) (dt rfl (m1 rfl fin1) (dt rfl (clS C110 rfl rfl rfl rfl (fun w H hH le => w110 x372 [32] hx381) fin1) ?_)))))
       refine DF.und () (fun _ => .bool false) (fun _ _ => False) (fun _ _ _ h x => x) (by kernel_rfl) rfl (fun a w K hS hA hF => TG.pa hS hA (clTp C109 rfl rfl rfl (fun w H hH le => rtP (w109 hH (hg.mono (le.at 3 rfl)) o_0 rfl r380 hx384)) (by
          intro a w hS hA
          exact ⟨hA.defers, rtK_pan hS.ext⟩))) fun _ => ?_
       refine DF.und () (fun _ => .bool false) (fun _ _ => False) (fun _ _ _ h x => x) (by kernel_rfl) rfl (fun a w K hS hA hF => (False.elim (hF.1 rfl))) fun _ => (DF.nil fun K403 hF => ?_)
       obtain ⟨hu402, hu401, _⟩ := hF
       exact False.elim hu401
     ·have hr404 := if_n hc338 hr332
      refine xt rfl ?_
      cases hr404
      obtain rfl := Fin.out hz333
      intro a w hS hA
      exact ⟨_, rfl, ad330, cap331, hS, hA.cut ⟨rfl, rfl, rfl, rfl, tv⟩⟩
   ·rintro a w ⟨t326, rfl, ad327, cap328, hS, hA⟩
    apply TG.ap ?_ hS hA
    cases hr325
    intro a w hS hA
    exact ⟨_, rfl, ad327, cap328, hS.selH [1, 2] rfl, hA.cut ⟨rfl, rfl, rfl, rfl, tv⟩⟩
  ·have hr405 := if_n hc236 hx231
   refine sk (TG.as 4 (z := Own.list none 0 81 3 encPlace ([] : List Place)) rfl rfl ?_)
   cases hr405
   intro a w hS hA
   exact ⟨_, rfl, none, 0, hS, hA.cut ⟨rfl, rfl, rfl, rfl, tv⟩⟩
 ·rintro a w ⟨t233, rfl, ad234, cap235, hS, hA⟩
  refine TG.ap ?_ hS hA
  refine sq (sq (rg (m1 rfl (on ?_))))
  obtain ⟨t416, hx417, hr418⟩ := bd_some hr232
  refine jn (fun a w => ∃ (ad419 : Option Addr) (cap420 : Nat) (K421 : Hp), St M W H [K421, K2, H] [(4, Own.list ad234 cap235 81 3 encPlace t233), (2, cel b11 64 [.string (bs r5.1), .slice none 0 0, .slice ad419 t416.length cap420, .slice ad234 t233.length cap235]), (1, cel b4 64 [.string (bs []), .slice none 0 0, .slice none 0 0, .slice none 0 0])] w ∧ Has [] 51 a [(2, .pointer (some (⟨b4, 0, none⟩))), (9, .pointer (some (⟨b11, 0, none⟩)))] ∧ Sl (Flat encS) 1 K421 ad419 cap420 t416) ?_ ?_
  ·refine cb rfl (fun hc423 => ?_) (fun hc423 => ?_)
   ·have hr424 := if_p hc423 hx417
    refine rg (m1 rfl ?_)
    obtain ⟨r425, hx426, hr427⟩ := bd_some hr424
    refine clK C67 rfl rfl rfl rfl (fun w H hH le => w67 hH (hg.mono (le.at 1 rfl)) r8.2.1 [44, 32] hx426) ?_
    rintro v_ K428 ⟨ad429, cap430, rfl, hl431⟩
    have := hl431.len
    refine fb 2 U64 rfl rfl rfl rfl Z50 (sto 2 (cs := [.slice ad429 r425.length cap430]) Z50 rfl rfl rfl rfl rfl rfl rfl (on ?_))
    cases hr427
    intro a w hS hA
    exact ⟨ad429, cap430, K428, hS, hA.cut ⟨rfl, rfl, tv⟩, hl431⟩
   ·have hr432 := if_f hc423 hx417
    refine sk ?_
    cases hr432
    intro a w hS hA
    exact ⟨none, 0, H, hS.selH [1, 0, 1] rfl, hA.cut ⟨rfl, rfl, tv⟩, (Sl.nil _ _ H _ _ (by decide))⟩
  ·rintro a w ⟨ad419, cap420, K421, hS, hA, hl422⟩
   refine TG.ap ?_ hS hA
   have := hl422.len
   refine sq (rg (ldA G64 Z64 rfl rfl (sO 2 rfl) rfl (sto 1 (cs := [.string (bs r5.1), .slice none 0 0, .slice ad419 t416.length cap420, .slice ad234 t233.length cap235]) Z64 rfl rfl rfl rfl rfl rfl rfl (on (rt_ ?_)))))
   cases hr418
   intro a w hS hA
   refine rc1 hA rfl (ResAt.cell rfl (loadsA G64 Z64 (cell_at (hS.get (t := 1) rfl)) rfl)) ?_
   exact rtK_ret ⟨_, rfl, ⟨_, _, _, _, _, _, rfl, (Sl.nil _ _ _ _ _ (by decide)), (hl422.mono (Flat.mono _) (hS.grow 0 rfl)), (hS.listOut 4 rfl (fun _ => rfl))⟩⟩ hS.ext

theorem w28 {M : Prop} {W : World} {H : Hp} (hH : H.le (hp W)) (hg : Gv M H) {ad_b_0 : Option Addr} {cap_b_0 : Nat} {b_0 : List UInt8} (h_b_0 : Sl (Flat encC) 1 H ad_b_0 cap_b_0 b_0) {r : List Heading × Int} (hr : m28 b_0 = some r) : Calls Tryz.prog 28 [.slice ad_b_0 b_0.length cap_b_0].toArray W (RetK M H W (fun v K => ∃ (ad0 : Option Addr) (cap0 : Nat), v = .tuple [.slice ad0 r.1.length cap0, .int .i64 r.2].toArray ∧ Sl (RHeading) 4 K ad0 cap0 r.1)) := by
 have := h_b_0.len
 unfold m28 at hr
 refine enterGF (M := M) Tryz.func28 rfl Tryz.ntmps28 rfl hH ?_
 refine sq (rg (al 1 (cs := [.slice none 0 0]) Tryz.zeroValue26 rfl rfl fun b1 => (al 2 (cs := [.int .i64 0]) Tryz.zeroValue27 rfl rfl fun b2 => (on (sq (sq (rg (m1 rfl (lnL U37 rfl rfl (gtI rfl rfl rfl (on ?_)))))))))))
 refine ci rfl (fun hc6 => ?_) (fun hc6 => ?_)
 ·have hr7 := if_p hc6 hr
  refine sq (rg (sto 1 (cs := [.slice none 0 0]) Z26 rfl rfl rfl rfl rfl rfl rfl (sto 2 (cs := [.int .i64 3]) Z27 rfl rfl rfl rfl rfl rfl rfl (on (rt_ ?_)))))
  cases hr7
  refine rtF0 ?_
  intro a w hS hA
  refine rc2 hA rfl (ResAt.cell rfl (loads1 G26 (cell_at (hS.get (t := 1) rfl)) rfl)) (ResAt.cell rfl (loads1 G27 (cell_at (hS.get (t := 2) rfl)) rfl)) ?_
  exact ⟨⟨_, _, rfl, (Sl.nil _ _ _ _ _ (by decide))⟩, hS.ext⟩
 ·have hr8 := if_n hc6 hr
  refine sk (sq (rg (fn rfl rfl rfl (df rfl (on (sq (rg (m1 rfl (cvT h_b_0 0 rfl U37 U5 U9 rfl rfl ?_)))))))))
  obtain ⟨r9, hx10, hr11⟩ := bd_some hr8
  refine clK C67 rfl rfl rfl rfl (fun w H hH le => w67 hH (hg.mono (le.at 0 rfl)) b_0 [10] hx10) ?_
  rintro v_ K12 ⟨ad13, cap14, rfl, hl15⟩
  have := hl15.len
  refine a1 rfl (on (sq (rg (mkM 3 keS (fun v : Value => v) rfl fun b16 => ?_))))
  have hF17 := Fam.nil (κ := Bytes) (hvR (α := Bytes))
  refine TG.eq (σ' := ([(3, Own.map' keS (fun v : Value => v) b16 ([] : List (Bytes × Value))), (2, cel b2 27 [.int .i64 0]), (1, cel b1 26 [.slice none 0 0])] ++ famO (entR 9 1 encS) ([] : List Adr) ([] : List (Bytes × (List Bytes))))) rfl (a1 rfl (on (sq (sq (rg (m1 rfl (m1 rfl (lnL U50 rfl rfl (sbI rfl rfl rfl (by omega) ?_)))))))))
  obtain ⟨hk18, hr19⟩ := chk_some hr11
  obtain ⟨hk20, hr21⟩ := chk_some hr19
  refine slT (((r9.length : Int) - 1).toNat) U50 Z9 hl15 rfl rfl rfl rfl (by omega) hk20 fun ad22 cap23 hl24 => ?_
  have := hl24.len
  refine lnL U50 rfl rfl (m1 rfl (on (TG.nilRow 5 64 4 ?_)))
  have hR177 : Rows (RHeading) 4 H [] ([] : List Heading) := tv
  refine TG.as 5 (z := Own.rows none 0 64 4 [] ([] : List Heading)) rfl rfl ?_
  obtain ⟨e373, hl374, hr375⟩ := bd_some hr21
  refine jn (fun a w => ∃ t376, e373 = .inl t376 ∧ ∃ (ad377 : Option Addr) (cap378 : Nat) (css379 : List (List Value)) (K380 : Hp) (hs382 : List (Bytes × Value)) (az383 : List Adr), St M W H [K380, K12, H] ([(5, Own.rows ad377 cap378 64 4 css379 t376.1), (3, Own.map' keS (fun v : Value => v) b16 hs382), (2, cel b2 27 [.int .i64 0]), (1, cel b1 26 [.slice ad377 t376.1.length cap378])] ++ famO (entR 9 1 encS) az383 t376.2) w ∧ Has [dfc 66 [.pointer (some (⟨b1, 0, none⟩)), .pointer (some (⟨b2, 0, none⟩))]] 88 a [(0, .slice ad_b_0 b_0.length cap_b_0), (2, .pointer (some (⟨b1, 0, none⟩))), (3, .pointer (some (⟨b2, 0, none⟩))), (5, .map (some b16))] ∧ Rows (RHeading) 4 K380 css379 t376.1 ∧ Fam hvR hs382 az383 t376.2) ?_ ?_
  ·refine bk ?_
   refine lp hl374 (fun s385 a w => ∃ (ad386 : Option Addr) (cap387 : Nat) (css388 : List (List Value)) (K389 : Hp) (hs391 : List (Bytes × Value)) (az392 : List Adr), St M W H [K389, K12, H] ([(5, Own.rows ad386 cap387 64 4 css388 s385.2.1), (3, Own.map' keS (fun v : Value => v) b16 hs391), (2, cel b2 27 [.int .i64 0]), (1, cel b1 26 [.slice ad386 s385.2.1.length cap387])] ++ famO (entR 9 1 encS) az392 s385.2.2) w ∧ Has [dfc 66 [.pointer (some (⟨b1, 0, none⟩)), .pointer (some (⟨b2, 0, none⟩))]] 88 a [(0, .slice ad_b_0 b_0.length cap_b_0), (2, .pointer (some (⟨b1, 0, none⟩))), (3, .pointer (some (⟨b2, 0, none⟩))), (5, .map (some b16)), (26, .slice ad22 ((r9.take (((r9.length : Int) - 1).toNat)).length) cap23), (27, .int .i64 ((r9.take (((r9.length : Int) - 1).toNat)).length : Int)), (28, .int .i64 (s385.1 : Int))] ∧ Rows (RHeading) 4 K389 css388 s385.2.1 ∧ Fam hvR hs391 az392 s385.2.2) ?_ ?_
   ·intro a w hS hA
    exact ⟨none, 0, [], H, ([] : List (Bytes × Value)), ([] : List Adr), hS.selH [1, 0, 1] rfl, hA.cut ⟨rfl, rfl, rfl, rfl, rfl, rfl, rfl, tv⟩, hR177, hF17⟩
   ·rintro j s385 y396 hr394 hz395 a w ⟨ad386, cap387, css388, K389, hs391, az392, hS, hA, hR390, hF393⟩
    refine TG.ap ?_ hS hA
    unfold m28_1 at hr394
    refine sq (rg (ltI rfl rfl rfl (on (sq ?_))))
    refine ci rfl (fun hc400 => ?_) (fun hc400 => ?_)
    ·have hr401 := if_p hc400 hr394
     refine sk (sq (bk (sq (rg ?_))))
     obtain ⟨x485, hx486, hr487⟩ := bd_some hr401
     obtain ⟨p488, rfl⟩ := hl24.adr hx486
     obtain ⟨cs489, hcs490, hq491, hr492⟩ := hl24.at hx486
     obtain rfl := hr492
     refine iaP U50 Z9 rfl rfl rfl rfl (lt_of hx486) (ld G9 rfl rfl (sS 1 rfl hq491) rfl (a1 rfl (on (sq (rg (m1 rfl ?_))))))
     obtain ⟨r493, hx494, hr495⟩ := bd_some hr487
     refine clS C68 rfl rfl rfl rfl (fun w H hH le => w68 hH (hg.mono (le.at 2 rfl)) x485 [32, 61, 32] hx494) (m1 rfl (ex rfl rfl rfl (ex rfl rfl rfl (ex rfl rfl rfl (a1 rfl (a1 rfl (a1 rfl (on (sq (rg (m1 rfl ?_)))))))))))
     refine on ?_
     obtain ⟨t559, hx560, hr561⟩ := bd_some hr495
     refine jn (fun a w => ∃ t562, t559 = .inl t562 ∧ ∃ (ad563 : Option Addr) (cap564 : Nat) (css565 : List (List Value)) (K566 : Hp) (hs568 : List (Bytes × Value)) (az569 : List Adr), St M W H [K566, K389, K12, H] ([(5, Own.rows ad563 cap564 64 4 css565 t562.1), (3, Own.map' keS (fun v : Value => v) b16 hs568), (2, cel b2 27 [.int .i64 0]), (1, cel b1 26 [.slice ad563 t562.1.length cap564])] ++ famO (entR 9 1 encS) az569 t562.2) w ∧ Has [dfc 66 [.pointer (some (⟨b1, 0, none⟩)), .pointer (some (⟨b2, 0, none⟩))]] 88 a [(0, .slice ad_b_0 b_0.length cap_b_0), (2, .pointer (some (⟨b1, 0, none⟩))), (3, .pointer (some (⟨b2, 0, none⟩))), (5, .map (some b16)), (26, .slice (some p488) ((r9.take (((r9.length : Int) - 1).toNat)).length) cap23), (27, .int .i64 ((r9.take (((r9.length : Int) - 1).toNat)).length : Int)), (28, .int .i64 (s385.1 : Int))] ∧ Rows (RHeading) 4 K566 css565 t562.1 ∧ Fam hvR hs568 az569 t562.2) ?_ ?_
     ·refine cb rfl (fun hc571 => ?_) (fun hc571 => ?_)
      ·have hr572 := if_p hc571 hx560
       refine rg (m1 rfl (m1 rfl (m1 rfl (m1 rfl ?_))))
       obtain ⟨hk573, hr574⟩ := chk_some hr572
       refine mgA [(5, Own.rows ad386 cap387 64 4 css388 s385.2.1), (3, Own.map' keS (fun v : Value => v) b16 hs391), (2, cel b2 27 [.int .i64 0]), (1, cel b1 26 [.slice ad386 s385.2.1.length cap387])] 3 encS r493.2.1 r493.1 U114 U9 Tryz.zeroValue50 T11.E50 rfl rfl rfl rfl rfl rfl rfl rfl rfl ⟨rfl, ⟨rfl, rfl, rfl, rfl⟩, ⟨rfl, rfl, rfl, rfl⟩, rfl, rfl, rfl⟩ rfl (fun _ => rfl) rfl rfl rfl hF393 rfl hk573 fun hs575 az576 u577 u578 u579 u580 hF581 => (on ?_)
       cases hr574
       intro a w hS hA
       exact ⟨_, rfl, ad386, cap387, css388, K389, hs575, az576, hS.selH [0, 0, 1, 2] rfl, hA.cut ⟨rfl, rfl, rfl, rfl, rfl, rfl, rfl, tv⟩, hR390, hF581⟩
      ·have hr582 := if_f hc571 hx560
       obtain ⟨r583, hx584, hr585⟩ := bd_some hr582
       rcases r583 with y586 | u587
       ·refine drG 5 mixed (by kernel_rfl) rfl (dt rfl (ld G26 rfl rfl (sO 1 rfl) rfl fin1) (dt rfl (m1 rfl fin1) (dt rfl (bu (cs := [.string (bs x485)]) T11.B111 rfl rfl rfl fin1) ?_)))
        refine DF.und (α := List Value) [] (fun q => .agg q.toArray) (fun (q : List Value) K => (RHeading) K q y586) (fun _ _ _ h x => RHeading.mono _ _ _ _ h x) (by kernel_rfl) rfl (fun a w K hS hA hF => TG.pa hS hA (clK C69 rfl rfl rfl rfl (fun w H hH le => rtIK (w69 hH (hg.mono (le.at 3 rfl)) (⟨x485⟩ : odd) rfl hx584)) (by
          rintro v_ K588 ⟨cs589, rfl, hr590⟩
          exact finU (f := fun q => .agg q.toArray) (G := (fun (q : List Value) K => (RHeading) K q y586)) _ (fun _ _ _ h x => RHeading.mono _ _ _ _ h x) hr590))) fun cs592 => ?_
        refine DF.und (α := Option Addr × Nat) (none, 0) (fun q => .slice q.1 1 q.2) (fun (q : Option Addr × Nat) K => Sl (RHeading) 4 K q.1 q.2 ([y586] : List Heading)) (fun _ _ _ h x => x.mono (RHeading.mono) h) (by kernel_rfl) rfl (fun a w K hS hA hF => by
          obtain ⟨ad593, cap594, ad596, cap597, ad599, cap600, rfl, hl595, hl598, hl601⟩ := (hF.1 rfl)
          have := hl595.len
          have := hl598.len
          have := hl601.len
          exact TG.pa hS hA (bS (cs := [.string (bs y586.name), .slice ad593 y586.variants.length cap594, .slice ad596 y586.also.length cap597, .slice ad599 y586.places.length cap600]) T11.E26 rfl rfl rfl rfl fun q602 K603 hq604 hK605 => by
          refine TG.pack (fun K => Sl (RHeading) 4 K (some q602) 1 ([y586] : List Heading)) (fun H le => Sl.litR (css := [[.string (bs y586.name), .slice ad593 y586.variants.length cap594, .slice ad596 y586.also.length cap597, .slice ad599 y586.places.length cap600]]) (l := ([y586] : List Heading)) ⟨⟨rfl, rfl, ⟨_, _, _, _, _, _, rfl, (hl595.mono (Flat.mono _) (le.at 1 rfl)), (hl598.mono (Flat.mono _) (le.at 1 rfl)), (hl601.mono (Flat.mono _) (le.at 1 rfl))⟩⟩, tv⟩ hq604 (hK605.mono (le.at 0 rfl)) rfl) fun K607 hl606 => ?_
          have := hl606.len
          refine sk1 ?_
          exact finU (f := fun q => .slice q.1 1 q.2) (G := (fun (q : Option Addr × Nat) K => Sl (RHeading) 4 K q.1 q.2 ([y586] : List Heading))) (_, _) (fun _ _ _ h x => x.mono (RHeading.mono) h) hl606)) ?_
        rintro ⟨ad609, cap610⟩
        refine DF.nil fun K611 hF => ?_
        obtain ⟨hu608, hu591, _⟩ := hF
        have hr612 := hu591
        obtain ⟨ad613, cap614, ad616, cap617, ad619, cap620, rfl, hl615, hl618, hl621⟩ := hu591
        have := hl615.len
        have := hl618.len
        have := hl621.len
        have := hu608.len
        obtain ⟨hk622, hr623⟩ := chk_some hr585
        have := lenA s385.2.1 ([y586] : List Heading)
        refine TG.pack (fun K => Sl (RHeading) 4 K ad609 cap610 ([y586] : List Heading) ∧ Rows (RHeading) 4 K css388 s385.2.1) (fun H le => ⟨hu608.mono (RHeading.mono) (le.at 0 rfl), hR390.mono (RHeading.mono) (le.at 1 rfl)⟩) fun K626 ⟨hm627, hR628⟩ => (apR 5 (l := s385.2.1) (m := ([y586] : List Heading)) T11.E26 rfl rfl rfl rfl rfl rfl hm627 hR628 RHeading.one rfl hk622 fun ad624 cap625 css630 hR629 => (sto 1 (cs := [.slice ad624 ((s385.2.1 ++ ([y586] : List Heading)).length) cap625]) Z26 rfl rfl rfl rfl rfl rfl rfl (on ?_)))
        cases hr623
        intro a w hS hA
        exact ⟨_, rfl, ad624, cap625, css630, K626, hs391, az392, hS.selH [0, 2, 3, 4] rfl, hA.cut ⟨rfl, rfl, rfl, rfl, rfl, rfl, rfl, tv⟩, hR629, hF393⟩
       ·cases hr585
        cases hr561
        obtain rfl := Fin.out hz395
        cases hr375
        refine drG 5 mixed (by kernel_rfl) rfl (dt rfl (ld G26 rfl rfl (sO 1 rfl) rfl fin1) (dt rfl (m1 rfl fin1) (dt rfl (bu (cs := [.string (bs x485)]) T11.B111 rfl rfl rfl fin1) ?_)))
        refine DF.und () (fun _ => .bool false) (fun _ _ => False) (fun _ _ _ h x => x) (by kernel_rfl) rfl (fun a w K hS hA hF => TG.pa hS hA (clTp C69 rfl rfl rfl (fun w H hH le => rtPK (w69 hH (hg.mono (le.at 3 rfl)) (⟨x485⟩ : odd) rfl hx584)) (by
           refine TG.del 5 (TG.dropF (A := [(3, Own.map' keS (fun v : Value => v) b16 hs391), (2, cel b2 27 [.int .i64 0]), (1, cel b1 26 [.slice ad386 s385.2.1.length cap387])]) (TG.del 3 (TG.eq (σ' := [(2, cel b2 27 [.int .i64 0]), (1, cel b1 26 [.slice ad386 s385.2.1.length cap387])]) rfl (pn28 (tA := 1) (tB := 2) rfl rfl rfl fun b631 cs632 => ?_))))
           intro a w hS hA
           refine rc2 hA rfl (ResAt.cell rfl (loads1 G26 (cell_at (hS.get (t := 1) rfl)) rfl)) (ResAt.cell rfl (loads1 G27 (cell_at (hS.get (t := 2) rfl)) rfl)) ?_
           exact ⟨⟨_, _, rfl, (Sl.nil _ _ _ _ _ (by decide))⟩, hS.ext⟩))) fun _ => ?_
        refine DF.und () (fun _ => .bool false) (fun _ _ => False) (fun _ _ _ h x => x) (by kernel_rfl) rfl (fun a w K hS hA hF => (False.elim (hF.1 rfl))) fun _ => (DF.nil fun K635 hF => ?_)
        obtain ⟨hu634, hu633, _⟩ := hF
        exact False.elim hu633
     ·rintro a w ⟨t562, rfl, ad563, cap564, css565, K566, hs568, az569, hS, hA, hR567, hF570⟩
      refine TG.ap ?_ hS hA
      refine rg (adI rfl rfl rfl (by omega) (m1 rfl (on ?_)))
      cases hr561
      intro a w hS hA
      exact ⟨_, hz395, ad563, cap564, css565, K566, hs568, az569, hS.selH [0, 2, 3] rfl, hA.cut ⟨rfl, rfl, rfl, rfl, rfl, rfl, rfl, tv⟩, hR567, hF570⟩
    ·have hr636 := if_n hc400 hr394
     refine xt rfl ?_
     cases hr636
     obtain rfl := Fin.out hz395
     intro a w hS hA
     exact ⟨_, rfl, ad386, cap387, css388, K389, hs391, az392, hS, hA.cut ⟨rfl, rfl, rfl, rfl, tv⟩, hR390, hF393⟩
  ·rintro a w ⟨t376, rfl, ad377, cap378, css379, K380, hs382, az383, hS, hA, hR381, hF384⟩
   apply TG.ap ?_ hS hA
   refine sq (sq (rg (ld G26 rfl rfl (sO 1 rfl) rfl (TG.len 5 rfl fun _ => (lnL U26 rfl rfl (m1 rfl (on (TG.lieR [(5, Own.rows ad377 cap378 64 4 css379 t376.1), (3, Own.map' keS (fun v : Value => v) b16 hs382), (2, cel b2 27 [.int .i64 0]), (1, cel b1 26 [.slice ad377 t376.1.length cap378])] 3 hF384 rfl (fun _ => rfl) fun K692 hm694 => ?_))))))))
   obtain ⟨e744, hl745, hr746⟩ := bd_some hr375
   refine jn (fun a w => ∃ (ad747 : Option Addr) (cap748 : Nat) (css749 : List (List Value)) (K750 : Hp), St M W H [K750, K692, K380, K12, H] [(5, Own.rows ad747 cap748 64 4 css749 e744), (2, cel b2 27 [.int .i64 0]), (1, cel b1 26 [.slice ad747 e744.length cap748])] w ∧ Has [dfc 66 [.pointer (some (⟨b1, 0, none⟩)), .pointer (some (⟨b2, 0, none⟩))]] 88 a [(0, .slice ad_b_0 b_0.length cap_b_0), (2, .pointer (some (⟨b1, 0, none⟩))), (3, .pointer (some (⟨b2, 0, none⟩)))] ∧ Rows (RHeading) 4 K750 css749 e744) ?_ ?_
   ·refine bk ?_
    refine lp hl745 (fun s752 a w => ∃ (mp753 : Value) (K754 : Hp) (ad756 : Option Addr) (cap757 : Nat) (css758 : List (List Value)) (K759 : Hp), St M W H [K754, K759, K692, K380, K12, H] [(5, Own.rows ad756 cap757 64 4 css758 s752.2.2), (2, cel b2 27 [.int .i64 0]), (1, cel b1 26 [.slice ad756 s752.2.2.length cap757])] w ∧ Has [dfc 66 [.pointer (some (⟨b1, 0, none⟩)), .pointer (some (⟨b2, 0, none⟩))]] 88 a [(0, .slice ad_b_0 b_0.length cap_b_0), (2, .pointer (some (⟨b1, 0, none⟩))), (3, .pointer (some (⟨b2, 0, none⟩))), (5, mp753), (55, .int .i64 (t376.1.length : Int)), (56, .int .i64 (s752.1 : Int))] ∧ Mr keS encS 1 K754 mp753 s752.2.1 ∧ Rows (RHeading) 4 K759 css758 s752.2.2) ?_ ?_
    ·intro a w hS hA
     exact ⟨.map (some b16), K692, ad377, cap378, css379, K380, hS.selH [0, 1, 0, 1, 2, 3] rfl, hA.cut ⟨rfl, rfl, rfl, rfl, rfl, rfl, tv⟩, hm694, hR381⟩
    ·rintro j s752 y763 hr761 hz762 a w ⟨mp753, K754, ad756, cap757, css758, K759, hS, hA, hm755, hR760⟩
     refine TG.ap ?_ hS hA
     unfold m28_2 at hr761
     refine sq (rg (ltI rfl rfl rfl (on (sq ?_))))
     refine ci rfl (fun hc767 => ?_) (fun hc767 => ?_)
     ·have hr768 := if_p hc767 hr761
      refine sk (sq (bk (sq (rg (m1 rfl (a1 rfl (on ?_)))))))
      obtain ⟨x798, hx799, hr800⟩ := bd_some hr768
      refine TG.addr 5 rfl (lt_of0 hx799) fun b801 h => ?_; subst h
      obtain ⟨cs802, hr803, hl804, hcs805, sc806⟩ := sER hR760 hx799
      have hr807 := hr803
      obtain ⟨ad808, cap809, ad811, cap812, ad814, cap815, rfl, hl810, hl813, hl816⟩ := hr803
      have := hl810.len
      have := hl813.len
      have := hl816.len
      obtain ⟨hs817, ad818, cap819, hm820, he821, hl822⟩ := hm755.look x798.name
      refine drG 9 mixed (by kernel_rfl) rfl (dt rfl (ld G26 rfl rfl (sO 1 rfl) rfl fin1) (dt rfl (m1 rfl fin1) (dt rfl (m1 rfl fin1) (dt rfl (ld G26 rfl rfl (sO 1 rfl) rfl fin1) (dt rfl (m1 rfl fin1) (dt rfl (iaP U26 Z64 rfl rfl rfl rfl (lt_of hx799) fin1) (dt rfl (fb 0 U64 rfl rfl rfl rfl Z9 fin1) (dt rfl (ld G9 rfl rfl ((sc806 (t := 5) rfl).take 1) rfl fin1) (dt rfl (lkR (ke := keS) x798.name U114 U9 Tryz.zeroValue50 rfl rfl rfl (mS 1 rfl hm820) he821 fin1) (DF.nil fun K823 hF => (iaP U26 Z64 rfl rfl rfl rfl (lt_of hx799) ?_)))))))))))
      refine fb 1 U64 rfl rfl rfl rfl Z50 ?_
      have hln826 : (s752.2.2.set s752.1 (⟨x798.name, ((lkp s752.2.1 x798.name).getD []), x798.also, x798.places⟩ : Heading)).length = s752.2.2.length := (lenS _ _ _)
      refine TG.pack (fun K => Rows (RHeading) 4 K (css758.set s752.1 [.string (bs x798.name), .slice ad818 (((lkp s752.2.1 x798.name).getD []).length) cap819, .slice ad811 x798.also.length cap812, .slice ad814 x798.places.length cap815]) (s752.2.2.set s752.1 (⟨x798.name, ((lkp s752.2.1 x798.name).getD []), x798.also, x798.places⟩ : Heading))) (fun H le => Rows.set (R := RHeading) (cs1 := [.string (bs x798.name), .slice ad818 (((lkp s752.2.1 x798.name).getD []).length) cap819, .slice ad811 x798.also.length cap812, .slice ad814 x798.places.length cap815]) (y := (⟨x798.name, ((lkp s752.2.1 x798.name).getD []), x798.also, x798.places⟩ : Heading)) rfl rfl ⟨_, _, _, _, _, _, rfl, (hl822.mono (Flat.mono _) (le.at 1 rfl)), (hl813.mono (Flat.mono _) (le.at 2 rfl)), (hl816.mono (Flat.mono _) (le.at 2 rfl))⟩ s752.1 (hR760.mono (RHeading.mono) (le.at 2 rfl))) fun K824 hR825 => (stR 5 (⟨x798.name, ((lkp s752.2.1 x798.name).getD []), x798.also, x798.places⟩ : Heading) [.string (bs x798.name), .slice ad818 (((lkp s752.2.1 x798.name).getD []).length) cap819, .slice ad811 x798.also.length cap812, .slice ad814 x798.places.length cap815] (q := ⟨b801, 0, none⟩) (j := s752.1) (size := 4) (cs := [.slice ad818 (((lkp s752.2.1 x798.name).getD []).length) cap819]) (off := 1) Z50 (ad2 (b := 1) rfl) rfl rfl hR760 hcs805 rfl rfl rfl rfl rfl rfl (on (rg (adI rfl rfl rfl (by omega) (m1 rfl (on (TG.as 1 (z := cel b1 26 [.slice (some ⟨b801, 0, none⟩) ((s752.2.2.set s752.1 (⟨x798.name, ((lkp s752.2.1 x798.name).getD []), x798.also, x798.places⟩ : Heading)).length) cap757]) rfl (by rw [hln826]) ?_)))))))
      cases hr800
      intro a w hS hA
      exact ⟨_, hz762, mp753, K754, (some ⟨b801, 0, none⟩), cap757, (css758.set s752.1 [Value.string (bs x798.name), Value.slice ad818 (((lkp s752.2.1 x798.name).getD []).length) cap819, Value.slice ad811 x798.also.length cap812, Value.slice ad814 x798.places.length cap815]), K824, hS.selH [2, 0, 4, 5, 6, 7] rfl, hA.cut ⟨rfl, rfl, rfl, rfl, rfl, rfl, tv⟩, hm755, hR825⟩
     ·have hr827 := if_n hc767 hr761
      refine xt rfl ?_
      cases hr827
      obtain rfl := Fin.out hz762
      intro a w hS hA
      exact ⟨ad756, cap757, css758, K759, hS.selH [1, 2, 3, 4, 5] rfl, hA.cut ⟨rfl, rfl, rfl, tv⟩, hR760⟩
   ·rintro a w ⟨ad747, cap748, css749, K750, hS, hA, hR751⟩
    apply TG.ap ?_ hS hA
    refine sq (sq (rg (ld G26 rfl rfl (sO 1 rfl) rfl (TG.stillR 5 rfl 0 rfl (RHeading.mono) hR751 fun K828 hl829 => ?_))))
    have := hl829.len
    obtain ⟨r830, hx831, hr832⟩ := bd_some hr746
    refine clK C50 rfl rfl rfl rfl (fun w H hH le => w50 hH (hg.mono (le.at 5 rfl)) (hl829.mono (RHeading.mono) (le.at 0 rfl)) hx831) ?_
    rintro v_ K833 ⟨mp834, rfl, hm835⟩
    refine m1 rfl (ex rfl rfl rfl (ex rfl rfl rfl (a1 rfl (a1 rfl (on (sq ?_))))))
    obtain ⟨t844, hx845, hr846⟩ := bd_some hr832
    refine jn (fun a w => St M W H [K833, K828, K750, K692, K380, K12, H] [(2, cel b2 27 [.int .i64 0]), (1, cel b1 26 [.slice ad747 e744.length cap748])] w ∧ Has [dfc 66 [.pointer (some (⟨b1, 0, none⟩)), .pointer (some (⟨b2, 0, none⟩))]] 88 a [(2, .pointer (some (⟨b1, 0, none⟩))), (3, .pointer (some (⟨b2, 0, none⟩))), (84, .bool t844)]) ?_ ?_
    ·by_cases hb847 : r830.2 ≠ 0
     ·have hr848 := if_p hb847 hx845
      refine drG 7 mixed (by kernel_rfl) rfl (dt rfl (m1 rfl fin1) (dt rfl (neI rfl rfl rfl fin1) (dt rfl (m1 rfl fin1) (dt rfl (gf' hb847 rfl fin1) (dt rfl (gf' hb847 rfl fin1) (dt rfl (gf' hb847 rfl fin1) (dt rfl (gf' hb847 rfl fin1) (DF.nil fun K849 hF => (gf' hb847 rfl (pt hb847 rfl rfl (on ?_)))))))))))
      cases hr848
      intro a w hS hA
      exact ⟨hS.selH [1, 2, 3, 4, 5, 6, 7] rfl, hA.cut ⟨rfl, rfl, rfl, tv⟩⟩
     ·have hr850 := if_n hb847 hx845
      obtain ⟨r851, hx852, hr853⟩ := bd_some hr850
      refine drG 7 mixed (by kernel_rfl) rfl (dt rfl (m1 rfl fin1) (dt rfl (neI rfl rfl rfl fin1) (dt rfl (m1 rfl fin1) (dt rfl (gt' hb847 rfl (ld G26 rfl rfl (sO 1 rfl) rfl fin1)) (dt rfl (gt' hb847 rfl (clS C63 rfl rfl rfl rfl (fun w H hH le => w63 hH (hg.mono (le.at 7 rfl)) (hl829.mono (RHeading.mono) (le.at 2 rfl)) hx852) fin1)) (dt rfl (gt' hb847 rfl (m1 rfl fin1)) (dt rfl (gt' hb847 rfl (cvT h_b_0 7 rfl U37 U5 U9 rfl rfl fin1)) (DF.nil fun K854 hF => (gt' hb847 rfl (neS rfl rfl rfl (pf hb847 rfl rfl ?_)))))))))))
      refine on ?_
      cases hr853
      intro a w hS hA
      exact ⟨hS.selH [1, 2, 3, 4, 5, 6, 7] rfl, hA.cut ⟨rfl, rfl, rfl, tv⟩⟩
    ·rintro a w ⟨hS, hA⟩
     refine TG.ap ?_ hS hA
     refine cb rfl (fun hc858 => ?_) (fun hc858 => ?_)
     ·have hr859 := if_p hc858 hr846
      refine rg (bu (cs := [.string (bs [])]) T11.B111 rfl rfl rfl (fi U111 rfl rfl rfl (pnc rfl (TG.eq (σ' := [(2, cel b2 27 [.int .i64 0]), (1, cel b1 26 [.slice ad747 e744.length cap748])]) rfl (pn28 (tA := 1) (tB := 2) rfl rfl rfl fun b860 cs861 => ?_)))))
      cases hr859
      intro a w hS hA
      refine rc2 hA rfl (ResAt.cell rfl (loads1 G26 (cell_at (hS.get (t := 1) rfl)) rfl)) (ResAt.cell rfl (loads1 G27 (cell_at (hS.get (t := 2) rfl)) rfl)) ?_
      exact ⟨⟨_, _, rfl, (Sl.nil _ _ _ _ _ (by decide))⟩, hS.ext⟩
     ·have hr862 := if_f hc858 hr846
      refine sk (sq (rg (ld G26 rfl rfl (sO 1 rfl) rfl (sto 1 (cs := [.slice ad747 e744.length cap748]) Z26 rfl rfl rfl rfl rfl rfl rfl (sto 2 (cs := [.int .i64 0]) Z27 rfl rfl rfl rfl rfl rfl rfl (on (rt_ ?_)))))))
      cases hr862
      refine rt28 ?_
      intro a w hS hA
      refine rc2 hA rfl (ResAt.cell rfl (loads1 G26 (cell_at (hS.get (t := 1) rfl)) rfl)) (ResAt.cell rfl (loads1 G27 (cell_at (hS.get (t := 2) rfl)) rfl)) ?_
      exact ⟨⟨_, _, rfl, (hl829.mono (RHeading.mono) (hS.grow 1 rfl))⟩, hS.ext⟩

theorem w73 {M : Prop} {W : World} {cs_p_0 : List Value} (p_0 : Place) (h_p_0 : (Flat encPlace) (hp W) cs_p_0 p_0) {cs_c_1 : List Value} (c_1 : A2_Int) (h_c_1 : (Flat encA2_Int) (hp W) cs_c_1 c_1) {r : Bool} (hr : m73 p_0 c_1 = some r) : Calls Tryz.prog 73 [.agg cs_p_0.toArray, .agg cs_c_1.toArray].toArray W (RetS M W (.bool r)) := by
 obtain rfl := h_p_0
 obtain rfl := h_c_1
 unfold m73 at hr
 refine enterG (M := M) Tryz.func73 rfl Tryz.ntmps73 rfl (Hp.le.refl _) ?_
 refine sq (rg (bI (cs := [.int .i64 p_0.volume, .int .i64 p_0.from_, .int .i64 p_0.to_]) rfl rfl rfl fun q1 K2 hK3 => (bI (cs := [.int .i64 c_1.e0, .int .i64 c_1.e1]) rfl rfl rfl fun q4 K5 hK6 => (a1 rfl (on (sq ?_))))))
 obtain ⟨t13, hx14, hr15⟩ := bd_some hr
 refine jn (fun a w => St M W (hp W) [K5, K2, (hp W)] [] w ∧ Has [] 19 a [(4, .bool t13)]) ?_ ?_
 ·refine rg (fb 0 U81 rfl rfl rfl rfl Z3 (ld G3 rfl rfl ((sS 1 rfl hK3).take 1) rfl (iaA U121 Z3 rfl rfl rfl (j := 0) rfl (by decide) (ld G3 rfl rfl ((sS 0 rfl hK6).take 1) rfl (eqI rfl rfl rfl (m1 rfl ?_))))))
  by_cases hb16 : p_0.volume = c_1.e0
  ·have hr17 := if_p hb16 hx14
   refine gt hb16 rfl (iaA U121 Z3 rfl rfl rfl (j := 1) rfl (by decide) (gt hb16 rfl (ld G3 rfl rfl ((sS 0 rfl hK6).drop 1) rfl (gt hb16 rfl (fb 1 U81 rfl rfl rfl rfl Z3 (gt hb16 rfl (ld G3 rfl rfl (((sS 1 rfl hK3).drop 1).take 1) rfl (gt hb16 rfl (fb 2 U81 rfl rfl rfl rfl Z3 (gt hb16 rfl (ld G3 rfl rfl ((sS 1 rfl hK3).drop 2) rfl ?_)))))))))))
   refine gt hb16 rfl ?_
   obtain ⟨r18, hx19, hr20⟩ := bd_some hr17
   refine clS C72 rfl rfl rfl rfl (fun w H hH le => w72 c_1.e1 p_0.from_ p_0.to_ hx19) (pt hb16 rfl rfl (a1 rfl (on ?_)))
   cases hr20
   exact cu ⟨rfl, tv⟩
  ·have hr21 := if_n hb16 hx14
   refine gf hb16 rfl (gf hb16 rfl (gf hb16 rfl (gf hb16 rfl (gf hb16 rfl (gf hb16 rfl (gf hb16 rfl (pf hb16 rfl rfl (a1 rfl (on ?_)))))))))
   cases hr21
   exact cu ⟨rfl, tv⟩
 ·rintro a w ⟨hS, hA⟩
  refine TG.ap ?_ hS hA
  refine rt_ ?_
  cases hr15
  intro a w hS hA
  refine ret1 hA rfl rfl ?_
  exact ⟨rfl, hS.ext⟩

theorem w33 {M : Prop} {W : World} {H : Hp} (hH : H.le (hp W)) (hg : Gv M H) {ad_l_0 : Option Addr} {cap_l_0 : Nat} {l_0 : List Heading} (h_l_0 : Sl (RHeading) 4 H ad_l_0 cap_l_0 l_0) (volume : Int) (number : Int) {r : List Bytes × Int} (hr : m33 l_0 volume number = some r) : Calls Tryz.prog 33 [.slice ad_l_0 l_0.length cap_l_0, .int .i64 volume, .int .i64 number].toArray W (RetK M H W (fun v K => ∃ (ad0 : Option Addr) (cap0 : Nat), v = .tuple [.slice ad0 r.1.length cap0, .int .i64 r.2].toArray ∧ Sl (Flat encS) 1 K ad0 cap0 r.1)) := by
 have := h_l_0.len
 unfold m33 at hr
 refine enterG (M := M) Tryz.func33 rfl Tryz.ntmps33 rfl hH ?_
 refine sq (rg (a1 rfl (a1 rfl (on (sc (sq (sq (rg (m1 rfl ?_)))))))))
 obtain ⟨r1, hx2, hr3⟩ := bd_some hr
 refine clK C50 rfl rfl rfl rfl (fun w H hH le => w50 hH (hg.mono (le.at 0 rfl)) (h_l_0.mono (RHeading.mono) (le.at 0 rfl)) hx2) ?_
 rintro v_ K4 ⟨mp5, rfl, hm6⟩
 refine m1 rfl (ex rfl rfl rfl (ex rfl rfl rfl (a1 rfl (a1 rfl (on (sq (rg (m1 rfl (neI rfl rfl rfl (on ?_))))))))))
 refine ci rfl (fun hc10 => ?_) (fun hc10 => ?_)
 ·have hr11 := if_p hc10 hr3
  refine sq (rg (m1 rfl (a1 rfl (a1 rfl (on (rt_ ?_))))))
  cases hr11
  intro a w hS hA
  refine ret2 hA rfl rfl rfl ?_
  exact ⟨⟨_, _, rfl, (Sl.nil _ _ _ _ _ (by decide))⟩, hS.ext⟩
 ·have hr12 := if_n hc10 hr3
  refine sk (sq (sq ?_))
  obtain ⟨t22, hx23, hr24⟩ := bd_some hr12
  refine jn (fun a w => St M W H [K4, H] [] w ∧ Has [] 58 a [(0, .slice ad_l_0 l_0.length cap_l_0), (1, .int .i64 volume), (2, .int .i64 number), (6, .slice none 0 0), (30, .bool t22)]) ?_ ?_
  ·refine rg (m1 rfl ?_)
   obtain ⟨r25, hx26, hr27⟩ := bd_some hx23
   refine clS C72 rfl rfl rfl rfl (fun w H hH le => w72 volume 1 999 hx26) (nt rfl rfl (m1 rfl ?_))
   rcases Bool.eq_false_or_eq_true (r25) with hb28 | hb28
   ·have hr29 := if_p hb28 hr27
    refine gN rfl rfl (congrArg not (hb28)) (m1 rfl (gN rfl rfl (congrArg not (hb28)) ?_))
    obtain ⟨r30, hx31, hr32⟩ := bd_some hr29
    refine clS C72 rfl rfl rfl rfl (fun w H hH le => w72 number 1 9999 hx31) (gN rfl rfl (congrArg not (hb28)) (nt rfl rfl (pF rfl rfl (congrArg not (hb28)) rfl (on ?_))))
    cases hr32
    exact cu ⟨rfl, rfl, rfl, rfl, rfl, tv⟩
   ·have hr33 := if_f hb28 hr27
    refine gF rfl rfl (congrArg not (hb28)) rfl (gF rfl rfl (congrArg not (hb28)) rfl (gF rfl rfl (congrArg not (hb28)) rfl (pT rfl rfl (congrArg not (hb28)) rfl (on ?_))))
    cases hr33
    exact cu ⟨rfl, rfl, rfl, rfl, rfl, tv⟩
  ·rintro a w ⟨hS, hA⟩
   refine TG.ap ?_ hS hA
   refine cb rfl (fun hc37 => ?_) (fun hc37 => ?_)
   ·have hr38 := if_p hc37 hr24
    refine sq (rg (a1 rfl (a1 rfl (on (rt_ ?_)))))
    cases hr38
    intro a w hS hA
    refine ret2 hA rfl rfl rfl ?_
    exact ⟨⟨_, _, rfl, (Sl.nil _ _ _ _ _ (by decide))⟩, hS.ext⟩
   ·have hr39 := if_f hc37 hr24
    refine sk (sq (rg (m1 rfl (m1 rfl (buA (cs := [.int .i64 volume, .int .i64 number]) T11.B121 rfl rfl rfl (va (cs := [.int .i64 volume, .int .i64 number]) Tryz.zeroValue121 Z121 rfl rfl rfl rfl rfl rfl rfl rfl fun q40 K41 hK42 => (on (sq (lb (sq (sq ?_)))))))))))
    refine rg (m1 rfl (lnL U26 rfl rfl (m1 rfl (on (TG.nilRow 2 9 1 (TG.as 2 (z := Own.list none 0 9 1 encS ([] : List Bytes)) rfl rfl ?_))))))
    obtain ⟨e268, hl269, hr270⟩ := bd_some hr39
    refine jn (fun a w => ∃ (ad271 : Option Addr) (cap272 : Nat), St M W H [K41, K4, H] [(2, Own.list ad271 cap272 9 1 encS e268)] w ∧ Has [] 58 a [(6, .slice ad271 e268.length cap272)]) ?_ ?_
    ·refine bk ?_
     refine lp hl269 (fun s273 a w => ∃ (ad274 : Option Addr) (cap275 : Nat), St M W H [K41, K4, H] [(2, Own.list ad274 cap275 9 1 encS s273.2)] w ∧ Has [] 58 a [(6, .slice ad274 s273.2.length cap275), (10, .pointer (some q40)), (34, .slice ad_l_0 l_0.length cap_l_0), (35, .int .i64 (l_0.length : Int)), (36, .int .i64 (s273.1 : Int))]) ?_ ?_
     ·intro a w hS hA
      exact ⟨none, 0, hS, hA.cut ⟨rfl, rfl, rfl, rfl, rfl, tv⟩⟩
     ·rintro j s273 y278 hr276 hz277 a w ⟨ad274, cap275, hS, hA⟩
      refine TG.ap ?_ hS hA
      unfold m33_1 at hr276
      refine sq (rg (ltI rfl rfl rfl (on (sq ?_))))
      refine ci rfl (fun hc282 => ?_) (fun hc282 => ?_)
      ·have hr283 := if_p hc282 hr276
       refine sk (sq ?_)
       obtain ⟨t332, hx333, hr334⟩ := bd_some hr283
       refine jn (fun a w => ∃ (ad335 : Option Addr) (cap336 : Nat), St M W H [K41, K4, H] [(2, Own.list ad335 cap336 9 1 encS t332)] w ∧ Has [] 58 a [(6, .slice ad335 t332.length cap336), (10, .pointer (some q40)), (34, .slice ad_l_0 l_0.length cap_l_0), (35, .int .i64 (l_0.length : Int)), (36, .int .i64 (s273.1 : Int))]) ?_ ?_
       ·refine bk (sq (rg ?_))
        obtain ⟨x337, hx338, hr339⟩ := bd_some hx333
        obtain ⟨p340, rfl⟩ := h_l_0.adr hx338
        obtain ⟨cs341, hcs342, hq343, hr344⟩ := h_l_0.at hx338
        have hr345 := hr344
        obtain ⟨ad346, cap347, ad349, cap350, ad352, cap353, rfl, hl348, hl351, hl354⟩ := hr344
        have := hl348.len
        have := hl351.len
        have := hl354.len
        refine iaP U26 Z64 rfl rfl rfl rfl (lt_of hx338) (ldA G64 Z64 rfl rfl (sS 2 rfl hq343) rfl (va (cs := [.string (bs x337.name), .slice ad346 x337.variants.length cap347, .slice ad349 x337.also.length cap350, .slice ad352 x337.places.length cap353]) Tryz.zeroValue64 Z64 rfl rfl rfl rfl rfl rfl rfl rfl fun q355 K356 hK357 => (on (sq (rg (fb 3 U64 rfl rfl rfl rfl Z62 (ld G62 rfl rfl ((sS 0 rfl hK357).drop 3) rfl (lnL U62 rfl rfl (m1 rfl (on ?_))))))))))
        obtain ⟨e384, hl385, hr386⟩ := bd_some hr339
        refine jn (fun a w => ∃ t387, e384 = .inl t387 ∧ St M W H [K356, K41, K4, H] [(2, Own.list ad274 cap275 9 1 encS s273.2)] w ∧ Has [] 58 a [(6, .slice ad274 s273.2.length cap275), (10, .pointer (some q40)), (34, .slice (some p340) l_0.length cap_l_0), (35, .int .i64 (l_0.length : Int)), (36, .int .i64 (s273.1 : Int))]) ?_ ?_
        ·refine bk ?_
         refine lp hl385 (fun s388 a w => St M W H [K356, K41, K4, H] [(2, Own.list ad274 cap275 9 1 encS s273.2)] w ∧ Has [] 58 a [(6, .slice ad274 s273.2.length cap275), (10, .pointer (some q40)), (12, .pointer (some q355)), (34, .slice (some p340) l_0.length cap_l_0), (35, .int .i64 (l_0.length : Int)), (36, .int .i64 (s273.1 : Int)), (41, .slice ad352 x337.places.length cap353), (42, .int .i64 (x337.places.length : Int)), (43, .int .i64 (s388 : Int))]) ?_ ?_
         ·exact cu ⟨rfl, rfl, rfl, rfl, rfl, rfl, rfl, rfl, rfl, tv⟩
         ·rintro j s388 y391 hr389 hz390 a w ⟨hS, hA⟩
          refine TG.ap ?_ hS hA
          unfold m33_2 at hr389
          refine sq (rg (ltI rfl rfl rfl (on (sq ?_))))
          refine ci rfl (fun hc395 => ?_) (fun hc395 => ?_)
          ·have hr396 := if_p hc395 hr389
           refine sk (sq (bk (sq (rg ?_))))
           obtain ⟨x419, hx420, hr421⟩ := bd_some hr396
           obtain ⟨p422, rfl⟩ := hl354.adr hx420
           obtain ⟨cs423, hcs424, hq425, hr426⟩ := hl354.at hx420
           obtain rfl := hr426
           refine iaP U62 Z81 rfl rfl rfl rfl (lt_of hx420) (ldA G81 Z81 rfl rfl (sS 3 rfl hq425) rfl (va (cs := [.int .i64 x419.volume, .int .i64 x419.from_, .int .i64 x419.to_]) Tryz.zeroValue81 Z81 rfl rfl rfl rfl rfl rfl rfl rfl fun q427 K428 hK429 => (on (sq (rg (ldA G81 Z81 rfl rfl (sS 0 rfl hK429) rfl (ldA G121 Z121 rfl rfl (sS 2 rfl hK42) rfl ?_)))))))
           obtain ⟨r430, hx431, hr432⟩ := bd_some hr421
           refine clS C73 rfl rfl rfl rfl (fun w H hH le => w73 x419 rfl (⟨volume, number⟩ : A2_Int) rfl hx431) (on ?_)
           refine cb rfl (fun hc441 => ?_) (fun hc441 => ?_)
           ·have hr442 := if_p hc441 hr432
            refine sq (rg (m1 rfl (fb 0 U64 rfl rfl rfl rfl Z9 (ld G9 rfl rfl ((sS 1 rfl hK357).take 1) rfl ?_))))
            obtain ⟨hk443, hr444⟩ := chk_some hr442
            have := lenA s273.2 [x337.name]
            have := len1 x337.name
            refine ap1 2 encS (l := s273.2) x337.name T11.E50 rfl rfl rfl rfl rfl rfl rfl rfl rfl rfl rfl rfl hk443 fun ad445 cap446 u447 => (a1 rfl (on (xt rfl ?_)))
            obtain ⟨z448, hr449, rfl⟩ := mp_some hr444
            obtain rfl := Fin.out hz390
            cases hr386
            cases hr449
            intro a w hS hA
            exact ⟨ad445, cap446, hS.selH [2, 3, 4] rfl, hA.cut ⟨rfl, rfl, rfl, rfl, rfl, tv⟩⟩
           ·have hr450 := if_f hc441 hr432
            refine sk (rg (adI rfl rfl rfl (by omega) (m1 rfl (on ?_))))
            cases hr450
            intro a w hS hA
            exact ⟨_, hz390, hS.selH [1, 2, 3, 4] rfl, hA.cut ⟨rfl, rfl, rfl, rfl, rfl, rfl, rfl, rfl, rfl, tv⟩⟩
          ·have hr451 := if_n hc395 hr389
           refine xt rfl ?_
           cases hr451
           obtain rfl := Fin.out hz390
           intro a w hS hA
           exact ⟨_, rfl, hS, hA.cut ⟨rfl, rfl, rfl, rfl, rfl, tv⟩⟩
        ·rintro a w ⟨t387, rfl, hS, hA⟩
         apply TG.ap ?_ hS hA
         cases hr386
         intro a w hS hA
         exact ⟨ad274, cap275, hS.selH [1, 2, 3] rfl, hA.cut ⟨rfl, rfl, rfl, rfl, rfl, tv⟩⟩
       ·rintro a w ⟨ad335, cap336, hS, hA⟩
        refine TG.ap ?_ hS hA
        refine rg (adI rfl rfl rfl (by omega) (m1 rfl (on ?_)))
        cases hr334
        intro a w hS hA
        exact ⟨_, hz277, ad335, cap336, hS, hA.cut ⟨rfl, rfl, rfl, rfl, rfl, tv⟩⟩
      ·have hr452 := if_n hc282 hr276
       refine xt rfl ?_
       cases hr452
       obtain rfl := Fin.out hz277
       intro a w hS hA
       exact ⟨ad274, cap275, hS, hA.cut ⟨rfl, tv⟩⟩
    ·rintro a w ⟨ad271, cap272, hS, hA⟩
     apply TG.ap ?_ hS hA
     refine sq (rg (m1 rfl (a1 rfl (a1 rfl (on (rt_ ?_))))))
     cases hr270
     intro a w hS hA
     refine ret2 hA rfl rfl rfl ?_
     exact ⟨⟨_, _, rfl, (hS.listOut 2 rfl (fun _ => rfl))⟩, hS.ext⟩

theorem w44 {M : Prop} {W : World} {H : Hp} (hH : H.le (hp W)) {ad_a_0 : Option Addr} {cap_a_0 : Nat} {a_0 : List Bytes} (h_a_0 : Sl (Flat encS) 1 H ad_a_0 cap_a_0 a_0) {ad_b_1 : Option Addr} {cap_b_1 : Nat} {b_1 : List Bytes} (h_b_1 : Sl (Flat encS) 1 H ad_b_1 cap_b_1 b_1) {r : Bool} (hr : m44 a_0 b_1 = some r) : Calls Tryz.prog 44 [.slice ad_a_0 a_0.length cap_a_0, .slice ad_b_1 b_1.length cap_b_1].toArray W (RetS M W (.bool r)) := by
 have := h_a_0.len
 have := h_b_1.len
 unfold m44 at hr
 refine enterG (M := M) Tryz.func44 rfl Tryz.ntmps44 rfl hH ?_
 refine sq (rg (a1 rfl (on (sq (sq (rg (m1 rfl (lnL U50 rfl rfl (m1 rfl (lnL U50 rfl rfl (neI rfl rfl rfl ?_)))))))))))
 refine on ?_
 refine ci rfl (fun hc4 => ?_) (fun hc4 => ?_)
 ·have hr5 := if_p hc4 hr
  refine sq (rg (a1 rfl (on (rt_ ?_))))
  cases hr5
  intro a w hS hA
  refine ret1 hA rfl rfl ?_
  exact ⟨rfl, hS.ext⟩
 ·have hr6 := if_n hc4 hr
  refine sk (sq (sq (rg (a1 rfl (on ?_)))))
  obtain ⟨e31, hl32, hr33⟩ := bd_some hr6
  refine jn (fun a w => ∃ t34, e31 = .inl t34 ∧ St M W H [H] [] w ∧ Has [] 26 a []) ?_ ?_
  ·refine bk ?_
   refine lp hl32 (fun s35 a w => St M W H [H] [] w ∧ Has [] 26 a [(0, .slice ad_a_0 a_0.length cap_a_0), (1, .slice ad_b_1 b_1.length cap_b_1), (5, .int .i64 (s35 : Int))]) ?_ ?_
   ·exact cu ⟨rfl, rfl, rfl, tv⟩
   ·rintro j s35 y38 hr36 hz37 a w ⟨hS, hA⟩
    refine TG.ap ?_ hS hA
    unfold m44_1 at hr36
    refine sq (sq (rg (m1 rfl (m1 rfl (lnL U50 rfl rfl (ltI rfl rfl rfl (on ?_)))))))
    refine ci rfl (fun hc42 => ?_) (fun hc42 => ?_)
    ·have hr43 := if_p hc42 hr36
     refine sk (sq (bk (sq ?_)))
     obtain ⟨x64, hx65, hr66⟩ := bd_some hr43
     obtain ⟨p67, rfl⟩ := h_a_0.adr hx65
     obtain ⟨cs68, hcs69, hq70, hr71⟩ := h_a_0.at hx65
     obtain rfl := hr71
     obtain ⟨x72, hx73, hr74⟩ := bd_some hr66
     obtain ⟨p75, rfl⟩ := h_b_1.adr hx73
     obtain ⟨cs76, hcs77, hq78, hr79⟩ := h_b_1.at hx73
     obtain rfl := hr79
     refine drG 8 mixed (by kernel_rfl) rfl (dt rfl (m1 rfl fin1) (dt rfl (m1 rfl fin1) (dt rfl (iaP U50 Z9 rfl rfl rfl rfl (lt_of hx65) fin1) (dt rfl (ld G9 rfl rfl (sS 1 rfl hq70) rfl fin1) (dt rfl (m1 rfl fin1) (dt rfl (m1 rfl fin1) (dt rfl (iaP U50 Z9 rfl rfl rfl rfl (lt_of hx73) fin1) (dt rfl (ld G9 rfl rfl (sS 1 rfl hq78) rfl fin1) (DF.nil fun K80 hF => (neS rfl rfl rfl (on ?_)))))))))))
     refine ci rfl (fun hc84 => ?_) (fun hc84 => ?_)
     ·have hr85 := if_p hc84 hr74
      refine sq (rg (a1 rfl (on (rt_ ?_))))
      cases hr85
      obtain rfl := Fin.out hz37
      cases hr33
      intro a w hS hA
      refine ret1 hA rfl rfl ?_
      exact ⟨rfl, hS.ext⟩
     ·have hr86 := if_n hc84 hr74
      refine sk (rg (m1 rfl (adI rfl rfl rfl (by omega) (a1 rfl (on ?_)))))
      cases hr86
      intro a w hS hA
      exact ⟨_, hz37, hS.selH [1] rfl, hA.cut ⟨rfl, rfl, rfl, tv⟩⟩
    ·have hr87 := if_n hc42 hr36
     refine xt rfl ?_
     cases hr87
     obtain rfl := Fin.out hz37
     intro a w hS hA
     exact ⟨_, rfl, hS, hA.cut tv⟩
  ·rintro a w ⟨t34, rfl, hS, hA⟩
   apply TG.ap ?_ hS hA
   refine sq (rg (a1 rfl (on (rt_ ?_))))
   cases hr33
   intro a w hS hA
   refine ret1 hA rfl rfl ?_
   exact ⟨rfl, hS.ext⟩

theorem w40 {M : Prop} {W : World} {H : Hp} (hH : H.le (hp W)) {cs_a_0 : List Value} (a_0 : Heading) (h_a_0 : (RHeading) H cs_a_0 a_0) {cs_b_1 : List Value} (b_1 : Heading) (h_b_1 : (RHeading) H cs_b_1 b_1) {r : Bool} (hr : m40 a_0 b_1 = some r) : Calls Tryz.prog 40 [.agg cs_a_0.toArray, .agg cs_b_1.toArray].toArray W (RetS M W (.bool r)) := by
 have hh_a_0 := h_a_0
 obtain ⟨ad1, cap2, ad4, cap5, ad7, cap8, rfl, hl3, hl6, hl9⟩ := h_a_0
 have := hl3.len
 have := hl6.len
 have := hl9.len
 have hh_b_1 := h_b_1
 obtain ⟨ad10, cap11, ad13, cap14, ad16, cap17, rfl, hl12, hl15, hl18⟩ := h_b_1
 have := hl12.len
 have := hl15.len
 have := hl18.len
 unfold m40 at hr
 refine enterG (M := M) Tryz.func40 rfl Tryz.ntmps40 rfl hH ?_
 refine sq (rg (bI (cs := [.string (bs a_0.name), .slice ad1 a_0.variants.length cap2, .slice ad4 a_0.also.length cap5, .slice ad7 a_0.places.length cap8]) rfl rfl rfl fun q19 K20 hK21 => (bI (cs := [.string (bs b_1.name), .slice ad10 b_1.variants.length cap11, .slice ad13 b_1.also.length cap14, .slice ad16 b_1.places.length cap17]) rfl rfl rfl fun q22 K23 hK24 => (a1 rfl (on (sq (sq ?_)))))))
 obtain ⟨t40, hx41, hr42⟩ := bd_some hr
 refine jn (fun a w => St M W H [K23, K20, H] [] w ∧ Has [] 54 a [(2, .pointer (some q19)), (3, .pointer (some q22)), (35, .bool t40)]) ?_ ?_
 ·refine rg (fb 0 U64 rfl rfl rfl rfl Z9 (ld G9 rfl rfl ((sS 1 rfl hK21).take 1) rfl (fb 0 U64 rfl rfl rfl rfl Z9 (ld G9 rfl rfl ((sS 0 rfl hK24).take 1) rfl (neS rfl rfl rfl (m1 rfl ?_))))))
  by_cases hb43 : a_0.name ≠ b_1.name
  ·have hr44 := if_p hb43 hx41
   refine gf' hb43 rfl (gf' hb43 rfl (gf' hb43 rfl (gf' hb43 rfl (gf' hb43 rfl (gf' hb43 rfl (pt hb43 rfl rfl (m1 rfl (gF rfl rfl rfl rfl (gF rfl rfl rfl rfl (gF rfl rfl rfl rfl (gF rfl rfl rfl rfl ?_)))))))))))
   refine gF rfl rfl rfl rfl (gF rfl rfl rfl rfl (pT rfl rfl rfl rfl (m1 rfl (gF rfl rfl rfl rfl (gF rfl rfl rfl rfl (gF rfl rfl rfl rfl (gF rfl rfl rfl rfl (gF rfl rfl rfl rfl (gF rfl rfl rfl rfl (gF rfl rfl rfl rfl (pT rfl rfl rfl rfl ?_)))))))))))
   refine on ?_
   cases hr44
   exact cu ⟨rfl, rfl, rfl, tv⟩
  ·have hr45 := if_n hb43 hx41
   refine gt' hb43 rfl (fb 1 U64 rfl rfl rfl rfl Z50 (gt' hb43 rfl (ld G50 rfl rfl (((sS 1 rfl hK21).drop 1).take 1) rfl (gt' hb43 rfl (fb 1 U64 rfl rfl rfl rfl Z50 (gt' hb43 rfl (ld G50 rfl rfl (((sS 0 rfl hK24).drop 1).take 1) rfl (gt' hb43 rfl ?_))))))))
   obtain ⟨r46, hx47, hr48⟩ := bd_some hr45
   refine clS C44 rfl rfl rfl rfl (fun w H hH le => w44 hH (hl3.mono (Flat.mono _) (le.at 2 rfl)) (hl12.mono (Flat.mono _) (le.at 2 rfl)) hx47) (gt' hb43 rfl (nt rfl rfl (pf hb43 rfl rfl (m1 rfl ?_))))
   rcases Bool.eq_false_or_eq_true (r46) with hb49 | hb49
   ·have hr50 := if_p hb49 hr48
    refine gN rfl rfl (congrArg not (hb49)) (fb 2 U64 rfl rfl rfl rfl Z50 (gN rfl rfl (congrArg not (hb49)) (ld G50 rfl rfl (((sS 1 rfl hK21).drop 2).take 1) rfl (gN rfl rfl (congrArg not (hb49)) (fb 2 U64 rfl rfl rfl rfl Z50 (gN rfl rfl (congrArg not (hb49)) (ld G50 rfl rfl (((sS 0 rfl hK24).drop 2).take 1) rfl (gN rfl rfl (congrArg not (hb49)) ?_))))))))
    obtain ⟨r51, hx52, hr53⟩ := bd_some hr50
    refine clS C44 rfl rfl rfl rfl (fun w H hH le => w44 hH (hl6.mono (Flat.mono _) (le.at 2 rfl)) (hl15.mono (Flat.mono _) (le.at 2 rfl)) hx52) (gN rfl rfl (congrArg not (hb49)) (nt rfl rfl (pF rfl rfl (congrArg not (hb49)) rfl (m1 rfl ?_))))
    rcases Bool.eq_false_or_eq_true (r51) with hb54 | hb54
    ·have hr55 := if_p hb54 hr53
     refine gN rfl rfl (congrArg not (hb54)) (fb 3 U64 rfl rfl rfl rfl Z62 (gN rfl rfl (congrArg not (hb54)) (ld G62 rfl rfl ((sS 1 rfl hK21).drop 3) rfl (gN rfl rfl (congrArg not (hb54)) (lnL U62 rfl rfl (gN rfl rfl (congrArg not (hb54)) (fb 3 U64 rfl rfl rfl rfl Z62 (gN rfl rfl (congrArg not (hb54)) (ld G62 rfl rfl ((sS 0 rfl hK24).drop 3) rfl (gN rfl rfl (congrArg not (hb54)) (lnL U62 rfl rfl ?_)))))))))))
     refine gN rfl rfl (congrArg not (hb54)) (neI rfl rfl rfl (pF rfl rfl (congrArg not (hb54)) rfl (on ?_)))
     cases hr55
     exact cu ⟨rfl, rfl, rfl, tv⟩
    ·have hr56 := if_f hb54 hr53
     refine gF rfl rfl (congrArg not (hb54)) rfl (gF rfl rfl (congrArg not (hb54)) rfl (gF rfl rfl (congrArg not (hb54)) rfl (gF rfl rfl (congrArg not (hb54)) rfl (gF rfl rfl (congrArg not (hb54)) rfl (gF rfl rfl (congrArg not (hb54)) rfl (gF rfl rfl (congrArg not (hb54)) rfl (pT rfl rfl (congrArg not (hb54)) rfl (on ?_))))))))
     cases hr56
     exact cu ⟨rfl, rfl, rfl, tv⟩
   ·have hr57 := if_f hb49 hr48
    refine gF rfl rfl (congrArg not (hb49)) rfl (gF rfl rfl (congrArg not (hb49)) rfl (gF rfl rfl (congrArg not (hb49)) rfl (gF rfl rfl (congrArg not (hb49)) rfl (gF rfl rfl (congrArg not (hb49)) rfl (gF rfl rfl (congrArg not (hb49)) rfl (pT rfl rfl (congrArg not (hb49)) rfl (m1 rfl (gF rfl rfl rfl rfl (gF rfl rfl rfl rfl (gF rfl rfl rfl rfl (gF rfl rfl rfl rfl ?_)))))))))))
    refine gF rfl rfl rfl rfl (gF rfl rfl rfl rfl (gF rfl rfl rfl rfl (pT rfl rfl rfl rfl (on ?_))))
    cases hr57
    exact cu ⟨rfl, rfl, rfl, tv⟩
 ·rintro a w ⟨hS, hA⟩
  refine TG.ap ?_ hS hA
  refine cb rfl (fun hc61 => ?_) (fun hc61 => ?_)
  ·have hr62 := if_p hc61 hr42
   refine sq (rg (a1 rfl (on (rt_ ?_))))
   cases hr62
   intro a w hS hA
   refine ret1 hA rfl rfl ?_
   exact ⟨rfl, hS.ext⟩
  ·have hr63 := if_f hc61 hr42
   refine sk (sq (sq (rg (a1 rfl (on ?_)))))
   obtain ⟨e88, hl89, hr90⟩ := bd_some hr63
   refine jn (fun a w => ∃ t91, e88 = .inl t91 ∧ St M W H [K23, K20, H] [] w ∧ Has [] 54 a []) ?_ ?_
   ·refine bk ?_
    refine lp hl89 (fun s92 a w => St M W H [K23, K20, H] [] w ∧ Has [] 54 a [(2, .pointer (some q19)), (3, .pointer (some q22)), (5, .int .i64 (s92 : Int))]) ?_ ?_
    ·exact cu ⟨rfl, rfl, rfl, tv⟩
    ·rintro j s92 y95 hr93 hz94 a w ⟨hS, hA⟩
     refine TG.ap ?_ hS hA
     unfold m40_1 at hr93
     refine sq (sq (rg (m1 rfl (fb 3 U64 rfl rfl rfl rfl Z62 (ld G62 rfl rfl ((sS 1 rfl hK21).drop 3) rfl (lnL U62 rfl rfl (ltI rfl rfl rfl (on ?_))))))))
     refine ci rfl (fun hc99 => ?_) (fun hc99 => ?_)
     ·have hr100 := if_p hc99 hr93
      refine sk (sq (bk (sq ?_)))
      obtain ⟨x121, hx122, hr123⟩ := bd_some hr100
      obtain ⟨p124, rfl⟩ := hl9.adr hx122
      obtain ⟨cs125, hcs126, hq127, hr128⟩ := hl9.at hx122
      obtain rfl := hr128
      obtain ⟨x129, hx130, hr131⟩ := bd_some hr123
      obtain ⟨p132, rfl⟩ := hl18.adr hx130
      obtain ⟨cs133, hcs134, hq135, hr136⟩ := hl18.at hx130
      obtain rfl := hr136
      refine drG 10 mixed (by kernel_rfl) rfl (dt rfl (fb 3 U64 rfl rfl rfl rfl Z62 fin1) (dt rfl (ld G62 rfl rfl ((sS 2 rfl hK21).drop 3) rfl fin1) (dt rfl (m1 rfl fin1) (dt rfl (iaP U62 Z81 rfl rfl rfl rfl (lt_of hx122) fin1) (dt rfl (ldA G81 Z81 rfl rfl (sS 3 rfl hq127) rfl fin1) (dt rfl (fb 3 U64 rfl rfl rfl rfl Z62 fin1) (dt rfl (ld G62 rfl rfl ((sS 1 rfl hK24).drop 3) rfl fin1) (dt rfl (m1 rfl fin1) (dt rfl (iaP U62 Z81 rfl rfl rfl rfl (lt_of hx130) fin1) (dt rfl (ldA G81 Z81 rfl rfl (sS 3 rfl hq135) rfl fin1) (DF.nil fun K137 hF => ?_)))))))))))
      refine neA x121 x129 T11.Q81 rfl rfl rfl (on ?_)
      refine cb rfl (fun hc141 => ?_) (fun hc141 => ?_)
      ·replace hc141 := nbt hc141
       replace hc141 := of_decide_eq_false hc141
       have hr142 := if_n hc141 hr131
       refine sq (rg (a1 rfl (on (rt_ ?_))))
       cases hr142
       obtain rfl := Fin.out hz94
       cases hr90
       intro a w hS hA
       refine ret1 hA rfl rfl ?_
       exact ⟨rfl, hS.ext⟩
      ·replace hc141 := nbf hc141
       replace hc141 := of_decide_eq_true hc141
       have hr143 := if_p hc141 hr131
       refine sk (rg (m1 rfl (adI rfl rfl rfl (by omega) (a1 rfl (on ?_)))))
       cases hr143
       intro a w hS hA
       exact ⟨_, hz94, hS.selH [1, 2, 3] rfl, hA.cut ⟨rfl, rfl, rfl, tv⟩⟩
     ·have hr144 := if_n hc99 hr93
      refine xt rfl ?_
      cases hr144
      obtain rfl := Fin.out hz94
      intro a w hS hA
      exact ⟨_, rfl, hS, hA.cut tv⟩
   ·rintro a w ⟨t91, rfl, hS, hA⟩
    apply TG.ap ?_ hS hA
    refine sq (rg (a1 rfl (on (rt_ ?_))))
    cases hr90
    intro a w hS hA
    refine ret1 hA rfl rfl ?_
    exact ⟨rfl, hS.ext⟩

theorem w23 {M : Prop} {W : World} {H : Hp} (hH : H.le (hp W)) {ad_a_0 : Option Addr} {cap_a_0 : Nat} {a_0 : List Heading} (h_a_0 : Sl (RHeading) 4 H ad_a_0 cap_a_0 a_0) {ad_b_1 : Option Addr} {cap_b_1 : Nat} {b_1 : List Heading} (h_b_1 : Sl (RHeading) 4 H ad_b_1 cap_b_1 b_1) {r : Bool} (hr : m23 a_0 b_1 = some r) : Calls Tryz.prog 23 [.slice ad_a_0 a_0.length cap_a_0, .slice ad_b_1 b_1.length cap_b_1].toArray W (RetS M W (.bool r)) := by
 have := h_a_0.len
 have := h_b_1.len
 unfold m23 at hr
 refine enterG (M := M) Tryz.func23 rfl Tryz.ntmps23 rfl hH ?_
 refine sq (rg (a1 rfl (on (sq (sq (rg (m1 rfl (lnL U26 rfl rfl (m1 rfl (lnL U26 rfl rfl (neI rfl rfl rfl ?_)))))))))))
 refine on ?_
 refine ci rfl (fun hc4 => ?_) (fun hc4 => ?_)
 ·have hr5 := if_p hc4 hr
  refine sq (rg (a1 rfl (on (rt_ ?_))))
  cases hr5
  intro a w hS hA
  refine ret1 hA rfl rfl ?_
  exact ⟨rfl, hS.ext⟩
 ·have hr6 := if_n hc4 hr
  refine sk (sq (sq (rg (a1 rfl (on ?_)))))
  obtain ⟨e54, hl55, hr56⟩ := bd_some hr6
  refine jn (fun a w => ∃ t57, e54 = .inl t57 ∧ St M W H [H] [] w ∧ Has [] 27 a []) ?_ ?_
  ·refine bk ?_
   refine lp hl55 (fun s58 a w => St M W H [H] [] w ∧ Has [] 27 a [(0, .slice ad_a_0 a_0.length cap_a_0), (1, .slice ad_b_1 b_1.length cap_b_1), (5, .int .i64 (s58 : Int))]) ?_ ?_
   ·exact cu ⟨rfl, rfl, rfl, tv⟩
   ·rintro j s58 y61 hr59 hz60 a w ⟨hS, hA⟩
    refine TG.ap ?_ hS hA
    unfold m23_1 at hr59
    refine sq (sq (rg (m1 rfl (m1 rfl (lnL U26 rfl rfl (ltI rfl rfl rfl (on ?_)))))))
    refine ci rfl (fun hc65 => ?_) (fun hc65 => ?_)
    ·have hr66 := if_p hc65 hr59
     refine sk (sq (bk (sq ?_)))
     obtain ⟨x110, hx111, hr112⟩ := bd_some hr66
     obtain ⟨p113, rfl⟩ := h_a_0.adr hx111
     obtain ⟨cs114, hcs115, hq116, hr117⟩ := h_a_0.at hx111
     have hr118 := hr117
     obtain ⟨ad119, cap120, ad122, cap123, ad125, cap126, rfl, hl121, hl124, hl127⟩ := hr117
     have := hl121.len
     have := hl124.len
     have := hl127.len
     obtain ⟨x128, hx129, hr130⟩ := bd_some hr112
     obtain ⟨p131, rfl⟩ := h_b_1.adr hx129
     obtain ⟨cs132, hcs133, hq134, hr135⟩ := h_b_1.at hx129
     have hr136 := hr135
     obtain ⟨ad137, cap138, ad140, cap141, ad143, cap144, rfl, hl139, hl142, hl145⟩ := hr135
     have := hl139.len
     have := hl142.len
     have := hl145.len
     refine drG 8 mixed (by kernel_rfl) rfl (dt rfl (m1 rfl fin1) (dt rfl (m1 rfl fin1) (dt rfl (iaP U26 Z64 rfl rfl rfl rfl (lt_of hx111) fin1) (dt rfl (ldA G64 Z64 rfl rfl (sS 1 rfl hq116) rfl fin1) (dt rfl (m1 rfl fin1) (dt rfl (m1 rfl fin1) (dt rfl (iaP U26 Z64 rfl rfl rfl rfl (lt_of hx129) fin1) (dt rfl (ldA G64 Z64 rfl rfl (sS 1 rfl hq134) rfl fin1) (DF.nil fun K146 hF => ?_)))))))))
     obtain ⟨r147, hx148, hr149⟩ := bd_some hr130
     refine clS C40 rfl rfl rfl rfl (fun w H hH le => w40 hH x110 (RHeading.mono _ _ _ _ (le.at 1 rfl) hr118) x128 (RHeading.mono _ _ _ _ (le.at 1 rfl) hr136) hx148) (nt rfl rfl (on ?_))
     refine cb rfl (fun hc153 => ?_) (fun hc153 => ?_)
     ·replace hc153 := nbt hc153
      have hr154 := if_f hc153 hr149
      refine sq (rg (a1 rfl (on (rt_ ?_))))
      cases hr154
      obtain rfl := Fin.out hz60
      cases hr56
      intro a w hS hA
      refine ret1 hA rfl rfl ?_
      exact ⟨rfl, hS.ext⟩
     ·replace hc153 := nbf hc153
      have hr155 := if_p hc153 hr149
      refine sk (rg (m1 rfl (adI rfl rfl rfl (by omega) (a1 rfl (on ?_)))))
      cases hr155
      intro a w hS hA
      exact ⟨_, hz60, hS.selH [1] rfl, hA.cut ⟨rfl, rfl, rfl, tv⟩⟩
    ·have hr156 := if_n hc65 hr59
     refine xt rfl ?_
     cases hr156
     obtain rfl := Fin.out hz60
     intro a w hS hA
     exact ⟨_, rfl, hS, hA.cut tv⟩
  ·rintro a w ⟨t57, rfl, hS, hA⟩
   apply TG.ap ?_ hS hA
   refine sq (rg (a1 rfl (on (rt_ ?_))))
   cases hr56
   intro a w hS hA
   refine ret1 hA rfl rfl ?_
   exact ⟨rfl, hS.ext⟩

theorem w16 {M : Prop} {W : World} {H : Hp} (hH : H.le (hp W)) (hg : Gv M H)  {r : Bool} (hr : m16 = some r) : Calls Tryz.prog 16 [].toArray W (RetS M W (.bool r)) := by
 unfold m16 at hr
 refine enterG (M := M) Tryz.func16 rfl Tryz.ntmps16 rfl hH ?_
 refine sq (rg (a1 rfl (on (sq (rg ?_)))))
 obtain ⟨r1, hx2, hr3⟩ := bd_some hr
 refine clK C47 rfl rfl rfl rfl (fun w H hH le => w47 hH  hx2) ?_
 rintro v_ K4 ⟨ad5, cap6, rfl, hl7⟩
 have := hl7.len
 obtain ⟨r8, hx9, hr10⟩ := bd_some hr3
 refine clK C18 rfl rfl rfl rfl (fun w H hH le => w18 hH (hg.mono (le.at 1 rfl)) (hl7.mono (RSl.mono (RHeading.mono)) (le.at 0 rfl)) hx9) ?_
 rintro v_ K11 ⟨ad12, cap13, rfl, hl14⟩
 have := hl14.len
 refine m1 rfl (ex rfl rfl rfl (ex rfl rfl rfl (a1 rfl (a1 rfl (on (sq (rg (m1 rfl ?_))))))))
 obtain ⟨r15, hx16, hr17⟩ := bd_some hr10
 refine clK C25 rfl rfl rfl rfl (fun w H hH le => w25 hH (hg.mono (le.at 2 rfl)) (hl14.mono (RHeading.mono) (le.at 0 rfl)) hx16) ?_
 rintro v_ K18 ⟨ad19, cap20, rfl, hl21⟩
 have := hl21.len
 refine m1 rfl (ex rfl rfl rfl (ex rfl rfl rfl (a1 rfl (a1 rfl (on (sq (rg ?_)))))))
 obtain ⟨r22, hx23, hr24⟩ := bd_some hr17
 refine clS C48 rfl rfl rfl rfl (fun w H hH le => w48  hx23) ?_
 obtain ⟨hk29, hr30⟩ := chk_some hr24
 refine cvB U9 U37 U5 rfl rfl hk29 fun ad25 cap26 K27 hl28 => ?_
 have := hl28.len
 obtain ⟨r31, hx32, hr33⟩ := bd_some hr30
 refine clK C28 rfl rfl rfl rfl (fun w H hH le => w28 hH (hg.mono (le.at 4 rfl)) (hl28.mono (Flat.mono _) (le.at 0 rfl)) hx32) ?_
 rintro v_ K34 ⟨ad35, cap36, rfl, hl37⟩
 have := hl37.len
 refine m1 rfl (ex rfl rfl rfl (ex rfl rfl rfl (a1 rfl (a1 rfl (on (sq (rg (m1 rfl ?_))))))))
 obtain ⟨r38, hx39, hr40⟩ := bd_some hr33
 refine clK C33 rfl rfl rfl rfl (fun w H hH le => w33 hH (hg.mono (le.at 5 rfl)) (hl14.mono (RHeading.mono) (le.at 3 rfl)) 3 13 hx39) ?_
 rintro v_ K41 ⟨ad42, cap43, rfl, hl44⟩
 have := hl44.len
 refine m1 rfl (ex rfl rfl rfl (ex rfl rfl rfl (a1 rfl (a1 rfl (on (sq ?_))))))
 obtain ⟨t84, hx85, hr86⟩ := bd_some hr40
 refine jn (fun a w => St M W H [K41, K34, K27, K18, K11, K4, H] [] w ∧ Has [] 60 a [(0, .bool t84)]) ?_ ?_
 ·by_cases hb87 : r8.2 = 0
  ·have hr88 := if_p hb87 hx85
   by_cases hb89 : r15.2 = 0
   ·have hr90 := if_p hb89 hr88
    by_cases hb91 : r15.1 = r22
    ·have hr92 := if_p hb91 hr90
     by_cases hb93 : r31.2 = 0
     ·have hr94 := if_p hb93 hr92
      obtain ⟨r95, hx96, hr97⟩ := bd_some hr94
      rcases Bool.eq_false_or_eq_true (r95) with hb98 | hb98
      ·have hr99 := if_p hb98 hr97
       by_cases hb100 : r38.2 = 0
       ·have hr101 := if_p hb100 hr99
        refine drG 28 mixed (by kernel_rfl) rfl (dt rfl (m1 rfl fin1) (dt rfl (eqI rfl rfl rfl fin1) (dt rfl (m1 rfl fin1) (dt rfl (gt hb87 rfl (m1 rfl fin1)) (dt rfl (gt hb87 rfl (eqI rfl rfl rfl fin1)) (dt rfl (pt hb87 rfl rfl fin1) (dt rfl (m1 rfl fin1) (dt rfl (gt hb89 rfl (m1 rfl fin1)) (dt rfl (gt hb89 rfl (cvT hl21 4 rfl U37 U5 U9 rfl rfl fin1)) (dt rfl (gt hb89 rfl (clS C48 rfl rfl rfl rfl (fun w H hH le => w48  hx23) fin1)) (dt rfl (gt hb89 rfl (eqS rfl rfl rfl fin1)) ?_)))))))))))
        refine dt rfl (pt hb89 rfl rfl fin1) (dt rfl (m1 rfl fin1) (dt rfl (gt hb91 rfl (m1 rfl fin1)) (dt rfl (gt hb91 rfl (eqI rfl rfl rfl fin1)) (dt rfl (pt hb91 rfl rfl fin1) (dt rfl (m1 rfl fin1) (dt rfl (gt hb93 rfl (m1 rfl fin1)) (dt rfl (gt hb93 rfl (m1 rfl fin1)) (dt rfl (gt hb93 rfl (clS C23 rfl rfl rfl rfl (fun w H hH le => w23 hH (hl14.mono (RHeading.mono) (le.at 5 rfl)) (hl37.mono (RHeading.mono) (le.at 2 rfl)) hx96) fin1)) (dt rfl (pt hb93 rfl rfl fin1) (dt rfl (m1 rfl fin1) (dt rfl (gN rfl rfl (hb98) (m1 rfl fin1)) ?_)))))))))))
        refine dt rfl (gN rfl rfl (hb98) (eqI rfl rfl rfl fin1)) (dt rfl (pT rfl rfl (hb98) rfl fin1) (dt rfl (m1 rfl fin1) (dt rfl (gt hb100 rfl (m1 rfl fin1)) ?_)))
        refine DF.und (α := Option Addr × Nat) (none, 0) (fun q => .slice q.1 2 q.2) (fun (q : Option Addr × Nat) K => Sl (Flat encS) 1 K q.1 q.2 ([[67, 111, 114, 110, 32, 76, 97, 119, 115], [84, 114, 97, 100, 101]] : List Bytes)) (fun _ _ _ h x => x.mono (Flat.mono _) h) (by kernel_rfl) rfl (fun a w K hS hA hF => TG.pa hS hA (gt hb100 rfl (bS (cs := [.string (bs [67, 111, 114, 110, 32, 76, 97, 119, 115]), .string (bs [84, 114, 97, 100, 101])]) T11.E50 rfl rfl rfl rfl fun q102 K103 hq104 hK105 => by
          have hl106 : Sl (Flat encS) 1 K103 (some q102) 2 ([[67, 111, 114, 110, 32, 76, 97, 119, 115], [84, 114, 97, 100, 101]] : List Bytes) := Sl.litR (css := [[.string (bs [67, 111, 114, 110, 32, 76, 97, 119, 115])], [.string (bs [84, 114, 97, 100, 101])]]) (l := ([[67, 111, 114, 110, 32, 76, 97, 119, 115], [84, 114, 97, 100, 101]] : List Bytes)) ⟨⟨rfl, rfl, rfl⟩, ⟨rfl, rfl, rfl⟩, tv⟩ hq104 hK105 rfl
          have := hl106.len
          exact finU (f := fun q => .slice q.1 2 q.2) (G := (fun (q : Option Addr × Nat) K => Sl (Flat encS) 1 K q.1 q.2 ([[67, 111, 114, 110, 32, 76, 97, 119, 115], [84, 114, 97, 100, 101]] : List Bytes))) (_, _) (fun _ _ _ h x => x.mono (Flat.mono _) h) hl106))) ?_
        rintro ⟨ad108, cap109⟩
        refine DF.nil fun K110 hF => ?_
        obtain ⟨hu107, _⟩ := hF
        have := hu107.len
        refine gt hb100 rfl ?_
        obtain ⟨r111, hx112, hr113⟩ := bd_some hr101
        refine clS C44 rfl rfl rfl rfl (fun w H hH le => w44 hH (hl44.mono (Flat.mono _) (le.at 1 rfl)) (hu107.mono (Flat.mono _) (le.at 0 rfl)) hx112) (pt hb100 rfl rfl (a1 rfl (on ?_)))
        cases hr113
        intro a w hS hA
        exact ⟨hS.selH [1, 2, 3, 4, 5, 6, 7] rfl, hA.cut ⟨rfl, tv⟩⟩
       ·have hr114 := if_n hb100 hr99
        refine drG 28 mixed (by kernel_rfl) rfl (dt rfl (m1 rfl fin1) (dt rfl (eqI rfl rfl rfl fin1) (dt rfl (m1 rfl fin1) (dt rfl (gt hb87 rfl (m1 rfl fin1)) (dt rfl (gt hb87 rfl (eqI rfl rfl rfl fin1)) (dt rfl (pt hb87 rfl rfl fin1) (dt rfl (m1 rfl fin1) (dt rfl (gt hb89 rfl (m1 rfl fin1)) (dt rfl (gt hb89 rfl (cvT hl21 4 rfl U37 U5 U9 rfl rfl fin1)) (dt rfl (gt hb89 rfl (clS C48 rfl rfl rfl rfl (fun w H hH le => w48  hx23) fin1)) (dt rfl (gt hb89 rfl (eqS rfl rfl rfl fin1)) ?_)))))))))))
        refine dt rfl (pt hb89 rfl rfl fin1) (dt rfl (m1 rfl fin1) (dt rfl (gt hb91 rfl (m1 rfl fin1)) (dt rfl (gt hb91 rfl (eqI rfl rfl rfl fin1)) (dt rfl (pt hb91 rfl rfl fin1) (dt rfl (m1 rfl fin1) (dt rfl (gt hb93 rfl (m1 rfl fin1)) (dt rfl (gt hb93 rfl (m1 rfl fin1)) (dt rfl (gt hb93 rfl (clS C23 rfl rfl rfl rfl (fun w H hH le => w23 hH (hl14.mono (RHeading.mono) (le.at 5 rfl)) (hl37.mono (RHeading.mono) (le.at 2 rfl)) hx96) fin1)) (dt rfl (pt hb93 rfl rfl fin1) (dt rfl (m1 rfl fin1) (dt rfl (gN rfl rfl (hb98) (m1 rfl fin1)) ?_)))))))))))
        refine dt rfl (gN rfl rfl (hb98) (eqI rfl rfl rfl fin1)) (dt rfl (pT rfl rfl (hb98) rfl fin1) (dt rfl (m1 rfl fin1) (dt rfl (gf hb100 rfl fin1) (dt rfl (gf hb100 rfl fin1) (DF.nil fun K115 hF => (gf hb100 rfl (pf hb100 rfl rfl (a1 rfl (on ?_)))))))))
        cases hr114
        intro a w hS hA
        exact ⟨hS.selH [1, 2, 3, 4, 5, 6, 7] rfl, hA.cut ⟨rfl, tv⟩⟩
      ·have hr116 := if_f hb98 hr97
       refine drG 28 mixed (by kernel_rfl) rfl (dt rfl (m1 rfl fin1) (dt rfl (eqI rfl rfl rfl fin1) (dt rfl (m1 rfl fin1) (dt rfl (gt hb87 rfl (m1 rfl fin1)) (dt rfl (gt hb87 rfl (eqI rfl rfl rfl fin1)) (dt rfl (pt hb87 rfl rfl fin1) (dt rfl (m1 rfl fin1) (dt rfl (gt hb89 rfl (m1 rfl fin1)) (dt rfl (gt hb89 rfl (cvT hl21 4 rfl U37 U5 U9 rfl rfl fin1)) (dt rfl (gt hb89 rfl (clS C48 rfl rfl rfl rfl (fun w H hH le => w48  hx23) fin1)) (dt rfl (gt hb89 rfl (eqS rfl rfl rfl fin1)) ?_)))))))))))
       refine dt rfl (pt hb89 rfl rfl fin1) (dt rfl (m1 rfl fin1) (dt rfl (gt hb91 rfl (m1 rfl fin1)) (dt rfl (gt hb91 rfl (eqI rfl rfl rfl fin1)) (dt rfl (pt hb91 rfl rfl fin1) (dt rfl (m1 rfl fin1) (dt rfl (gt hb93 rfl (m1 rfl fin1)) (dt rfl (gt hb93 rfl (m1 rfl fin1)) (dt rfl (gt hb93 rfl (clS C23 rfl rfl rfl rfl (fun w H hH le => w23 hH (hl14.mono (RHeading.mono) (le.at 5 rfl)) (hl37.mono (RHeading.mono) (le.at 2 rfl)) hx96) fin1)) (dt rfl (pt hb93 rfl rfl fin1) (dt rfl (m1 rfl fin1) (dt rfl (gF rfl rfl (hb98) rfl fin1) ?_)))))))))))
       refine dt rfl (gF rfl rfl (hb98) rfl fin1) (dt rfl (pF rfl rfl (hb98) rfl fin1) (dt rfl (m1 rfl fin1) (dt rfl (gF rfl rfl rfl rfl fin1) (dt rfl (gF rfl rfl rfl rfl fin1) (DF.nil fun K117 hF => (gF rfl rfl rfl rfl (pF rfl rfl rfl rfl (a1 rfl (on ?_)))))))))
       cases hr116
       intro a w hS hA
       exact ⟨hS.selH [1, 2, 3, 4, 5, 6, 7] rfl, hA.cut ⟨rfl, tv⟩⟩
     ·have hr118 := if_n hb93 hr92
      refine drG 28 mixed (by kernel_rfl) rfl (dt rfl (m1 rfl fin1) (dt rfl (eqI rfl rfl rfl fin1) (dt rfl (m1 rfl fin1) (dt rfl (gt hb87 rfl (m1 rfl fin1)) (dt rfl (gt hb87 rfl (eqI rfl rfl rfl fin1)) (dt rfl (pt hb87 rfl rfl fin1) (dt rfl (m1 rfl fin1) (dt rfl (gt hb89 rfl (m1 rfl fin1)) (dt rfl (gt hb89 rfl (cvT hl21 4 rfl U37 U5 U9 rfl rfl fin1)) (dt rfl (gt hb89 rfl (clS C48 rfl rfl rfl rfl (fun w H hH le => w48  hx23) fin1)) (dt rfl (gt hb89 rfl (eqS rfl rfl rfl fin1)) ?_)))))))))))
      refine dt rfl (pt hb89 rfl rfl fin1) (dt rfl (m1 rfl fin1) (dt rfl (gt hb91 rfl (m1 rfl fin1)) (dt rfl (gt hb91 rfl (eqI rfl rfl rfl fin1)) (dt rfl (pt hb91 rfl rfl fin1) (dt rfl (m1 rfl fin1) (dt rfl (gf hb93 rfl fin1) (dt rfl (gf hb93 rfl fin1) (dt rfl (gf hb93 rfl fin1) (dt rfl (pf hb93 rfl rfl fin1) (dt rfl (m1 rfl fin1) (dt rfl (gF rfl rfl rfl rfl fin1) ?_)))))))))))
      refine dt rfl (gF rfl rfl rfl rfl fin1) (dt rfl (pF rfl rfl rfl rfl fin1) (dt rfl (m1 rfl fin1) (dt rfl (gF rfl rfl rfl rfl fin1) (dt rfl (gF rfl rfl rfl rfl fin1) (DF.nil fun K119 hF => (gF rfl rfl rfl rfl (pF rfl rfl rfl rfl (a1 rfl (on ?_)))))))))
      cases hr118
      intro a w hS hA
      exact ⟨hS.selH [1, 2, 3, 4, 5, 6, 7] rfl, hA.cut ⟨rfl, tv⟩⟩
    ·have hr120 := if_n hb91 hr90
     refine drG 28 mixed (by kernel_rfl) rfl (dt rfl (m1 rfl fin1) (dt rfl (eqI rfl rfl rfl fin1) (dt rfl (m1 rfl fin1) (dt rfl (gt hb87 rfl (m1 rfl fin1)) (dt rfl (gt hb87 rfl (eqI rfl rfl rfl fin1)) (dt rfl (pt hb87 rfl rfl fin1) (dt rfl (m1 rfl fin1) (dt rfl (gt hb89 rfl (m1 rfl fin1)) (dt rfl (gt hb89 rfl (cvT hl21 4 rfl U37 U5 U9 rfl rfl fin1)) (dt rfl (gt hb89 rfl (clS C48 rfl rfl rfl rfl (fun w H hH le => w48  hx23) fin1)) (dt rfl (gt hb89 rfl (eqS rfl rfl rfl fin1)) ?_)))))))))))
     refine dt rfl (pt hb89 rfl rfl fin1) (dt rfl (m1 rfl fin1) (dt rfl (gf hb91 rfl fin1) (dt rfl (gf hb91 rfl fin1) (dt rfl (pf hb91 rfl rfl fin1) (dt rfl (m1 rfl fin1) (dt rfl (gF rfl rfl rfl rfl fin1) (dt rfl (gF rfl rfl rfl rfl fin1) (dt rfl (gF rfl rfl rfl rfl fin1) (dt rfl (pF rfl rfl rfl rfl fin1) (dt rfl (m1 rfl fin1) (dt rfl (gF rfl rfl rfl rfl fin1) ?_)))))))))))
     refine dt rfl (gF rfl rfl rfl rfl fin1) (dt rfl (pF rfl rfl rfl rfl fin1) (dt rfl (m1 rfl fin1) (dt rfl (gF rfl rfl rfl rfl fin1) (dt rfl (gF rfl rfl rfl rfl fin1) (DF.nil fun K121 hF => (gF rfl rfl rfl rfl (pF rfl rfl rfl rfl (a1 rfl (on ?_)))))))))
     cases hr120
     intro a w hS hA
     exact ⟨hS.selH [1, 2, 3, 4, 5, 6, 7] rfl, hA.cut ⟨rfl, tv⟩⟩
   ·have hr122 := if_n hb89 hr88
    refine drG 28 mixed (by kernel_rfl) rfl (dt rfl (m1 rfl fin1) (dt rfl (eqI rfl rfl rfl fin1) (dt rfl (m1 rfl fin1) (dt rfl (gt hb87 rfl (m1 rfl fin1)) (dt rfl (gt hb87 rfl (eqI rfl rfl rfl fin1)) (dt rfl (pt hb87 rfl rfl fin1) (dt rfl (m1 rfl fin1) (dt rfl (gf hb89 rfl fin1) (dt rfl (gf hb89 rfl fin1) (dt rfl (gf hb89 rfl fin1) (dt rfl (gf hb89 rfl fin1) ?_)))))))))))
    refine dt rfl (pf hb89 rfl rfl fin1) (dt rfl (m1 rfl fin1) (dt rfl (gF rfl rfl rfl rfl fin1) (dt rfl (gF rfl rfl rfl rfl fin1) (dt rfl (pF rfl rfl rfl rfl fin1) (dt rfl (m1 rfl fin1) (dt rfl (gF rfl rfl rfl rfl fin1) (dt rfl (gF rfl rfl rfl rfl fin1) (dt rfl (gF rfl rfl rfl rfl fin1) (dt rfl (pF rfl rfl rfl rfl fin1) (dt rfl (m1 rfl fin1) (dt rfl (gF rfl rfl rfl rfl fin1) ?_)))))))))))
    refine dt rfl (gF rfl rfl rfl rfl fin1) (dt rfl (pF rfl rfl rfl rfl fin1) (dt rfl (m1 rfl fin1) (dt rfl (gF rfl rfl rfl rfl fin1) (dt rfl (gF rfl rfl rfl rfl fin1) (DF.nil fun K123 hF => (gF rfl rfl rfl rfl (pF rfl rfl rfl rfl (a1 rfl (on ?_)))))))))
    cases hr122
    intro a w hS hA
    exact ⟨hS.selH [1, 2, 3, 4, 5, 6, 7] rfl, hA.cut ⟨rfl, tv⟩⟩
  ·have hr124 := if_n hb87 hx85
   refine drG 28 mixed (by kernel_rfl) rfl (dt rfl (m1 rfl fin1) (dt rfl (eqI rfl rfl rfl fin1) (dt rfl (m1 rfl fin1) (dt rfl (gf hb87 rfl fin1) (dt rfl (gf hb87 rfl fin1) (dt rfl (pf hb87 rfl rfl fin1) (dt rfl (m1 rfl fin1) (dt rfl (gF rfl rfl rfl rfl fin1) (dt rfl (gF rfl rfl rfl rfl fin1) (dt rfl (gF rfl rfl rfl rfl fin1) (dt rfl (gF rfl rfl rfl rfl fin1) ?_)))))))))))
   refine dt rfl (pF rfl rfl rfl rfl fin1) (dt rfl (m1 rfl fin1) (dt rfl (gF rfl rfl rfl rfl fin1) (dt rfl (gF rfl rfl rfl rfl fin1) (dt rfl (pF rfl rfl rfl rfl fin1) (dt rfl (m1 rfl fin1) (dt rfl (gF rfl rfl rfl rfl fin1) (dt rfl (gF rfl rfl rfl rfl fin1) (dt rfl (gF rfl rfl rfl rfl fin1) (dt rfl (pF rfl rfl rfl rfl fin1) (dt rfl (m1 rfl fin1) (dt rfl (gF rfl rfl rfl rfl fin1) ?_)))))))))))
   refine dt rfl (gF rfl rfl rfl rfl fin1) (dt rfl (pF rfl rfl rfl rfl fin1) (dt rfl (m1 rfl fin1) (dt rfl (gF rfl rfl rfl rfl fin1) (dt rfl (gF rfl rfl rfl rfl fin1) (DF.nil fun K125 hF => (gF rfl rfl rfl rfl (pF rfl rfl rfl rfl (a1 rfl (on ?_)))))))))
   cases hr124
   intro a w hS hA
   exact ⟨hS.selH [1, 2, 3, 4, 5, 6, 7] rfl, hA.cut ⟨rfl, tv⟩⟩
 ·rintro a w ⟨hS, hA⟩
  refine TG.ap ?_ hS hA
  refine rt_ ?_
  cases hr86
  intro a w hS hA
  refine ret1 hA rfl rfl ?_
  exact ⟨rfl, hS.ext⟩

theorem w34 {M : Prop} {W : World} {H : Hp} (hH : H.le (hp W)) (hg : Gv M H) {ad_l_0 : Option Addr} {cap_l_0 : Nat} {l_0 : List Heading} (h_l_0 : Sl (RHeading) 4 H ad_l_0 cap_l_0 l_0) {r : Int} (hr : m34 l_0 = some r) : Calls Tryz.prog 34 [.slice ad_l_0 l_0.length cap_l_0].toArray W (RetS M W (.int .i64 r)) := by
 have := h_l_0.len
 unfold m34 at hr
 refine enterG (M := M) Tryz.func34 rfl Tryz.ntmps34 rfl hH ?_
 refine sq (rg (a1 rfl (on (sq (rg (m1 rfl ?_))))))
 obtain ⟨r1, hx2, hr3⟩ := bd_some hr
 refine clK C50 rfl rfl rfl rfl (fun w H hH le => w50 hH (hg.mono (le.at 0 rfl)) (h_l_0.mono (RHeading.mono) (le.at 0 rfl)) hx2) ?_
 rintro v_ K4 ⟨mp5, rfl, hm6⟩
 refine m1 rfl (ex rfl rfl rfl (ex rfl rfl rfl (a1 rfl (a1 rfl (on (sq (rg (m1 rfl (a1 rfl (on (rt_ ?_)))))))))))
 cases hr3
 intro a w hS hA
 refine ret1 hA rfl rfl ?_
 exact ⟨rfl, hS.ext⟩

theorem w112 {M : Prop} {W : World} {H : Hp} (hH : H.le (hp W)) {ad_s_0 : Option Addr} {cap_s_0 : Nat} {s_0 : List Bytes} (h_s_0 : Sl (Flat encS) 1 H ad_s_0 cap_s_0 s_0) {r : List Bytes} (hr : m112 s_0 = some r) : Calls Tryz.prog 112 [.slice ad_s_0 s_0.length cap_s_0].toArray W (RetK M H W (fun v K => ∃ (ad0 : Option Addr) (cap0 : Nat), v = .slice ad0 r.length cap0 ∧ Sl (Flat encS) 1 K ad0 cap0 r)) := by
 have := h_s_0.len
 unfold m112 at hr
 refine enterG (M := M) Tryz.func112 rfl Tryz.ntmps112 rfl hH ?_
 refine sq (rg (a1 rfl (on (sq (sq (rg (m1 rfl (slN U50 rfl rfl (on ?_)))))))))
 refine cb rfl (fun hc3 => ?_) (fun hc3 => ?_)
 ·obtain rfl := Sl.isNil h_s_0 hc3
  have hr4 := (chk_some hr).2
  refine sq (rg (a1 rfl (on (rt_ ?_))))
  cases hr4
  intro a w hS hA
  refine ret1 hA rfl rfl ?_
  exact ⟨⟨_, _, rfl, (Sl.nil _ _ _ _ _ (by decide))⟩, hS.ext⟩
 ·refine sk (sq (rg (bSL 1 encS ([] : List Bytes) (cs := []) T11.E50 rfl rfl rfl rfl rfl rfl fun b5 => (m1 rfl ?_))))
  obtain ⟨hk6, hr7⟩ := chk_some hr
  have := lenA ([] : List Bytes) s_0
  refine apS 1 (enc := encS) (l := ([] : List Bytes)) (m := s_0) T11.E50 rfl rfl rfl rfl rfl rfl h_s_0 0 rfl (fun _ => rfl) (fun _ => rfl) rfl hk6 fun ad8 cap9 => (a1 rfl (on (rt_ ?_)))
  cases hr7
  intro a w hS hA
  refine ret1 hA rfl rfl ?_
  exact ⟨⟨_, _, rfl, (hS.listOut 1 rfl (fun _ => rfl))⟩, hS.ext⟩

theorem w113 {M : Prop} {W : World} {H : Hp} (hH : H.le (hp W)) {ad_s_0 : Option Addr} {cap_s_0 : Nat} {s_0 : List Place} (h_s_0 : Sl (Flat encPlace) 3 H ad_s_0 cap_s_0 s_0) {r : List Place} (hr : m113 s_0 = some r) : Calls Tryz.prog 113 [.slice ad_s_0 s_0.length cap_s_0].toArray W (RetK M H W (fun v K => ∃ (ad0 : Option Addr) (cap0 : Nat), v = .slice ad0 r.length cap0 ∧ Sl (Flat encPlace) 3 K ad0 cap0 r)) := by
 have := h_s_0.len
 unfold m113 at hr
 refine enterG (M := M) Tryz.func113 rfl Tryz.ntmps113 rfl hH ?_
 refine sq (rg (a1 rfl (on (sq (sq (rg (m1 rfl (slN U62 rfl rfl (on ?_)))))))))
 refine cb rfl (fun hc3 => ?_) (fun hc3 => ?_)
 ·obtain rfl := Sl.isNil h_s_0 hc3
  have hr4 := (chk_some hr).2
  refine sq (rg (a1 rfl (on (rt_ ?_))))
  cases hr4
  intro a w hS hA
  refine ret1 hA rfl rfl ?_
  exact ⟨⟨_, _, rfl, (Sl.nil _ _ _ _ _ (by decide))⟩, hS.ext⟩
 ·refine sk (sq (rg (bSL 1 encPlace ([] : List Place) (cs := []) T11.E62 rfl rfl rfl rfl rfl rfl fun b5 => (m1 rfl ?_))))
  obtain ⟨hk6, hr7⟩ := chk_some hr
  have := lenA ([] : List Place) s_0
  refine apS 1 (enc := encPlace) (l := ([] : List Place)) (m := s_0) T11.E62 rfl rfl rfl rfl rfl rfl h_s_0 0 rfl (fun _ => rfl) (fun _ => rfl) rfl hk6 fun ad8 cap9 => (a1 rfl (on (rt_ ?_)))
  cases hr7
  intro a w hS hA
  refine ret1 hA rfl rfl ?_
  exact ⟨⟨_, _, rfl, (hS.listOut 1 rfl (fun _ => rfl))⟩, hS.ext⟩

theorem w75 {M : Prop} {W : World} {H : Hp} (hH : H.le (hp W)) {cs_h_0 : List Value} (h_0 : Heading) (h_h_0 : (RHeading) H cs_h_0 h_0) {r : Heading} (hr : m75 h_0 = some r) : Calls Tryz.prog 75 [.agg cs_h_0.toArray].toArray W (RetK M H W (fun v K => ∃ (cs0 : List Value), v = .agg cs0.toArray ∧ (RHeading) K cs0 r)) := by
 have hh_h_0 := h_h_0
 obtain ⟨ad1, cap2, ad4, cap5, ad7, cap8, rfl, hl3, hl6, hl9⟩ := h_h_0
 have := hl3.len
 have := hl6.len
 have := hl9.len
 unfold m75 at hr
 refine enterG (M := M) Tryz.func75 rfl Tryz.ntmps75 rfl hH ?_
 refine sq (rg (bI (cs := [.string (bs h_0.name), .slice ad1 h_0.variants.length cap2, .slice ad4 h_0.also.length cap5, .slice ad7 h_0.places.length cap8]) rfl rfl rfl fun q10 K11 hK12 => (al 1 (cs := [.string (bs []), .slice none 0 0, .slice none 0 0, .slice none 0 0]) Tryz.zeroValue64 rfl rfl fun b13 => (on (sq ?_)))))
 obtain ⟨r14, hx15, hr16⟩ := bd_some hr
 obtain ⟨r24, hx25, hr26⟩ := bd_some hr16
 obtain ⟨r34, hx35, hr36⟩ := bd_some hr26
 refine drG 11 mixed (by kernel_rfl) rfl (dt rfl (fb 0 U64 rfl rfl rfl rfl Z9 fin1) (dt rfl (ld G9 rfl rfl ((sS 1 rfl hK12).take 1) rfl fin1) (dt rfl (fb 1 U64 rfl rfl rfl rfl Z50 fin1) (dt rfl (ld G50 rfl rfl (((sS 1 rfl hK12).drop 1).take 1) rfl fin1) ?_))))
 refine DF.und (α := Option Addr × Nat) (none, 0) (fun q => .slice q.1 r14.length q.2) (fun (q : Option Addr × Nat) K => Sl (Flat encS) 1 K q.1 q.2 r14) (fun _ _ _ h x => x.mono (Flat.mono _) h) (by kernel_rfl) rfl (fun a w K hS hA hF => TG.pa hS hA (clK C112 rfl rfl rfl rfl (fun w H hH le => w112 hH (hl3.mono (Flat.mono _) (le.at 2 rfl)) hx15) (by
   rintro v_ K17 ⟨ad18, cap19, rfl, hl20⟩
   exact finU (f := fun q => .slice q.1 r14.length q.2) (G := (fun (q : Option Addr × Nat) K => Sl (Flat encS) 1 K q.1 q.2 r14)) (_, _) (fun _ _ _ h x => x.mono (Flat.mono _) h) hl20))) ?_
 rintro ⟨ad22, cap23⟩
 refine dt rfl (fb 2 U64 rfl rfl rfl rfl Z50 fin1) (dt rfl (ld G50 rfl rfl (((sS 1 rfl hK12).drop 2).take 1) rfl fin1) ?_)
 refine DF.und (α := Option Addr × Nat) (none, 0) (fun q => .slice q.1 r24.length q.2) (fun (q : Option Addr × Nat) K => Sl (Flat encS) 1 K q.1 q.2 r24) (fun _ _ _ h x => x.mono (Flat.mono _) h) (by kernel_rfl) rfl (fun a w K hS hA hF => TG.pa hS hA (clK C112 rfl rfl rfl rfl (fun w H hH le => w112 hH (hl6.mono (Flat.mono _) (le.at 2 rfl)) hx25) (by
   rintro v_ K27 ⟨ad28, cap29, rfl, hl30⟩
   exact finU (f := fun q => .slice q.1 r24.length q.2) (G := (fun (q : Option Addr × Nat) K => Sl (Flat encS) 1 K q.1 q.2 r24)) (_, _) (fun _ _ _ h x => x.mono (Flat.mono _) h) hl30))) ?_
 rintro ⟨ad32, cap33⟩
 refine dt rfl (fb 3 U64 rfl rfl rfl rfl Z62 fin1) (dt rfl (ld G62 rfl rfl ((sS 1 rfl hK12).drop 3) rfl fin1) ?_)
 refine DF.und (α := Option Addr × Nat) (none, 0) (fun q => .slice q.1 r34.length q.2) (fun (q : Option Addr × Nat) K => Sl (Flat encPlace) 3 K q.1 q.2 r34) (fun _ _ _ h x => x.mono (Flat.mono _) h) (by kernel_rfl) rfl (fun a w K hS hA hF => TG.pa hS hA (clK C113 rfl rfl rfl rfl (fun w H hH le => w113 hH (hl9.mono (Flat.mono _) (le.at 2 rfl)) hx35) (by
   rintro v_ K37 ⟨ad38, cap39, rfl, hl40⟩
   exact finU (f := fun q => .slice q.1 r34.length q.2) (G := (fun (q : Option Addr × Nat) K => Sl (Flat encPlace) 3 K q.1 q.2 r34)) (_, _) (fun _ _ _ h x => x.mono (Flat.mono _) h) hl40))) ?_
 rintro ⟨ad42, cap43⟩
 refine DF.nil fun K44 hF => ?_
 obtain ⟨hu41, hu31, hu21, _⟩ := hF
 have := hu21.len
 have := hu31.len
 have := hu41.len
 refine bu (cs := [.string (bs h_0.name), .slice ad22 r14.length cap23, .slice ad32 r24.length cap33, .slice ad42 r34.length cap43]) T11.B64 rfl rfl rfl (sto 1 (cs := [.string (bs h_0.name), .slice ad22 r14.length cap23, .slice ad32 r24.length cap33, .slice ad42 r34.length cap43]) Z64 rfl rfl rfl rfl rfl rfl rfl (on (rt_ ?_)))
 cases hr36
 intro a w hS hA
 refine rc1 hA rfl (ResAt.cell rfl (loadsA G64 Z64 (cell_at (hS.get (t := 1) rfl)) rfl)) ?_
 exact ⟨⟨_, rfl, ⟨_, _, _, _, _, _, rfl, (hu21.mono (Flat.mono _) (hS.grow 0 rfl)), (hu31.mono (Flat.mono _) (hS.grow 0 rfl)), (hu41.mono (Flat.mono _) (hS.grow 0 rfl))⟩⟩, hS.ext⟩

theorem w39 {M : Prop} {W : World} {H : Hp} (hH : H.le (hp W)) (hg : Gv M H) {ad_l_0 : Option Addr} {cap_l_0 : Nat} {l_0 : List Heading} (h_l_0 : Sl (RHeading) 4 H ad_l_0 cap_l_0 l_0) (name : Bytes) {r : Heading × Int} (hr : m39 l_0 name = some r) : Calls Tryz.prog 39 [.slice ad_l_0 l_0.length cap_l_0, .string (bs name)].toArray W (RetK M H W (fun v K => ∃ (cs0 : List Value), v = .tuple [.agg cs0.toArray, .int .i64 r.2].toArray ∧ (RHeading) K cs0 r.1)) := by
 have := h_l_0.len
 unfold m39 at hr
 refine enterG (M := M) Tryz.func39 rfl Tryz.ntmps39 rfl hH ?_
 refine sq (rg (al 1 (cs := [.string (bs []), .slice none 0 0, .slice none 0 0, .slice none 0 0]) Tryz.zeroValue64 rfl rfl fun b1 => (a1 rfl (on (sq (rg (m1 rfl ?_)))))))
 obtain ⟨r2, hx3, hr4⟩ := bd_some hr
 refine clK C50 rfl rfl rfl rfl (fun w H hH le => w50 hH (hg.mono (le.at 0 rfl)) (h_l_0.mono (RHeading.mono) (le.at 0 rfl)) hx3) ?_
 rintro v_ K5 ⟨mp6, rfl, hm7⟩
 refine m1 rfl (ex rfl rfl rfl (ex rfl rfl rfl (a1 rfl (a1 rfl (on (sq (sq (rg (m1 rfl (neI rfl rfl rfl (on ?_)))))))))))
 refine ci rfl (fun hc11 => ?_) (fun hc11 => ?_)
 ·have hr12 := if_p hc11 hr4
  refine sq (rg (bu (cs := [.string (bs []), .slice none 0 0, .slice none 0 0, .slice none 0 0]) T11.B64 rfl rfl rfl (m1 rfl (sto 1 (cs := [.string (bs []), .slice none 0 0, .slice none 0 0, .slice none 0 0]) Z64 rfl rfl rfl rfl rfl rfl rfl (a1 rfl (on (rt_ ?_)))))))
  cases hr12
  intro a w hS hA
  refine rc2 hA rfl (ResAt.cell rfl (loadsA G64 Z64 (cell_at (hS.get (t := 1) rfl)) rfl)) (ResAt.tmp rfl) ?_
  exact ⟨⟨_, rfl, ⟨_, _, _, _, _, _, rfl, (Sl.nil _ _ _ _ _ (by decide)), (Sl.nil _ _ _ _ _ (by decide)), (Sl.nil _ _ _ _ _ (by decide))⟩⟩, hS.ext⟩
 ·have hr13 := if_n hc11 hr4
  refine sk (sq (rg (m1 rfl (m1 rfl (lk2 (ke := keS) (enc := (Value.int .i64)) name (z0 := (0 : Int)) U87 U9 Tryz.zeroValue3 rfl rfl rfl rfl (mS 0 rfl hm7) (m1 rfl (ex rfl rfl rfl (ex rfl rfl rfl (a1 rfl (a1 rfl (on ?_)))))))))))
  refine sq (sq (rg (m1 rfl (nt rfl rfl (on ?_)))))
  refine cb rfl (fun hc17 => ?_) (fun hc17 => ?_)
  ·replace hc17 := nbt hc17
   have hr18 := if_f hc17 hr13
   refine sq (rg (bu (cs := [.string (bs []), .slice none 0 0, .slice none 0 0, .slice none 0 0]) T11.B64 rfl rfl rfl (sto 1 (cs := [.string (bs []), .slice none 0 0, .slice none 0 0, .slice none 0 0]) Z64 rfl rfl rfl rfl rfl rfl rfl (a1 rfl (on (rt_ ?_))))))
   cases hr18
   intro a w hS hA
   refine rc2 hA rfl (ResAt.cell rfl (loadsA G64 Z64 (cell_at (hS.get (t := 1) rfl)) rfl)) (ResAt.tmp rfl) ?_
   exact ⟨⟨_, rfl, ⟨_, _, _, _, _, _, rfl, (Sl.nil _ _ _ _ _ (by decide)), (Sl.nil _ _ _ _ _ (by decide)), (Sl.nil _ _ _ _ _ (by decide))⟩⟩, hS.ext⟩
  ·replace hc17 := nbf hc17
   have hr19 := if_p hc17 hr13
   refine sk (sq (rg (m1 rfl (m1 rfl ?_))))
   obtain ⟨hk20, hr21⟩ := chk_some hr19
   obtain ⟨x22, hx23, hr24⟩ := bd_some hr21
   obtain ⟨p25, rfl⟩ := h_l_0.adr hx23
   obtain ⟨cs26, hcs27, hq28, hr29⟩ := h_l_0.at hx23
   have hr30 := hr29
   obtain ⟨ad31, cap32, ad34, cap35, ad37, cap38, rfl, hl33, hl36, hl39⟩ := hr29
   have := hl33.len
   have := hl36.len
   have := hl39.len
   refine iaP U26 Z64 rfl rfl rfl (by omega) (lt_of hx23) (ldA G64 Z64 rfl rfl (sS 1 rfl hq28) rfl ?_)
   obtain ⟨r40, hx41, hr42⟩ := bd_some hr24
   refine clK C75 rfl rfl rfl rfl (fun w H hH le => w75 hH x22 (RHeading.mono _ _ _ _ (le.at 1 rfl) hr30) hx41) ?_
   rintro v_ K43 ⟨cs44, rfl, hr45⟩
   have hr46 := hr45
   obtain ⟨ad47, cap48, ad50, cap51, ad53, cap54, rfl, hl49, hl52, hl55⟩ := hr45
   have := hl49.len
   have := hl52.len
   have := hl55.len
   refine sto 1 (cs := [.string (bs r40.name), .slice ad47 r40.variants.length cap48, .slice ad50 r40.also.length cap51, .slice ad53 r40.places.length cap54]) Z64 rfl rfl rfl rfl rfl rfl rfl (a1 rfl (on (rt_ ?_)))
   cases hr42
   intro a w hS hA
   refine rc2 hA rfl (ResAt.cell rfl (loadsA G64 Z64 (cell_at (hS.get (t := 1) rfl)) rfl)) (ResAt.tmp rfl) ?_
   exact ⟨⟨_, rfl, ⟨_, _, _, _, _, _, rfl, (hl49.mono (Flat.mono _) (hS.grow 0 rfl)), (hl52.mono (Flat.mono _) (hS.grow 0 rfl)), (hl55.mono (Flat.mono _) (hS.grow 0 rfl))⟩⟩, hS.ext⟩

theorem w45 {M : Prop} {W : World} {H : Hp} (hH : H.le (hp W)) (hg : Gv M H) {ad_l_0 : Option Addr} {cap_l_0 : Nat} {l_0 : List Heading} (h_l_0 : Sl (RHeading) 4 H ad_l_0 cap_l_0 l_0) (name : Bytes) (steps : Int) {r : List Bytes × Int} (hr : m45 l_0 name steps = some r) : Calls Tryz.prog 45 [.slice ad_l_0 l_0.length cap_l_0, .string (bs name), .int .i64 steps].toArray W (RetK M H W (fun v K => ∃ (ad0 : Option Addr) (cap0 : Nat), v = .tuple [.slice ad0 r.1.length cap0, .int .i64 r.2].toArray ∧ Sl (Flat encS) 1 K ad0 cap0 r.1)) := by
 have := h_l_0.len
 unfold m45 at hr
 refine enterG (M := M) Tryz.func45 rfl Tryz.ntmps45 rfl hH ?_
 refine sq (rg (a1 rfl (a1 rfl (on (sq (rg (m1 rfl ?_)))))))
 obtain ⟨r1, hx2, hr3⟩ := bd_some hr
 refine clK C50 rfl rfl rfl rfl (fun w H hH le => w50 hH (hg.mono (le.at 0 rfl)) (h_l_0.mono (RHeading.mono) (le.at 0 rfl)) hx2) ?_
 rintro v_ K4 ⟨mp5, rfl, hm6⟩
 refine m1 rfl (ex rfl rfl rfl (ex rfl rfl rfl (a1 rfl (a1 rfl (on (sq (sq (rg (m1 rfl (neI rfl rfl rfl (on ?_)))))))))))
 refine ci rfl (fun hc10 => ?_) (fun hc10 => ?_)
 ·have hr11 := if_p hc10 hr3
  refine sq (rg (m1 rfl (a1 rfl (a1 rfl (on (rt_ ?_))))))
  cases hr11
  intro a w hS hA
  refine ret2 hA rfl rfl rfl ?_
  exact ⟨⟨_, _, rfl, (Sl.nil _ _ _ _ _ (by decide))⟩, hS.ext⟩
 ·have hr12 := if_n hc10 hr3
  refine sk (sq (sq (rg (m1 rfl ?_))))
  obtain ⟨r13, hx14, hr15⟩ := bd_some hr12
  refine clS C72 rfl rfl rfl rfl (fun w H hH le => w72 steps 0 60 hx14) (nt rfl rfl (on ?_))
  refine cb rfl (fun hc19 => ?_) (fun hc19 => ?_)
  ·replace hc19 := nbt hc19
   have hr20 := if_f hc19 hr15
   refine sq (rg (a1 rfl (a1 rfl (on (rt_ ?_)))))
   cases hr20
   intro a w hS hA
   refine ret2 hA rfl rfl rfl ?_
   exact ⟨⟨_, _, rfl, (Sl.nil _ _ _ _ _ (by decide))⟩, hS.ext⟩
  ·replace hc19 := nbf hc19
   have hr21 := if_p hc19 hr15
   refine sk (sq (rg (m1 rfl (m1 rfl (lk2 (ke := keS) (enc := (Value.int .i64)) name (z0 := (0 : Int)) U87 U9 Tryz.zeroValue3 rfl rfl rfl rfl (mS 0 rfl hm6) (m1 rfl (ex rfl rfl rfl (ex rfl rfl rfl (a1 rfl (a1 rfl (on ?_)))))))))))
   refine sq (sq (rg (m1 rfl (nt rfl rfl (on ?_)))))
   refine cb rfl (fun hc25 => ?_) (fun hc25 => ?_)
   ·replace hc25 := nbt hc25
    have hr26 := if_f hc25 hr21
    refine sq (rg (a1 rfl (a1 rfl (on (rt_ ?_)))))
    cases hr26
    intro a w hS hA
    refine ret2 hA rfl rfl rfl ?_
    exact ⟨⟨_, _, rfl, (Sl.nil _ _ _ _ _ (by decide))⟩, hS.ext⟩
   ·replace hc25 := nbf hc25
    have hr27 := if_p hc25 hr21
    refine sk (sq (rg (mkM 1 keI Value.bool rfl fun b28 => (m1 rfl (mpI 1 (ke := keI) (enc := Value.bool) ((lkp r1.1 name).getD (0 : Int)) true U124 U3 rfl rfl rfl rfl (m1 rfl (a1 rfl (on (sq (rg (m1 rfl ?_)))))))))))
    refine bS (cs := [.int .i64 ((lkp r1.1 name).getD (0 : Int))]) T11.E125 rfl rfl rfl rfl fun q29 K30 hq31 hK32 => ?_
    have hl33 : Sl (Flat (encI .i64)) 1 K30 (some q29) 1 ([((lkp r1.1 name).getD (0 : Int))] : List Int) := Sl.litR (css := [[.int .i64 ((lkp r1.1 name).getD (0 : Int))]]) (l := ([((lkp r1.1 name).getD (0 : Int))] : List Int)) ⟨⟨rfl, rfl, rfl⟩, tv⟩ hq31 hK32 rfl
    have := hl33.len
    refine a1 rfl (on (sq ?_))
    obtain ⟨e749, hl750, hr751⟩ := bd_some hr27
    refine jn (fun a w => St M W H [K30, K4, H] [(1, Own.map' keI Value.bool b28 e749)] w ∧ Has [] 105 a [(0, .slice ad_l_0 l_0.length cap_l_0), (12, .map (some b28))]) ?_ ?_
    ·refine bk ?_
     refine lp hl750 (fun s752 a w => ∃ (ad753 : Option Addr) (cap754 : Nat) (K755 : Hp), St M W H [K755, K30, K4, H] [(1, Own.map' keI Value.bool b28 s752.2.2)] w ∧ Has [] 105 a [(0, .slice ad_l_0 l_0.length cap_l_0), (2, .int .i64 s752.1), (8, mp5), (12, .map (some b28)), (13, .slice ad753 s752.2.1.length cap754)] ∧ Sl (Flat (encI .i64)) 1 K755 ad753 cap754 s752.2.1) ?_ ?_
     ·intro a w hS hA
      exact ⟨(some q29), 1, K30, hS.selH [0, 0, 1, 2] rfl, hA.cut ⟨rfl, rfl, rfl, rfl, rfl, tv⟩, hl33⟩
     ·rintro j s752 y759 hr757 hz758 a w ⟨ad753, cap754, K755, hS, hA, hl756⟩
      refine TG.ap ?_ hS hA
      unfold m45_1 at hr757
      have := hl756.len
      refine sq (sq ?_)
      obtain ⟨t763, hx764, hr765⟩ := bd_some hr757
      refine jn (fun a w => St M W H [K755, K30, K4, H] [(1, Own.map' keI Value.bool b28 s752.2.2)] w ∧ Has [] 105 a [(0, .slice ad_l_0 l_0.length cap_l_0), (2, .int .i64 s752.1), (8, mp5), (12, .map (some b28)), (13, .slice ad753 s752.2.1.length cap754), (53, .bool t763)]) ?_ ?_
      ·refine rg (m1 rfl (gtI rfl rfl rfl (m1 rfl ?_)))
       by_cases hb766 : 0 < s752.1
       ·have hr767 := if_p hb766 hx764
        refine gt hb766 rfl (m1 rfl (gt hb766 rfl (lnL U125 rfl rfl (gt hb766 rfl (gtI rfl rfl rfl (pt hb766 rfl rfl (on ?_)))))))
        cases hr767
        exact cu ⟨rfl, rfl, rfl, rfl, rfl, rfl, tv⟩
       ·have hr768 := if_n hb766 hx764
        refine gf hb766 rfl (gf hb766 rfl (gf hb766 rfl (pf hb766 rfl rfl (on ?_))))
        cases hr768
        exact cu ⟨rfl, rfl, rfl, rfl, rfl, rfl, tv⟩
      ·rintro a w ⟨hS, hA⟩
       refine TG.ap ?_ hS hA
       refine cb rfl (fun hc772 => ?_) (fun hc772 => ?_)
       ·have hr773 := if_p hc772 hr765
        refine sk (sq (bk (sq (rg (a1 rfl (on (sq (sq (rg (m1 rfl (lnL U125 rfl rfl ?_)))))))))))
        refine m1 rfl (on (TG.nilRow 3 3 1 (TG.as 3 (z := Own.list none 0 3 1 (encI .i64) ([] : List Int)) rfl rfl ?_)))
        obtain ⟨e1461, hl1462, hr1463⟩ := bd_some hr773
        refine jn (fun a w => ∃ (ad1464 : Option Addr) (cap1465 : Nat), St M W H [K755, K30, K4, H] [(3, Own.list ad1464 cap1465 3 1 (encI .i64) e1461.1), (1, Own.map' keI Value.bool b28 e1461.2)] w ∧ Has [] 105 a [(0, .slice ad_l_0 l_0.length cap_l_0), (2, .int .i64 s752.1), (8, mp5), (12, .map (some b28)), (14, .slice ad1464 e1461.1.length cap1465)]) ?_ ?_
        ·refine bk ?_
         refine lp hl1462 (fun s1466 a w => ∃ (ad1467 : Option Addr) (cap1468 : Nat), St M W H [K755, K30, K4, H] [(3, Own.list ad1467 cap1468 3 1 (encI .i64) s1466.2.1), (1, Own.map' keI Value.bool b28 s1466.2.2)] w ∧ Has [] 105 a [(0, .slice ad_l_0 l_0.length cap_l_0), (2, .int .i64 s752.1), (8, mp5), (12, .map (some b28)), (14, .slice ad1467 s1466.2.1.length cap1468), (56, .slice ad753 s752.2.1.length cap754), (57, .int .i64 (s752.2.1.length : Int)), (58, .int .i64 (s1466.1 : Int))]) ?_ ?_
         ·intro a w hS hA
          exact ⟨none, 0, hS, hA.cut ⟨rfl, rfl, rfl, rfl, rfl, rfl, rfl, rfl, tv⟩⟩
         ·rintro j s1466 y1471 hr1469 hz1470 a w ⟨ad1467, cap1468, hS, hA⟩
          refine TG.ap ?_ hS hA
          unfold m45_2 at hr1469
          refine sq (rg (ltI rfl rfl rfl (on (sq ?_))))
          refine ci rfl (fun hc1475 => ?_) (fun hc1475 => ?_)
          ·have hr1476 := if_p hc1475 hr1469
           refine sk (sq (bk (sq (rg ?_))))
           obtain ⟨x1582, hx1583, hr1584⟩ := bd_some hr1476
           obtain ⟨p1585, rfl⟩ := hl756.adr hx1583
           obtain ⟨cs1586, hcs1587, hq1588, hr1589⟩ := hl756.at hx1583
           obtain rfl := hr1589
           refine iaP U125 Z3 rfl rfl rfl rfl (lt_of hx1583) (ld G3 rfl rfl (sS 0 rfl hq1588) rfl (a1 rfl (on (sq (rg (m1 rfl (m1 rfl ?_)))))))
           obtain ⟨hk1590, hr1591⟩ := chk_some hr1584
           obtain ⟨x1592, hx1593, hr1594⟩ := bd_some hr1591
           obtain ⟨p1595, rfl⟩ := h_l_0.adr hx1593
           obtain ⟨cs1596, hcs1597, hq1598, hr1599⟩ := h_l_0.at hx1593
           have hr1600 := hr1599
           obtain ⟨ad1601, cap1602, ad1604, cap1605, ad1607, cap1608, rfl, hl1603, hl1606, hl1609⟩ := hr1599
           have := hl1603.len
           have := hl1606.len
           have := hl1609.len
           refine iaP U26 Z64 rfl rfl rfl (by omega) (lt_of hx1593) (fb 2 U64 rfl rfl rfl rfl Z50 (ld G50 rfl rfl (((sS 3 rfl hq1598).drop 2).take 1) rfl (lnL U50 rfl rfl (m1 rfl (on ?_)))))
           obtain ⟨e1684, hl1685, hr1686⟩ := bd_some hr1594
           refine jn (fun a w => ∃ (ad1687 : Option Addr) (cap1688 : Nat), St M W H [K755, K30, K4, H] [(3, Own.list ad1687 cap1688 3 1 (encI .i64) e1684.1), (1, Own.map' keI Value.bool b28 e1684.2)] w ∧ Has [] 105 a [(0, .slice (some p1595) l_0.length cap_l_0), (2, .int .i64 s752.1), (8, mp5), (12, .map (some b28)), (14, .slice ad1687 e1684.1.length cap1688), (56, .slice (some p1585) s752.2.1.length cap754), (57, .int .i64 (s752.2.1.length : Int)), (58, .int .i64 (s1466.1 : Int))]) ?_ ?_
           ·refine bk ?_
            refine lp hl1685 (fun s1689 a w => ∃ (ad1690 : Option Addr) (cap1691 : Nat), St M W H [K755, K30, K4, H] [(3, Own.list ad1690 cap1691 3 1 (encI .i64) s1689.2.1), (1, Own.map' keI Value.bool b28 s1689.2.2)] w ∧ Has [] 105 a [(0, .slice (some p1595) l_0.length cap_l_0), (2, .int .i64 s752.1), (8, mp5), (12, .map (some b28)), (14, .slice ad1690 s1689.2.1.length cap1691), (56, .slice (some p1585) s752.2.1.length cap754), (57, .int .i64 (s752.2.1.length : Int)), (58, .int .i64 (s1466.1 : Int)), (66, .slice ad1604 x1592.also.length cap1605), (67, .int .i64 (x1592.also.length : Int)), (68, .int .i64 (s1689.1 : Int))]) ?_ ?_
            ·intro a w hS hA
             exact ⟨ad1467, cap1468, hS, hA.cut ⟨rfl, rfl, rfl, rfl, rfl, rfl, rfl, rfl, rfl, rfl, rfl, tv⟩⟩
            ·rintro j s1689 y1694 hr1692 hz1693 a w ⟨ad1690, cap1691, hS, hA⟩
             refine TG.ap ?_ hS hA
             unfold m45_3 at hr1692
             refine sq (rg (ltI rfl rfl rfl (on (sq ?_))))
             refine ci rfl (fun hc1698 => ?_) (fun hc1698 => ?_)
             ·have hr1699 := if_p hc1698 hr1692
              refine sk (sq (bk (sq (rg ?_))))
              obtain ⟨x1719, hx1720, hr1721⟩ := bd_some hr1699
              obtain ⟨p1722, rfl⟩ := hl1606.adr hx1720
              obtain ⟨cs1723, hcs1724, hq1725, hr1726⟩ := hl1606.at hx1720
              obtain rfl := hr1726
              refine iaP U50 Z9 rfl rfl rfl rfl (lt_of hx1720) (ld G9 rfl rfl (sS 3 rfl hq1725) rfl (a1 rfl (on (sq (rg (m1 rfl (m1 rfl (lk1 (ke := keS) (enc := (Value.int .i64)) x1719 (z0 := (0 : Int)) U87 U9 Tryz.zeroValue3 rfl rfl rfl rfl (mS 2 rfl hm6) (a1 rfl (on (sq ?_)))))))))))
              refine rg (m1 rfl (m1 rfl (lk1 (ke := keI) (enc := Value.bool) ((lkp r1.1 x1719).getD (0 : Int)) (z0 := false) U124 U3 Tryz.zeroValue4 rfl rfl rfl rfl (mO 1 rfl) (nt rfl rfl (on ?_)))))
              obtain ⟨t1735, hx1736, hr1737⟩ := bd_some hr1721
              refine jn (fun a w => ∃ (ad1738 : Option Addr) (cap1739 : Nat), St M W H [K755, K30, K4, H] [(3, Own.list ad1738 cap1739 3 1 (encI .i64) t1735.1), (1, Own.map' keI Value.bool b28 t1735.2)] w ∧ Has [] 105 a [(0, .slice (some p1595) l_0.length cap_l_0), (2, .int .i64 s752.1), (8, mp5), (12, .map (some b28)), (14, .slice ad1738 t1735.1.length cap1739), (56, .slice (some p1585) s752.2.1.length cap754), (57, .int .i64 (s752.2.1.length : Int)), (58, .int .i64 (s1466.1 : Int)), (66, .slice (some p1722) x1592.also.length cap1605), (67, .int .i64 (x1592.also.length : Int)), (68, .int .i64 (s1689.1 : Int))]) ?_ ?_
              ·refine cb rfl (fun hc1740 => ?_) (fun hc1740 => ?_)
               ·replace hc1740 := nbt hc1740
                have hr1741 := if_f hc1740 hx1736
                refine sq (rg (m1 rfl (m1 rfl (mpU 1 (ke := keI) (enc := Value.bool) ((lkp r1.1 x1719).getD (0 : Int)) true U124 U3 rfl rfl rfl rfl (on (rg (m1 rfl (m1 rfl ?_))))))))
                obtain ⟨hk1742, hr1743⟩ := chk_some hr1741
                have := lenA s1689.2.1 [((lkp r1.1 x1719).getD (0 : Int))]
                have := len1 ((lkp r1.1 x1719).getD (0 : Int))
                refine ap1 3 (encI .i64) (l := s1689.2.1) ((lkp r1.1 x1719).getD (0 : Int)) T11.E125 rfl rfl rfl rfl rfl rfl rfl rfl rfl rfl rfl rfl hk1742 fun ad1744 cap1745 u1746 => (a1 rfl (on ?_))
                cases hr1743
                intro a w hS hA
                exact ⟨ad1744, cap1745, hS, hA.cut ⟨rfl, rfl, rfl, rfl, rfl, rfl, rfl, rfl, rfl, rfl, rfl, tv⟩⟩
               ·replace hc1740 := nbf hc1740
                have hr1747 := if_p hc1740 hx1736
                refine sk ?_
                cases hr1747
                intro a w hS hA
                exact ⟨ad1690, cap1691, hS, hA.cut ⟨rfl, rfl, rfl, rfl, rfl, rfl, rfl, rfl, rfl, rfl, rfl, tv⟩⟩
              ·rintro a w ⟨ad1738, cap1739, hS, hA⟩
               refine TG.ap ?_ hS hA
               refine rg (adI rfl rfl rfl (by omega) (m1 rfl (on ?_)))
               cases hr1737
               intro a w hS hA
               exact ⟨_, hz1693, ad1738, cap1739, hS, hA.cut ⟨rfl, rfl, rfl, rfl, rfl, rfl, rfl, rfl, rfl, rfl, rfl, tv⟩⟩
             ·have hr1748 := if_n hc1698 hr1692
              refine xt rfl ?_
              cases hr1748
              obtain rfl := Fin.out hz1693
              intro a w hS hA
              exact ⟨ad1690, cap1691, hS, hA.cut ⟨rfl, rfl, rfl, rfl, rfl, rfl, rfl, rfl, tv⟩⟩
           ·rintro a w ⟨ad1687, cap1688, hS, hA⟩
            apply TG.ap ?_ hS hA
            refine rg (adI rfl rfl rfl (by omega) (m1 rfl (on ?_)))
            cases hr1686
            intro a w hS hA
            exact ⟨_, hz1470, ad1687, cap1688, hS, hA.cut ⟨rfl, rfl, rfl, rfl, rfl, rfl, rfl, rfl, tv⟩⟩
          ·have hr1749 := if_n hc1475 hr1469
           refine xt rfl ?_
           cases hr1749
           obtain rfl := Fin.out hz1470
           intro a w hS hA
           exact ⟨ad1467, cap1468, hS, hA.cut ⟨rfl, rfl, rfl, rfl, rfl, tv⟩⟩
        ·rintro a w ⟨ad1464, cap1465, hS, hA⟩
         apply TG.ap ?_ hS hA
         refine rg (m1 rfl (a1 rfl (on (rg (m1 rfl ?_)))))
         obtain ⟨hk1750, hr1751⟩ := chk_some hr1463
         refine sbI rfl rfl rfl hk1750 (a1 rfl (on (TG.still 3 rfl (fun _ => rfl) fun K1752 hl1753 => ?_)))
         have := hl1753.len
         cases hr1751
         intro a w hS hA
         exact ⟨_, hz758, ad1464, cap1465, K1752, hS.selH [0, 2, 3, 4] rfl, hA.cut ⟨rfl, rfl, rfl, rfl, rfl, tv⟩, hl1753⟩
       ·have hr1754 := if_f hc772 hr765
        refine xt rfl ?_
        cases hr1754
        obtain rfl := Fin.out hz758
        intro a w hS hA
        exact ⟨hS.selH [1, 2, 3] rfl, hA.cut ⟨rfl, rfl, tv⟩⟩
    ·rintro a w ⟨hS, hA⟩
     apply TG.ap ?_ hS hA
     refine sq (rg (a1 rfl (on (sq (sq (rg (m1 rfl (lnL U26 rfl rfl (m1 rfl (on (TG.nilRow 6 9 1 ?_)))))))))))
     refine TG.as 6 (z := Own.list none 0 9 1 encS ([] : List Bytes)) rfl rfl ?_
     obtain ⟨e1871, hl1872, hr1873⟩ := bd_some hr751
     refine jn (fun a w => ∃ (ad1874 : Option Addr) (cap1875 : Nat), St M W H [K30, K4, H] [(6, Own.list ad1874 cap1875 9 1 encS e1871), (1, Own.map' keI Value.bool b28 e749)] w ∧ Has [] 105 a [(20, .slice ad1874 e1871.length cap1875)]) ?_ ?_
     ·refine bk ?_
      refine lp hl1872 (fun s1876 a w => ∃ (ad1877 : Option Addr) (cap1878 : Nat), St M W H [K30, K4, H] [(6, Own.list ad1877 cap1878 9 1 encS s1876.2), (1, Own.map' keI Value.bool b28 e749)] w ∧ Has [] 105 a [(12, .map (some b28)), (20, .slice ad1877 s1876.2.length cap1878), (88, .slice ad_l_0 l_0.length cap_l_0), (89, .int .i64 (l_0.length : Int)), (90, .int .i64 (s1876.1 : Int))]) ?_ ?_
      ·intro a w hS hA
       exact ⟨none, 0, hS, hA.cut ⟨rfl, rfl, rfl, rfl, rfl, tv⟩⟩
      ·rintro j s1876 y1881 hr1879 hz1880 a w ⟨ad1877, cap1878, hS, hA⟩
       refine TG.ap ?_ hS hA
       unfold m45_4 at hr1879
       refine sq (rg (ltI rfl rfl rfl (on (sq ?_))))
       refine ci rfl (fun hc1885 => ?_) (fun hc1885 => ?_)
       ·have hr1886 := if_p hc1885 hr1879
        refine sk (sq (bk (sq (rg (m1 rfl ?_)))))
        obtain ⟨x1917, hx1918, hr1919⟩ := bd_some hr1886
        obtain ⟨p1920, rfl⟩ := h_l_0.adr hx1918
        obtain ⟨cs1921, hcs1922, hq1923, hr1924⟩ := h_l_0.at hx1918
        have hr1925 := hr1924
        obtain ⟨ad1926, cap1927, ad1929, cap1930, ad1932, cap1933, rfl, hl1928, hl1931, hl1934⟩ := hr1924
        have := hl1928.len
        have := hl1931.len
        have := hl1934.len
        refine iaP U26 Z64 rfl rfl rfl rfl (lt_of hx1918) (ldA G64 Z64 rfl rfl (sS 2 rfl hq1923) rfl (al 4 (cs := [.string (bs []), .slice none 0 0, .slice none 0 0, .slice none 0 0]) Tryz.zeroValue64 rfl rfl fun b1935 => (a1 rfl (sto 4 (cs := [.string (bs x1917.name), .slice ad1926 x1917.variants.length cap1927, .slice ad1929 x1917.also.length cap1930, .slice ad1932 x1917.places.length cap1933]) Z64 rfl rfl rfl rfl rfl rfl rfl (on (sq (rg (m1 rfl (m1 rfl (lk1 (ke := keI) (enc := Value.bool) (s1876.1 : Int) (z0 := false) U124 U3 Tryz.zeroValue4 rfl rfl rfl rfl (mO 1 rfl) (on ?_)))))))))))
        obtain ⟨t1944, hx1945, hr1946⟩ := bd_some hr1919
        refine jn (fun a w => ∃ (ad1947 : Option Addr) (cap1948 : Nat), St M W H [K30, K4, H] [(4, cel b1935 64 [.string (bs x1917.name), .slice ad1926 x1917.variants.length cap1927, .slice ad1929 x1917.also.length cap1930, .slice ad1932 x1917.places.length cap1933]), (6, Own.list ad1947 cap1948 9 1 encS t1944), (1, Own.map' keI Value.bool b28 e749)] w ∧ Has [] 105 a [(12, .map (some b28)), (20, .slice ad1947 t1944.length cap1948), (88, .slice (some p1920) l_0.length cap_l_0), (89, .int .i64 (l_0.length : Int)), (90, .int .i64 (s1876.1 : Int))]) ?_ ?_
        ·refine cb rfl (fun hc1949 => ?_) (fun hc1949 => ?_)
         ·have hr1950 := if_p hc1949 hx1945
          refine rg (m1 rfl (fb 0 U64 rfl rfl rfl rfl Z9 (ld G9 rfl rfl ((sO 4 rfl).take 1) rfl ?_)))
          obtain ⟨hk1951, hr1952⟩ := chk_some hr1950
          have := lenA s1876.2 [x1917.name]
          have := len1 x1917.name
          refine ap1 6 encS (l := s1876.2) x1917.name T11.E50 rfl rfl rfl rfl rfl rfl rfl rfl rfl rfl rfl rfl hk1951 fun ad1953 cap1954 u1955 => (a1 rfl (on ?_))
          cases hr1952
          intro a w hS hA
          exact ⟨ad1953, cap1954, hS, hA.cut ⟨rfl, rfl, rfl, rfl, rfl, tv⟩⟩
         ·have hr1956 := if_f hc1949 hx1945
          refine sk ?_
          cases hr1956
          intro a w hS hA
          exact ⟨ad1877, cap1878, hS, hA.cut ⟨rfl, rfl, rfl, rfl, rfl, tv⟩⟩
        ·rintro a w ⟨ad1947, cap1948, hS, hA⟩
         refine TG.ap ?_ hS hA
         refine rg (adI rfl rfl rfl (by omega) (m1 rfl (on (TG.del 4 ?_))))
         cases hr1946
         intro a w hS hA
         exact ⟨_, hz1880, ad1947, cap1948, hS, hA.cut ⟨rfl, rfl, rfl, rfl, rfl, tv⟩⟩
       ·have hr1957 := if_n hc1885 hr1879
        refine xt rfl ?_
        cases hr1957
        obtain rfl := Fin.out hz1880
        intro a w hS hA
        exact ⟨ad1877, cap1878, hS, hA.cut ⟨rfl, tv⟩⟩
     ·rintro a w ⟨ad1874, cap1875, hS, hA⟩
      apply TG.ap ?_ hS hA
      refine sq (rg (m1 rfl (a1 rfl (a1 rfl (on (rt_ ?_))))))
      cases hr1873
      intro a w hS hA
      refine ret2 hA rfl rfl rfl ?_
      exact ⟨⟨_, _, rfl, (hS.listOut 6 rfl (fun _ => rfl))⟩, hS.ext⟩

theorem w15 {M : Prop} {W : World} {H : Hp} (hH : H.le (hp W)) (hg : Gv M H)  {r : Bool} (hr : m15 = some r) : Calls Tryz.prog 15 [].toArray W (RetS M W (.bool r)) := by
 unfold m15 at hr
 refine enterG (M := M) Tryz.func15 rfl Tryz.ntmps15 rfl hH ?_
 refine sq (rg (a1 rfl (on (sq (rg ?_)))))
 obtain ⟨r1, hx2, hr3⟩ := bd_some hr
 refine clK C47 rfl rfl rfl rfl (fun w H hH le => w47 hH  hx2) ?_
 rintro v_ K4 ⟨ad5, cap6, rfl, hl7⟩
 have := hl7.len
 obtain ⟨r8, hx9, hr10⟩ := bd_some hr3
 refine clK C18 rfl rfl rfl rfl (fun w H hH le => w18 hH (hg.mono (le.at 1 rfl)) (hl7.mono (RSl.mono (RHeading.mono)) (le.at 0 rfl)) hx9) ?_
 rintro v_ K11 ⟨ad12, cap13, rfl, hl14⟩
 have := hl14.len
 refine m1 rfl (ex rfl rfl rfl (ex rfl rfl rfl (a1 rfl (a1 rfl (on (sq (rg (m1 rfl ?_))))))))
 obtain ⟨r15, hx16, hr17⟩ := bd_some hr10
 refine clK C39 rfl rfl rfl rfl (fun w H hH le => w39 hH (hg.mono (le.at 2 rfl)) (hl14.mono (RHeading.mono) (le.at 0 rfl)) [76, 97, 100, 121, 32, 76, 101, 101] hx16) ?_
 rintro v_ K18 ⟨cs19, rfl, hr20⟩
 have hr21 := hr20
 obtain ⟨ad22, cap23, ad25, cap26, ad28, cap29, rfl, hl24, hl27, hl30⟩ := hr20
 have := hl24.len
 have := hl27.len
 have := hl30.len
 refine m1 rfl (ex rfl rfl rfl (ex rfl rfl rfl (va (cs := [.string (bs r15.1.name), .slice ad22 r15.1.variants.length cap23, .slice ad25 r15.1.also.length cap26, .slice ad28 r15.1.places.length cap29]) Tryz.zeroValue64 Z64 rfl rfl rfl rfl rfl rfl rfl rfl fun q31 K32 hK33 => (a1 rfl (on (sq (rg (m1 rfl ?_))))))))
 obtain ⟨r34, hx35, hr36⟩ := bd_some hr17
 refine clK C45 rfl rfl rfl rfl (fun w H hH le => w45 hH (hg.mono (le.at 4 rfl)) (hl14.mono (RHeading.mono) (le.at 2 rfl)) [67, 111, 114, 110, 32, 108, 97, 119, 115] 1 hx35) ?_
 rintro v_ K37 ⟨ad38, cap39, rfl, hl40⟩
 have := hl40.len
 refine m1 rfl (ex rfl rfl rfl (ex rfl rfl rfl (a1 rfl (a1 rfl (on (sq (sq ?_)))))))
 obtain ⟨t77, hx78, hr79⟩ := bd_some hr36
 refine jn (fun a w => St M W H [K37, K32, K18, K11, K4, H] [] w ∧ Has [] 190 a [(1, .slice ad12 r8.1.length cap13), (71, .bool t77)]) ?_ ?_
 ·refine rg (m1 rfl (neI rfl rfl rfl (m1 rfl ?_)))
  by_cases hb80 : r8.2 ≠ 0
  ·have hr81 := if_p hb80 hx78
   refine gf' hb80 rfl (gf' hb80 rfl (gf' hb80 rfl (pt hb80 rfl rfl (m1 rfl (gF rfl rfl rfl rfl (gF rfl rfl rfl rfl (pT rfl rfl rfl rfl (m1 rfl (gF rfl rfl rfl rfl (gF rfl rfl rfl rfl (gF rfl rfl rfl rfl ?_)))))))))))
   refine gF rfl rfl rfl rfl (gF rfl rfl rfl rfl (gF rfl rfl rfl rfl (gF rfl rfl rfl rfl (gF rfl rfl rfl rfl (pT rfl rfl rfl rfl (m1 rfl (gF rfl rfl rfl rfl (gF rfl rfl rfl rfl (pT rfl rfl rfl rfl (m1 rfl (gF rfl rfl rfl rfl ?_)))))))))))
   refine gF rfl rfl rfl rfl (gF rfl rfl rfl rfl (gF rfl rfl rfl rfl (pT rfl rfl rfl rfl (on ?_))))
   cases hr81
   exact cu ⟨rfl, rfl, tv⟩
  ·have hr82 := if_n hb80 hx78
   refine gt' hb80 rfl (m1 rfl (gt' hb80 rfl (lnL U26 rfl rfl (gt' hb80 rfl (neI rfl rfl rfl (pf hb80 rfl rfl (m1 rfl ?_)))))))
   by_cases hb83 : (r8.1.length : Int) ≠ 3
   ·have hr84 := if_p hb83 hr82
    refine gf' hb83 rfl (gf' hb83 rfl (pt hb83 rfl rfl (m1 rfl (gF rfl rfl rfl rfl (gF rfl rfl rfl rfl (gF rfl rfl rfl rfl (gF rfl rfl rfl rfl (gF rfl rfl rfl rfl (gF rfl rfl rfl rfl (gF rfl rfl rfl rfl (gF rfl rfl rfl rfl ?_)))))))))))
    refine pT rfl rfl rfl rfl (m1 rfl (gF rfl rfl rfl rfl (gF rfl rfl rfl rfl (pT rfl rfl rfl rfl (m1 rfl (gF rfl rfl rfl rfl (gF rfl rfl rfl rfl (gF rfl rfl rfl rfl (gF rfl rfl rfl rfl (pT rfl rfl rfl rfl (on ?_)))))))))))
    cases hr84
    exact cu ⟨rfl, rfl, tv⟩
   ·have hr85 := if_n hb83 hr82
    refine gt' hb83 rfl (m1 rfl (gt' hb83 rfl (neI rfl rfl rfl (pf hb83 rfl rfl (m1 rfl ?_)))))
    by_cases hb86 : r15.2 ≠ 0
    ·have hr87 := if_p hb86 hr85
     refine gf' hb86 rfl (gf' hb86 rfl (gf' hb86 rfl (gf' hb86 rfl (gf' hb86 rfl (gf' hb86 rfl (gf' hb86 rfl (gf' hb86 rfl (pt hb86 rfl rfl (m1 rfl (gF rfl rfl rfl rfl (gF rfl rfl rfl rfl ?_)))))))))))
     refine pT rfl rfl rfl rfl (m1 rfl (gF rfl rfl rfl rfl (gF rfl rfl rfl rfl (gF rfl rfl rfl rfl (gF rfl rfl rfl rfl (pT rfl rfl rfl rfl (on ?_)))))))
     cases hr87
     exact cu ⟨rfl, rfl, tv⟩
    ·have hr88 := if_n hb86 hr85
     refine gt' hb86 rfl (ldA G64 Z64 rfl rfl (sS 1 rfl hK33) rfl (gt' hb86 rfl (bS (cs := [.string (bs [76, 97, 100, 121, 32, 76, 101, 101]), .string (bs [76, 101, 101, 32, 65, 110, 110])]) T11.E50 rfl rfl rfl rfl fun q89 K90 hq91 hK92 => ?_)))
     have hl93 : Sl (Flat encS) 1 K90 (some q89) 2 ([[76, 97, 100, 121, 32, 76, 101, 101], [76, 101, 101, 32, 65, 110, 110]] : List Bytes) := Sl.litR (css := [[.string (bs [76, 97, 100, 121, 32, 76, 101, 101])], [.string (bs [76, 101, 101, 32, 65, 110, 110])]]) (l := ([[76, 97, 100, 121, 32, 76, 101, 101], [76, 101, 101, 32, 65, 110, 110]] : List Bytes)) ⟨⟨rfl, rfl, rfl⟩, ⟨rfl, rfl, rfl⟩, tv⟩ hq91 hK92 rfl
     have := hl93.len
     refine gt' hb86 rfl (bu (cs := [.int .i64 3, .int .i64 7, .int .i64 7]) T11.B81 rfl rfl rfl (gt' hb86 rfl (bu (cs := [.int .i64 9, .int .i64 1, .int .i64 2]) T11.B81 rfl rfl rfl (gt' hb86 rfl (bS (cs := [.int .i64 3, .int .i64 7, .int .i64 7, .int .i64 9, .int .i64 1, .int .i64 2]) T11.E62 rfl rfl rfl rfl fun q94 K95 hq96 hK97 => ?_)))))
     have hl98 : Sl (Flat encPlace) 3 K95 (some q94) 2 ([(⟨3, 7, 7⟩ : Place), (⟨9, 1, 2⟩ : Place)] : List Place) := Sl.litR (css := [[.int .i64 3, .int .i64 7, .int .i64 7], [.int .i64 9, .int .i64 1, .int .i64 2]]) (l := ([(⟨3, 7, 7⟩ : Place), (⟨9, 1, 2⟩ : Place)] : List Place)) ⟨⟨rfl, rfl, rfl⟩, ⟨rfl, rfl, rfl⟩, tv⟩ hq96 hK97 rfl
     have := hl98.len
     refine gt' hb86 rfl (bu (cs := [.string (bs [65, 32, 76, 101, 101]), .slice (some q89) 2 2, .slice none 0 0, .slice (some q94) 2 2]) T11.B64 rfl rfl rfl (gt' hb86 rfl ?_))
     obtain ⟨r99, hx100, hr101⟩ := bd_some hr88
     refine clS C40 rfl rfl rfl rfl (fun w H hH le => w40 hH r15.1 (RHeading.mono _ _ _ _ (le.at 4 rfl) hr21) (⟨[65, 32, 76, 101, 101], ([[76, 97, 100, 121, 32, 76, 101, 101], [76, 101, 101, 32, 65, 110, 110]] : List Bytes), ([] : List Bytes), ([(⟨3, 7, 7⟩ : Place), (⟨9, 1, 2⟩ : Place)] : List Place)⟩ : Heading) ⟨_, _, _, _, _, _, rfl, (hl93.mono (Flat.mono _) (le.at 1 rfl)), (Sl.nil _ _ _ _ _ (by decide)), (hl98.mono (Flat.mono _) (le.at 0 rfl))⟩ hx100) (gt' hb86 rfl (nt rfl rfl (pf hb86 rfl rfl (m1 rfl ?_))))
     rcases Bool.eq_false_or_eq_true (r99) with hb102 | hb102
     ·have hr103 := if_p hb102 hr101
      refine gN rfl rfl (congrArg not (hb102)) (m1 rfl (gN rfl rfl (congrArg not (hb102)) (neI rfl rfl rfl (pF rfl rfl (congrArg not (hb102)) rfl (m1 rfl ?_)))))
      by_cases hb104 : r34.2 ≠ 0
      ·have hr105 := if_p hb104 hr103
       refine gf' hb104 rfl (gf' hb104 rfl (gf' hb104 rfl (gf' hb104 rfl (pt hb104 rfl rfl (on ?_)))))
       cases hr105
       intro a w hS hA
       exact ⟨hS.selH [2, 3, 4, 5, 6, 7] rfl, hA.cut ⟨rfl, rfl, tv⟩⟩
      ·have hr106 := if_n hb104 hr103
       refine gt' hb104 rfl (m1 rfl (gt' hb104 rfl (bS (cs := [.string (bs [67, 111, 114, 110, 32, 76, 97, 119, 115]), .string (bs [84, 114, 97, 100, 101])]) T11.E50 rfl rfl rfl rfl fun q107 K108 hq109 hK110 => ?_)))
       have hl111 : Sl (Flat encS) 1 K108 (some q107) 2 ([[67, 111, 114, 110, 32, 76, 97, 119, 115], [84, 114, 97, 100, 101]] : List Bytes) := Sl.litR (css := [[.string (bs [67, 111, 114, 110, 32, 76, 97, 119, 115])], [.string (bs [84, 114, 97, 100, 101])]]) (l := ([[67, 111, 114, 110, 32, 76, 97, 119, 115], [84, 114, 97, 100, 101]] : List Bytes)) ⟨⟨rfl, rfl, rfl⟩, ⟨rfl, rfl, rfl⟩, tv⟩ hq109 hK110 rfl
       have := hl111.len
       refine gt' hb104 rfl ?_
       obtain ⟨r112, hx113, hr114⟩ := bd_some hr106
       refine clS C44 rfl rfl rfl rfl (fun w H hH le => w44 hH (hl40.mono (Flat.mono _) (le.at 3 rfl)) (hl111.mono (Flat.mono _) (le.at 0 rfl)) hx113) (gt' hb104 rfl (nt rfl rfl (pf hb104 rfl rfl (on ?_))))
       cases hr114
       intro a w hS hA
       exact ⟨hS.selH [3, 4, 5, 6, 7, 8] rfl, hA.cut ⟨rfl, rfl, tv⟩⟩
     ·have hr115 := if_f hb102 hr101
      refine gF rfl rfl (congrArg not (hb102)) rfl (gF rfl rfl (congrArg not (hb102)) rfl (pT rfl rfl (congrArg not (hb102)) rfl (m1 rfl (gF rfl rfl rfl rfl (gF rfl rfl rfl rfl (gF rfl rfl rfl rfl (gF rfl rfl rfl rfl (pT rfl rfl rfl rfl (on ?_)))))))))
      cases hr115
      intro a w hS hA
      exact ⟨hS.selH [2, 3, 4, 5, 6, 7] rfl, hA.cut ⟨rfl, rfl, tv⟩⟩
 ·rintro a w ⟨hS, hA⟩
  refine TG.ap ?_ hS hA
  refine cb rfl (fun hc119 => ?_) (fun hc119 => ?_)
  ·have hr120 := if_p hc119 hr79
   refine sq (rg (a1 rfl (on (rt_ ?_))))
   cases hr120
   intro a w hS hA
   refine ret1 hA rfl rfl ?_
   exact ⟨rfl, hS.ext⟩
  ·have hr121 := if_f hc119 hr79
   refine sk (sq (rg (m1 rfl ?_)))
   obtain ⟨r122, hx123, hr124⟩ := bd_some hr121
   refine clK C39 rfl rfl rfl rfl (fun w H hH le => w39 hH (hg.mono (le.at 5 rfl)) (hl14.mono (RHeading.mono) (le.at 3 rfl)) [78, 111, 98, 111, 100, 121] hx123) ?_
   rintro v_ K125 ⟨cs126, rfl, hr127⟩
   have hr128 := hr127
   obtain ⟨ad129, cap130, ad132, cap133, ad135, cap136, rfl, hl131, hl134, hl137⟩ := hr127
   have := hl131.len
   have := hl134.len
   have := hl137.len
   refine m1 rfl (ex rfl rfl rfl (ex rfl rfl rfl (va (cs := [.string (bs r122.1.name), .slice ad129 r122.1.variants.length cap130, .slice ad132 r122.1.also.length cap133, .slice ad135 r122.1.places.length cap136]) Tryz.zeroValue64 Z64 rfl rfl rfl rfl rfl rfl rfl rfl fun q138 K139 hK140 => (a1 rfl (on (sq (rg (m1 rfl ?_))))))))
   obtain ⟨r141, hx142, hr143⟩ := bd_some hr124
   refine clK C33 rfl rfl rfl rfl (fun w H hH le => w33 hH (hg.mono (le.at 7 rfl)) (hl14.mono (RHeading.mono) (le.at 5 rfl)) 0 1 hx142) ?_
   rintro v_ K144 ⟨ad145, cap146, rfl, hl147⟩
   have := hl147.len
   refine m1 rfl (ex rfl rfl rfl (ex rfl rfl rfl (a1 rfl (a1 rfl (on (sq (rg (m1 rfl ?_))))))))
   obtain ⟨r148, hx149, hr150⟩ := bd_some hr143
   refine clK C45 rfl rfl rfl rfl (fun w H hH le => w45 hH (hg.mono (le.at 8 rfl)) (hl14.mono (RHeading.mono) (le.at 6 rfl)) [78, 111, 98, 111, 100, 121] (-1) hx149) ?_
   rintro v_ K151 ⟨ad152, cap153, rfl, hl154⟩
   have := hl154.len
   refine m1 rfl (ex rfl rfl rfl (ex rfl rfl rfl (a1 rfl (a1 rfl (on (sq (rg ?_)))))))
   obtain ⟨hk155, hr156⟩ := chk_some hr150
   refine mkSR ([] : List Heading) 0 rfl (R := RSl RHeading 4) (RSl.mono (RHeading.mono)) T11.E30 rfl rfl rfl (fun _ => ⟨_, _, rfl, (Sl.nil _ _ _ _ _ (by decide))⟩) rfl rfl rfl rfl hk155 fun ad157 cap158 K159 hl160 => ?_
   have := hl160.len
   obtain ⟨r161, hx162, hr163⟩ := bd_some hr156
   refine clK C18 rfl rfl rfl rfl (fun w H hH le => w18 hH (hg.mono (le.at 10 rfl)) (hl160.mono (RSl.mono (RHeading.mono)) (le.at 0 rfl)) hx162) ?_
   rintro v_ K164 ⟨ad165, cap166, rfl, hl167⟩
   have := hl167.len
   refine m1 rfl (ex rfl rfl rfl (ex rfl rfl rfl (a1 rfl (a1 rfl (on (sq (rg (bSC (cs := [.int .u8 65, .int .u8 58, .int .u8 32, .int .u8 49, .int .u8 47, .int .u8 50, .int .u8 44, .int .u8 32, .int .u8 49, .int .u8 47, .int .u8 51, .int .u8 10]) U37 U5 T11.E37 rfl rfl rfl rfl rfl fun q168 K169 hq170 hK171 => ?_))))))))
   have hl172 : Sl (Flat encC) 1 K169 (some q168) 12 ([(65 : UInt8), (58 : UInt8), (32 : UInt8), (49 : UInt8), (47 : UInt8), (50 : UInt8), (44 : UInt8), (32 : UInt8), (49 : UInt8), (47 : UInt8), (51 : UInt8), (10 : UInt8)] : List UInt8) := Sl.litR (css := [[.int .u8 65], [.int .u8 58], [.int .u8 32], [.int .u8 49], [.int .u8 47], [.int .u8 50], [.int .u8 44], [.int .u8 32], [.int .u8 49], [.int .u8 47], [.int .u8 51], [.int .u8 10]]) (l := ([(65 : UInt8), (58 : UInt8), (32 : UInt8), (49 : UInt8), (47 : UInt8), (50 : UInt8), (44 : UInt8), (32 : UInt8), (49 : UInt8), (47 : UInt8), (51 : UInt8), (10 : UInt8)] : List UInt8)) ⟨⟨rfl, rfl, rfl⟩, ⟨rfl, rfl, rfl⟩, ⟨rfl, rfl, rfl⟩, ⟨rfl, rfl, rfl⟩, ⟨rfl, rfl, rfl⟩, ⟨rfl, rfl, rfl⟩, ⟨rfl, rfl, rfl⟩, ⟨rfl, rfl, rfl⟩, ⟨rfl, rfl, rfl⟩, ⟨rfl, rfl, rfl⟩, ⟨rfl, rfl, rfl⟩, ⟨rfl, rfl, rfl⟩, tv⟩ hq170 hK171 rfl
   have := hl172.len
   obtain ⟨r173, hx174, hr175⟩ := bd_some hr163
   refine clK C28 rfl rfl rfl rfl (fun w H hH le => w28 hH (hg.mono (le.at 12 rfl)) (hl172.mono (Flat.mono _) (le.at 0 rfl)) hx174) ?_
   rintro v_ K176 ⟨ad177, cap178, rfl, hl179⟩
   have := hl179.len
   refine m1 rfl (ex rfl rfl rfl (ex rfl rfl rfl (a1 rfl (a1 rfl (on (sq (rg ?_)))))))
   obtain ⟨hk180, hr181⟩ := chk_some hr175
   have : (List.replicate 200001 (0 : UInt8)).length = 200001 := List.length_replicate
   refine mkL 1 encC (0 : UInt8) T11.E37 rfl rfl rfl rfl rfl rfl rfl hk180 fun b182 => (TG.still 1 rfl (fun _ => rfl) fun K183 hl184 => ?_)
   have := hl184.len
   obtain ⟨r185, hx186, hr187⟩ := bd_some hr181
   refine clK C28 rfl rfl rfl rfl (fun w H hH le => w28 hH (hg.mono (le.at 14 rfl)) (hl184.mono (Flat.mono _) (le.at 0 rfl)) hx186) ?_
   rintro v_ K188 ⟨ad189, cap190, rfl, hl191⟩
   have := hl191.len
   refine m1 rfl (ex rfl rfl rfl (ex rfl rfl rfl (a1 rfl (a1 rfl (on (sq (rg (bSC (cs := [.int .u8 65, .int .u8 58, .int .u8 32, .int .u8 49, .int .u8 47, .int .u8 48, .int .u8 50, .int .u8 10]) U37 U5 T11.E37 rfl rfl rfl rfl rfl fun q192 K193 hq194 hK195 => ?_))))))))
   have hl196 : Sl (Flat encC) 1 K193 (some q192) 8 ([(65 : UInt8), (58 : UInt8), (32 : UInt8), (49 : UInt8), (47 : UInt8), (48 : UInt8), (50 : UInt8), (10 : UInt8)] : List UInt8) := Sl.litR (css := [[.int .u8 65], [.int .u8 58], [.int .u8 32], [.int .u8 49], [.int .u8 47], [.int .u8 48], [.int .u8 50], [.int .u8 10]]) (l := ([(65 : UInt8), (58 : UInt8), (32 : UInt8), (49 : UInt8), (47 : UInt8), (48 : UInt8), (50 : UInt8), (10 : UInt8)] : List UInt8)) ⟨⟨rfl, rfl, rfl⟩, ⟨rfl, rfl, rfl⟩, ⟨rfl, rfl, rfl⟩, ⟨rfl, rfl, rfl⟩, ⟨rfl, rfl, rfl⟩, ⟨rfl, rfl, rfl⟩, ⟨rfl, rfl, rfl⟩, ⟨rfl, rfl, rfl⟩, tv⟩ hq194 hK195 rfl
   have := hl196.len
   obtain ⟨r197, hx198, hr199⟩ := bd_some hr187
   refine clK C28 rfl rfl rfl rfl (fun w H hH le => w28 hH (hg.mono (le.at 16 rfl)) (hl196.mono (Flat.mono _) (le.at 0 rfl)) hx198) ?_
   rintro v_ K200 ⟨ad201, cap202, rfl, hl203⟩
   have := hl203.len
   refine m1 rfl (ex rfl rfl rfl (ex rfl rfl rfl (a1 rfl (a1 rfl (on (sq (rg ?_)))))))
   obtain ⟨r204, hx205, hr206⟩ := bd_some hr199
   refine clK C28 rfl rfl rfl rfl (fun w H hH le => w28 hH (hg.mono (le.at 17 rfl)) (b_0 := []) (Sl.nil _ _ _ _ _ (by decide)) hx205) ?_
   rintro v_ K207 ⟨ad208, cap209, rfl, hl210⟩
   have := hl210.len
   refine m1 rfl (ex rfl rfl rfl (ex rfl rfl rfl (a1 rfl (a1 rfl (on (sq (rg (bu (cs := [.string (bs [66]), .slice none 0 0, .slice none 0 0, .slice none 0 0]) T11.B64 rfl rfl rfl (bu (cs := [.string (bs [65]), .slice none 0 0, .slice none 0 0, .slice none 0 0]) T11.B64 rfl rfl rfl (bS (cs := [.string (bs [66]), .slice none 0 0, .slice none 0 0, .slice none 0 0, .string (bs [65]), .slice none 0 0, .slice none 0 0, .slice none 0 0]) T11.E26 rfl rfl rfl rfl fun q211 K212 hq213 hK214 => (TG.pack (fun K => Sl (RHeading) 4 K (some q211) 2 ([(⟨[66], ([] : List Bytes), ([] : List Bytes), ([] : List Place)⟩ : Heading), (⟨[65], ([] : List Bytes), ([] : List Bytes), ([] : List Place)⟩ : Heading)] : List Heading)) (fun H le => Sl.litR (css := [[.string (bs [66]), .slice none 0 0, .slice none 0 0, .slice none 0 0], [.string (bs [65]), .slice none 0 0, .slice none 0 0, .slice none 0 0]]) (l := ([(⟨[66], ([] : List Bytes), ([] : List Bytes), ([] : List Place)⟩ : Heading), (⟨[65], ([] : List Bytes), ([] : List Bytes), ([] : List Place)⟩ : Heading)] : List Heading)) ⟨⟨rfl, rfl, ⟨_, _, _, _, _, _, rfl, (Sl.nil _ _ _ _ _ (by decide)), (Sl.nil _ _ _ _ _ (by decide)), (Sl.nil _ _ _ _ _ (by decide))⟩⟩, ⟨rfl, rfl, ⟨_, _, _, _, _, _, rfl, (Sl.nil _ _ _ _ _ (by decide)), (Sl.nil _ _ _ _ _ (by decide)), (Sl.nil _ _ _ _ _ (by decide))⟩⟩, tv⟩ hq213 (hK214.mono (le.at 0 rfl)) rfl) fun K216 hl215 => ?_)))))))))))
   have := hl215.len
   obtain ⟨r217, hx218, hr219⟩ := bd_some hr206
   refine clS C34 rfl rfl rfl rfl (fun w H hH le => w34 hH (hg.mono (le.at 20 rfl)) (hl215.mono (RHeading.mono) (le.at 0 rfl)) hx218) (a1 rfl (on (sq (rg (bS (cs := [.string (bs [65])]) T11.E50 rfl rfl rfl rfl fun q220 K221 hq222 hK223 => ?_)))))
   have hl224 : Sl (Flat encS) 1 K221 (some q220) 1 ([[65]] : List Bytes) := Sl.litR (css := [[.string (bs [65])]]) (l := ([[65]] : List Bytes)) ⟨⟨rfl, rfl, rfl⟩, tv⟩ hq222 hK223 rfl
   have := hl224.len
   refine bu (cs := [.string (bs [65]), .slice (some q220) 1 1, .slice none 0 0, .slice none 0 0]) T11.B64 rfl rfl rfl (bS (cs := [.string (bs [65]), .slice (some q220) 1 1, .slice none 0 0, .slice none 0 0]) T11.E26 rfl rfl rfl rfl fun q225 K226 hq227 hK228 => (TG.pack (fun K => Sl (RHeading) 4 K (some q225) 1 ([(⟨[65], ([[65]] : List Bytes), ([] : List Bytes), ([] : List Place)⟩ : Heading)] : List Heading)) (fun H le => Sl.litR (css := [[.string (bs [65]), .slice (some q220) 1 1, .slice none 0 0, .slice none 0 0]]) (l := ([(⟨[65], ([[65]] : List Bytes), ([] : List Bytes), ([] : List Place)⟩ : Heading)] : List Heading)) ⟨⟨rfl, rfl, ⟨_, _, _, _, _, _, rfl, (hl224.mono (Flat.mono _) (le.at 1 rfl)), (Sl.nil _ _ _ _ _ (by decide)), (Sl.nil _ _ _ _ _ (by decide))⟩⟩, tv⟩ hq227 (hK228.mono (le.at 0 rfl)) rfl) fun K230 hl229 => ?_))
   have := hl229.len
   obtain ⟨r231, hx232, hr233⟩ := bd_some hr219
   refine clS C34 rfl rfl rfl rfl (fun w H hH le => w34 hH (hg.mono (le.at 23 rfl)) (hl229.mono (RHeading.mono) (le.at 0 rfl)) hx232) (a1 rfl (on (sq (rg (bS (cs := [.string (bs [65])]) T11.E50 rfl rfl rfl rfl fun q234 K235 hq236 hK237 => ?_)))))
   have hl238 : Sl (Flat encS) 1 K235 (some q234) 1 ([[65]] : List Bytes) := Sl.litR (css := [[.string (bs [65])]]) (l := ([[65]] : List Bytes)) ⟨⟨rfl, rfl, rfl⟩, tv⟩ hq236 hK237 rfl
   have := hl238.len
   refine bu (cs := [.string (bs [65]), .slice none 0 0, .slice (some q234) 1 1, .slice none 0 0]) T11.B64 rfl rfl rfl (bS (cs := [.string (bs [65]), .slice none 0 0, .slice (some q234) 1 1, .slice none 0 0]) T11.E26 rfl rfl rfl rfl fun q239 K240 hq241 hK242 => (TG.pack (fun K => Sl (RHeading) 4 K (some q239) 1 ([(⟨[65], ([] : List Bytes), ([[65]] : List Bytes), ([] : List Place)⟩ : Heading)] : List Heading)) (fun H le => Sl.litR (css := [[.string (bs [65]), .slice none 0 0, .slice (some q234) 1 1, .slice none 0 0]]) (l := ([(⟨[65], ([] : List Bytes), ([[65]] : List Bytes), ([] : List Place)⟩ : Heading)] : List Heading)) ⟨⟨rfl, rfl, ⟨_, _, _, _, _, _, rfl, (Sl.nil _ _ _ _ _ (by decide)), (hl238.mono (Flat.mono _) (le.at 1 rfl)), (Sl.nil _ _ _ _ _ (by decide))⟩⟩, tv⟩ hq241 (hK242.mono (le.at 0 rfl)) rfl) fun K244 hl243 => ?_))
   have := hl243.len
   obtain ⟨r245, hx246, hr247⟩ := bd_some hr233
   refine clS C34 rfl rfl rfl rfl (fun w H hH le => w34 hH (hg.mono (le.at 26 rfl)) (hl243.mono (RHeading.mono) (le.at 0 rfl)) hx246) (a1 rfl (on (sq ?_)))
   obtain ⟨t317, hx318, hr319⟩ := bd_some hr247
   refine jn (fun a w => St M W H [K244, K240, K235, K230, K226, K221, K216, K212, K207, K200, K193, K188, K183, K176, K169, K164, K159, K151, K144, K139, K125, K37, K32, K18, K11, K4, H] [] w ∧ Has [] 190 a [(0, .bool t317)]) ?_ ?_
   ·refine rg (m1 rfl (eqI rfl rfl rfl (m1 rfl ?_)))
    by_cases hb320 : r122.2 = 7
    ·have hr321 := if_p hb320 hx318
     refine gt hb320 rfl (m1 rfl (gt hb320 rfl (eqI rfl rfl rfl (pt hb320 rfl rfl (m1 rfl ?_)))))
     by_cases hb322 : r141.2 = 2
     ·have hr323 := if_p hb322 hr321
      refine gt hb322 rfl (m1 rfl (gt hb322 rfl (eqI rfl rfl rfl (pt hb322 rfl rfl (m1 rfl ?_)))))
      by_cases hb324 : r148.2 = 2
      ·have hr325 := if_p hb324 hr323
       refine gt hb324 rfl (m1 rfl (gt hb324 rfl (eqI rfl rfl rfl (pt hb324 rfl rfl (m1 rfl ?_)))))
       by_cases hb326 : r161.2 = 3
       ·have hr327 := if_p hb326 hr325
        refine gt hb326 rfl (m1 rfl (gt hb326 rfl (eqI rfl rfl rfl (pt hb326 rfl rfl (m1 rfl ?_)))))
        by_cases hb328 : r173.2 = 4
        ·have hr329 := if_p hb328 hr327
         refine gt hb328 rfl (m1 rfl (gt hb328 rfl (eqI rfl rfl rfl (pt hb328 rfl rfl (m1 rfl ?_)))))
         by_cases hb330 : r185.2 = 3
         ·have hr331 := if_p hb330 hr329
          refine gt hb330 rfl (m1 rfl (gt hb330 rfl (eqI rfl rfl rfl (pt hb330 rfl rfl (m1 rfl ?_)))))
          by_cases hb332 : r197.2 = 4
          ·have hr333 := if_p hb332 hr331
           refine gt hb332 rfl (m1 rfl (gt hb332 rfl (lnL U26 rfl rfl (gt hb332 rfl (eqI rfl rfl rfl (pt hb332 rfl rfl (m1 rfl ?_)))))))
           by_cases hb334 : (r204.1.length : Int) = 0
           ·have hr335 := if_p hb334 hr333
            refine gt hb334 rfl (m1 rfl (gt hb334 rfl (eqI rfl rfl rfl (pt hb334 rfl rfl (m1 rfl ?_)))))
            by_cases hb336 : r204.2 = 0
            ·have hr337 := if_p hb336 hr335
             refine gt hb336 rfl (m1 rfl (gt hb336 rfl (eqI rfl rfl rfl (pt hb336 rfl rfl (m1 rfl ?_)))))
             by_cases hb338 : r217 = 1
             ·have hr339 := if_p hb338 hr337
              refine gt hb338 rfl (m1 rfl (gt hb338 rfl (eqI rfl rfl rfl (pt hb338 rfl rfl (m1 rfl ?_)))))
              by_cases hb340 : r231 = 6
              ·have hr341 := if_p hb340 hr339
               refine gt hb340 rfl (m1 rfl (gt hb340 rfl (eqI rfl rfl rfl (pt hb340 rfl rfl (m1 rfl ?_)))))
               by_cases hb342 : r245 = 1
               ·have hr343 := if_p hb342 hr341
                refine gt hb342 rfl ?_
                obtain ⟨hk344, hr345⟩ := chk_some hr343
                refine mkSR (⟨[], ([] : List Bytes), ([] : List Bytes), ([] : List Place)⟩ : Heading) 0 rfl (R := RHeading) (RHeading.mono) T11.E26 rfl rfl rfl (fun _ => ⟨_, _, _, _, _, _, rfl, (Sl.nil _ _ _ _ _ (by decide)), (Sl.nil _ _ _ _ _ (by decide)), (Sl.nil _ _ _ _ _ (by decide))⟩) rfl rfl rfl rfl hk344 fun ad346 cap347 K348 hl349 => ?_
                have := hl349.len
                refine gt hb342 rfl ?_
                obtain ⟨r350, hx351, hr352⟩ := bd_some hr345
                refine clS C34 rfl rfl rfl rfl (fun w H hH le => w34 hH (hg.mono (le.at 27 rfl)) (hl349.mono (RHeading.mono) (le.at 0 rfl)) hx351) (gt hb342 rfl (eqI rfl rfl rfl (pt hb342 rfl rfl (m1 rfl ?_))))
                by_cases hb353 : r350 = 3
                ·have hr354 := if_p hb353 hr352
                 refine gt hb353 rfl ?_
                 obtain ⟨r355, hx356, hr357⟩ := bd_some hr354
                 refine clS C32 rfl rfl rfl rfl (fun w H hH le => w32 [67, 111, 114, 110, 32, 76, 97, 119, 115] [67, 111, 114, 110, 32, 108, 97, 119, 115] hx356) (pt hb353 rfl rfl (m1 rfl ?_))
                 rcases Bool.eq_false_or_eq_true (r355) with hb358 | hb358
                 ·have hr359 := if_p hb358 hr357
                  refine gN rfl rfl (hb358) ?_
                  obtain ⟨r360, hx361, hr362⟩ := bd_some hr359
                  refine clS C32 rfl rfl rfl rfl (fun w H hH le => w32 [67, 111, 114, 110, 32, 108, 97, 119, 115] [67, 111, 114, 110, 76, 97, 119, 122] hx361) (pT rfl rfl (hb358) rfl (m1 rfl ?_))
                  rcases Bool.eq_false_or_eq_true (r360) with hb363 | hb363
                  ·have hr364 := if_p hb363 hr362
                   refine gN rfl rfl (hb363) ?_
                   obtain ⟨r365, hx366, hr367⟩ := bd_some hr364
                   refine clS C32 rfl rfl rfl rfl (fun w H hH le => w32 [76, 101, 101, 32, 65, 110, 110] [65, 32, 76, 101, 101] hx366) (gN rfl rfl (hb363) (nt rfl rfl (pT rfl rfl (hb363) rfl (m1 rfl ?_))))
                   rcases Bool.eq_false_or_eq_true (r365) with hb368 | hb368
                   ·have hr369 := if_p hb368 hr367
                    refine gF rfl rfl (congrArg not (hb368)) rfl (pF rfl rfl (congrArg not (hb368)) rfl (a1 rfl (on ?_)))
                    cases hr369
                    intro a w hS hA
                    exact ⟨hS.selH [1, 2, 3, 4, 5, 6, 7, 8, 9, 10, 11, 12, 13, 14, 15, 16, 17, 18, 19, 20, 21, 22, 23, 24, 25, 26, 27] rfl, hA.cut ⟨rfl, tv⟩⟩
                   ·have hr370 := if_f hb368 hr367
                    refine gN rfl rfl (congrArg not (hb368)) ?_
                    obtain ⟨r371, hx372, hr373⟩ := bd_some hr370
                    refine clS C16 rfl rfl rfl rfl (fun w H hH le => w16 hH (hg.mono (le.at 27 rfl))  hx372) (pT rfl rfl (congrArg not (hb368)) rfl (a1 rfl (on ?_)))
                    cases hr373
                    intro a w hS hA
                    exact ⟨hS.selH [1, 2, 3, 4, 5, 6, 7, 8, 9, 10, 11, 12, 13, 14, 15, 16, 17, 18, 19, 20, 21, 22, 23, 24, 25, 26, 27] rfl, hA.cut ⟨rfl, tv⟩⟩
                  ·have hr374 := if_f hb363 hr362
                   refine gF rfl rfl (hb363) rfl (gF rfl rfl (hb363) rfl (pF rfl rfl (hb363) rfl (m1 rfl (gF rfl rfl rfl rfl (pF rfl rfl rfl rfl (a1 rfl (on ?_)))))))
                   cases hr374
                   intro a w hS hA
                   exact ⟨hS.selH [1, 2, 3, 4, 5, 6, 7, 8, 9, 10, 11, 12, 13, 14, 15, 16, 17, 18, 19, 20, 21, 22, 23, 24, 25, 26, 27] rfl, hA.cut ⟨rfl, tv⟩⟩
                 ·have hr375 := if_f hb358 hr357
                  refine gF rfl rfl (hb358) rfl (pF rfl rfl (hb358) rfl (m1 rfl (gF rfl rfl rfl rfl (gF rfl rfl rfl rfl (pF rfl rfl rfl rfl (m1 rfl (gF rfl rfl rfl rfl (pF rfl rfl rfl rfl (a1 rfl (on ?_))))))))))
                  cases hr375
                  intro a w hS hA
                  exact ⟨hS.selH [1, 2, 3, 4, 5, 6, 7, 8, 9, 10, 11, 12, 13, 14, 15, 16, 17, 18, 19, 20, 21, 22, 23, 24, 25, 26, 27] rfl, hA.cut ⟨rfl, tv⟩⟩
                ·have hr376 := if_n hb353 hr352
                 refine gf hb353 rfl (pf hb353 rfl rfl (m1 rfl (gF rfl rfl rfl rfl (pF rfl rfl rfl rfl (m1 rfl (gF rfl rfl rfl rfl (gF rfl rfl rfl rfl (pF rfl rfl rfl rfl (m1 rfl (gF rfl rfl rfl rfl (pF rfl rfl rfl rfl ?_)))))))))))
                 refine a1 rfl (on ?_)
                 cases hr376
                 intro a w hS hA
                 exact ⟨hS.selH [1, 2, 3, 4, 5, 6, 7, 8, 9, 10, 11, 12, 13, 14, 15, 16, 17, 18, 19, 20, 21, 22, 23, 24, 25, 26, 27] rfl, hA.cut ⟨rfl, tv⟩⟩
               ·have hr377 := if_n hb342 hr341
                refine gf hb342 rfl (gf hb342 rfl (gf hb342 rfl (pf hb342 rfl rfl (m1 rfl (gF rfl rfl rfl rfl (pF rfl rfl rfl rfl (m1 rfl (gF rfl rfl rfl rfl (pF rfl rfl rfl rfl (m1 rfl (gF rfl rfl rfl rfl ?_)))))))))))
                refine gF rfl rfl rfl rfl (pF rfl rfl rfl rfl (m1 rfl (gF rfl rfl rfl rfl (pF rfl rfl rfl rfl (a1 rfl (on ?_))))))
                cases hr377
                exact cu ⟨rfl, tv⟩
              ·have hr378 := if_n hb340 hr339
               refine gf hb340 rfl (gf hb340 rfl (pf hb340 rfl rfl (m1 rfl (gF rfl rfl rfl rfl (gF rfl rfl rfl rfl (gF rfl rfl rfl rfl (pF rfl rfl rfl rfl (m1 rfl (gF rfl rfl rfl rfl (pF rfl rfl rfl rfl (m1 rfl ?_)))))))))))
               refine gF rfl rfl rfl rfl (pF rfl rfl rfl rfl (m1 rfl (gF rfl rfl rfl rfl (gF rfl rfl rfl rfl (pF rfl rfl rfl rfl (m1 rfl (gF rfl rfl rfl rfl (pF rfl rfl rfl rfl (a1 rfl (on ?_))))))))))
               cases hr378
               exact cu ⟨rfl, tv⟩
             ·have hr379 := if_n hb338 hr337
              refine gf hb338 rfl (gf hb338 rfl (pf hb338 rfl rfl (m1 rfl (gF rfl rfl rfl rfl (gF rfl rfl rfl rfl (pF rfl rfl rfl rfl (m1 rfl (gF rfl rfl rfl rfl (gF rfl rfl rfl rfl (gF rfl rfl rfl rfl (pF rfl rfl rfl rfl ?_)))))))))))
              refine m1 rfl (gF rfl rfl rfl rfl (pF rfl rfl rfl rfl (m1 rfl (gF rfl rfl rfl rfl (pF rfl rfl rfl rfl (m1 rfl (gF rfl rfl rfl rfl (gF rfl rfl rfl rfl (pF rfl rfl rfl rfl (m1 rfl (gF rfl rfl rfl rfl ?_)))))))))))
              refine pF rfl rfl rfl rfl (a1 rfl (on ?_))
              cases hr379
              exact cu ⟨rfl, tv⟩
            ·have hr380 := if_n hb336 hr335
             refine gf hb336 rfl (gf hb336 rfl (pf hb336 rfl rfl (m1 rfl (gF rfl rfl rfl rfl (gF rfl rfl rfl rfl (pF rfl rfl rfl rfl (m1 rfl (gF rfl rfl rfl rfl (gF rfl rfl rfl rfl (pF rfl rfl rfl rfl (m1 rfl ?_)))))))))))
             refine gF rfl rfl rfl rfl (gF rfl rfl rfl rfl (gF rfl rfl rfl rfl (pF rfl rfl rfl rfl (m1 rfl (gF rfl rfl rfl rfl (pF rfl rfl rfl rfl (m1 rfl (gF rfl rfl rfl rfl (pF rfl rfl rfl rfl (m1 rfl (gF rfl rfl rfl rfl ?_)))))))))))
             refine gF rfl rfl rfl rfl (pF rfl rfl rfl rfl (m1 rfl (gF rfl rfl rfl rfl (pF rfl rfl rfl rfl (a1 rfl (on ?_))))))
             cases hr380
             exact cu ⟨rfl, tv⟩
           ·have hr381 := if_n hb334 hr333
            refine gf hb334 rfl (gf hb334 rfl (pf hb334 rfl rfl (m1 rfl (gF rfl rfl rfl rfl (gF rfl rfl rfl rfl (pF rfl rfl rfl rfl (m1 rfl (gF rfl rfl rfl rfl (gF rfl rfl rfl rfl (pF rfl rfl rfl rfl (m1 rfl ?_)))))))))))
            refine gF rfl rfl rfl rfl (gF rfl rfl rfl rfl (pF rfl rfl rfl rfl (m1 rfl (gF rfl rfl rfl rfl (gF rfl rfl rfl rfl (gF rfl rfl rfl rfl (pF rfl rfl rfl rfl (m1 rfl (gF rfl rfl rfl rfl (pF rfl rfl rfl rfl (m1 rfl ?_)))))))))))
            refine gF rfl rfl rfl rfl (pF rfl rfl rfl rfl (m1 rfl (gF rfl rfl rfl rfl (gF rfl rfl rfl rfl (pF rfl rfl rfl rfl (m1 rfl (gF rfl rfl rfl rfl (pF rfl rfl rfl rfl (a1 rfl (on ?_))))))))))
            cases hr381
            exact cu ⟨rfl, tv⟩
          ·have hr382 := if_n hb332 hr331
           refine gf hb332 rfl (gf hb332 rfl (gf hb332 rfl (pf hb332 rfl rfl (m1 rfl (gF rfl rfl rfl rfl (gF rfl rfl rfl rfl (pF rfl rfl rfl rfl (m1 rfl (gF rfl rfl rfl rfl (gF rfl rfl rfl rfl (pF rfl rfl rfl rfl ?_)))))))))))
           refine m1 rfl (gF rfl rfl rfl rfl (gF rfl rfl rfl rfl (pF rfl rfl rfl rfl (m1 rfl (gF rfl rfl rfl rfl (gF rfl rfl rfl rfl (pF rfl rfl rfl rfl (m1 rfl (gF rfl rfl rfl rfl (gF rfl rfl rfl rfl (gF rfl rfl rfl rfl ?_)))))))))))
           refine pF rfl rfl rfl rfl (m1 rfl (gF rfl rfl rfl rfl (pF rfl rfl rfl rfl (m1 rfl (gF rfl rfl rfl rfl (pF rfl rfl rfl rfl (m1 rfl (gF rfl rfl rfl rfl (gF rfl rfl rfl rfl (pF rfl rfl rfl rfl (m1 rfl ?_)))))))))))
           refine gF rfl rfl rfl rfl (pF rfl rfl rfl rfl (a1 rfl (on ?_)))
           cases hr382
           exact cu ⟨rfl, tv⟩
         ·have hr383 := if_n hb330 hr329
          refine gf hb330 rfl (gf hb330 rfl (pf hb330 rfl rfl (m1 rfl (gF rfl rfl rfl rfl (gF rfl rfl rfl rfl (gF rfl rfl rfl rfl (pF rfl rfl rfl rfl (m1 rfl (gF rfl rfl rfl rfl (gF rfl rfl rfl rfl (pF rfl rfl rfl rfl ?_)))))))))))
          refine m1 rfl (gF rfl rfl rfl rfl (gF rfl rfl rfl rfl (pF rfl rfl rfl rfl (m1 rfl (gF rfl rfl rfl rfl (gF rfl rfl rfl rfl (pF rfl rfl rfl rfl (m1 rfl (gF rfl rfl rfl rfl (gF rfl rfl rfl rfl (pF rfl rfl rfl rfl ?_)))))))))))
          refine m1 rfl (gF rfl rfl rfl rfl (gF rfl rfl rfl rfl (gF rfl rfl rfl rfl (pF rfl rfl rfl rfl (m1 rfl (gF rfl rfl rfl rfl (pF rfl rfl rfl rfl (m1 rfl (gF rfl rfl rfl rfl (pF rfl rfl rfl rfl (m1 rfl ?_)))))))))))
          refine gF rfl rfl rfl rfl (gF rfl rfl rfl rfl (pF rfl rfl rfl rfl (m1 rfl (gF rfl rfl rfl rfl (pF rfl rfl rfl rfl (a1 rfl (on ?_)))))))
          cases hr383
          exact cu ⟨rfl, tv⟩
        ·have hr384 := if_n hb328 hr327
         refine gf hb328 rfl (gf hb328 rfl (pf hb328 rfl rfl (m1 rfl (gF rfl rfl rfl rfl (gF rfl rfl rfl rfl (pF rfl rfl rfl rfl (m1 rfl (gF rfl rfl rfl rfl (gF rfl rfl rfl rfl (gF rfl rfl rfl rfl (pF rfl rfl rfl rfl ?_)))))))))))
         refine m1 rfl (gF rfl rfl rfl rfl (gF rfl rfl rfl rfl (pF rfl rfl rfl rfl (m1 rfl (gF rfl rfl rfl rfl (gF rfl rfl rfl rfl (pF rfl rfl rfl rfl (m1 rfl (gF rfl rfl rfl rfl (gF rfl rfl rfl rfl (pF rfl rfl rfl rfl ?_)))))))))))
         refine m1 rfl (gF rfl rfl rfl rfl (gF rfl rfl rfl rfl (pF rfl rfl rfl rfl (m1 rfl (gF rfl rfl rfl rfl (gF rfl rfl rfl rfl (gF rfl rfl rfl rfl (pF rfl rfl rfl rfl (m1 rfl (gF rfl rfl rfl rfl (pF rfl rfl rfl rfl ?_)))))))))))
         refine m1 rfl (gF rfl rfl rfl rfl (pF rfl rfl rfl rfl (m1 rfl (gF rfl rfl rfl rfl (gF rfl rfl rfl rfl (pF rfl rfl rfl rfl (m1 rfl (gF rfl rfl rfl rfl (pF rfl rfl rfl rfl (a1 rfl (on ?_)))))))))))
         cases hr384
         exact cu ⟨rfl, tv⟩
       ·have hr385 := if_n hb326 hr325
        refine gf hb326 rfl (gf hb326 rfl (pf hb326 rfl rfl (m1 rfl (gF rfl rfl rfl rfl (gF rfl rfl rfl rfl (pF rfl rfl rfl rfl (m1 rfl (gF rfl rfl rfl rfl (gF rfl rfl rfl rfl (pF rfl rfl rfl rfl (m1 rfl ?_)))))))))))
        refine gF rfl rfl rfl rfl (gF rfl rfl rfl rfl (gF rfl rfl rfl rfl (pF rfl rfl rfl rfl (m1 rfl (gF rfl rfl rfl rfl (gF rfl rfl rfl rfl (pF rfl rfl rfl rfl (m1 rfl (gF rfl rfl rfl rfl (gF rfl rfl rfl rfl (pF rfl rfl rfl rfl ?_)))))))))))
        refine m1 rfl (gF rfl rfl rfl rfl (gF rfl rfl rfl rfl (pF rfl rfl rfl rfl (m1 rfl (gF rfl rfl rfl rfl (gF rfl rfl rfl rfl (pF rfl rfl rfl rfl (m1 rfl (gF rfl rfl rfl rfl (gF rfl rfl rfl rfl (gF rfl rfl rfl rfl ?_)))))))))))
        refine pF rfl rfl rfl rfl (m1 rfl (gF rfl rfl rfl rfl (pF rfl rfl rfl rfl (m1 rfl (gF rfl rfl rfl rfl (pF rfl rfl rfl rfl (m1 rfl (gF rfl rfl rfl rfl (gF rfl rfl rfl rfl (pF rfl rfl rfl rfl (m1 rfl ?_)))))))))))
        refine gF rfl rfl rfl rfl (pF rfl rfl rfl rfl (a1 rfl (on ?_)))
        cases hr385
        exact cu ⟨rfl, tv⟩
      ·have hr386 := if_n hb324 hr323
       refine gf hb324 rfl (gf hb324 rfl (pf hb324 rfl rfl (m1 rfl (gF rfl rfl rfl rfl (gF rfl rfl rfl rfl (pF rfl rfl rfl rfl (m1 rfl (gF rfl rfl rfl rfl (gF rfl rfl rfl rfl (pF rfl rfl rfl rfl (m1 rfl ?_)))))))))))
       refine gF rfl rfl rfl rfl (gF rfl rfl rfl rfl (pF rfl rfl rfl rfl (m1 rfl (gF rfl rfl rfl rfl (gF rfl rfl rfl rfl (gF rfl rfl rfl rfl (pF rfl rfl rfl rfl (m1 rfl (gF rfl rfl rfl rfl (gF rfl rfl rfl rfl (pF rfl rfl rfl rfl ?_)))))))))))
       refine m1 rfl (gF rfl rfl rfl rfl (gF rfl rfl rfl rfl (pF rfl rfl rfl rfl (m1 rfl (gF rfl rfl rfl rfl (gF rfl rfl rfl rfl (pF rfl rfl rfl rfl (m1 rfl (gF rfl rfl rfl rfl (gF rfl rfl rfl rfl (pF rfl rfl rfl rfl ?_)))))))))))
       refine m1 rfl (gF rfl rfl rfl rfl (gF rfl rfl rfl rfl (gF rfl rfl rfl rfl (pF rfl rfl rfl rfl (m1 rfl (gF rfl rfl rfl rfl (pF rfl rfl rfl rfl (m1 rfl (gF rfl rfl rfl rfl (pF rfl rfl rfl rfl (m1 rfl ?_)))))))))))
       refine gF rfl rfl rfl rfl (gF rfl rfl rfl rfl (pF rfl rfl rfl rfl (m1 rfl (gF rfl rfl rfl rfl (pF rfl rfl rfl rfl (a1 rfl (on ?_)))))))
       cases hr386
       exact cu ⟨rfl, tv⟩
     ·have hr387 := if_n hb322 hr321
      refine gf hb322 rfl (gf hb322 rfl (pf hb322 rfl rfl (m1 rfl (gF rfl rfl rfl rfl (gF rfl rfl rfl rfl (pF rfl rfl rfl rfl (m1 rfl (gF rfl rfl rfl rfl (gF rfl rfl rfl rfl (pF rfl rfl rfl rfl (m1 rfl ?_)))))))))))
      refine gF rfl rfl rfl rfl (gF rfl rfl rfl rfl (pF rfl rfl rfl rfl (m1 rfl (gF rfl rfl rfl rfl (gF rfl rfl rfl rfl (pF rfl rfl rfl rfl (m1 rfl (gF rfl rfl rfl rfl (gF rfl rfl rfl rfl (gF rfl rfl rfl rfl (pF rfl rfl rfl rfl ?_)))))))))))
      refine m1 rfl (gF rfl rfl rfl rfl (gF rfl rfl rfl rfl (pF rfl rfl rfl rfl (m1 rfl (gF rfl rfl rfl rfl (gF rfl rfl rfl rfl (pF rfl rfl rfl rfl (m1 rfl (gF rfl rfl rfl rfl (gF rfl rfl rfl rfl (pF rfl rfl rfl rfl ?_)))))))))))
      refine m1 rfl (gF rfl rfl rfl rfl (gF rfl rfl rfl rfl (pF rfl rfl rfl rfl (m1 rfl (gF rfl rfl rfl rfl (gF rfl rfl rfl rfl (gF rfl rfl rfl rfl (pF rfl rfl rfl rfl (m1 rfl (gF rfl rfl rfl rfl (pF rfl rfl rfl rfl ?_)))))))))))
      refine m1 rfl (gF rfl rfl rfl rfl (pF rfl rfl rfl rfl (m1 rfl (gF rfl rfl rfl rfl (gF rfl rfl rfl rfl (pF rfl rfl rfl rfl (m1 rfl (gF rfl rfl rfl rfl (pF rfl rfl rfl rfl (a1 rfl (on ?_)))))))))))
      cases hr387
      exact cu ⟨rfl, tv⟩
    ·have hr388 := if_n hb320 hx318
     refine gf hb320 rfl (gf hb320 rfl (pf hb320 rfl rfl (m1 rfl (gF rfl rfl rfl rfl (gF rfl rfl rfl rfl (pF rfl rfl rfl rfl (m1 rfl (gF rfl rfl rfl rfl (gF rfl rfl rfl rfl (pF rfl rfl rfl rfl (m1 rfl ?_)))))))))))
     refine gF rfl rfl rfl rfl (gF rfl rfl rfl rfl (pF rfl rfl rfl rfl (m1 rfl (gF rfl rfl rfl rfl (gF rfl rfl rfl rfl (pF rfl rfl rfl rfl (m1 rfl (gF rfl rfl rfl rfl (gF rfl rfl rfl rfl (pF rfl rfl rfl rfl (m1 rfl ?_)))))))))))
     refine gF rfl rfl rfl rfl (gF rfl rfl rfl rfl (gF rfl rfl rfl rfl (pF rfl rfl rfl rfl (m1 rfl (gF rfl rfl rfl rfl (gF rfl rfl rfl rfl (pF rfl rfl rfl rfl (m1 rfl (gF rfl rfl rfl rfl (gF rfl rfl rfl rfl (pF rfl rfl rfl rfl ?_)))))))))))
     refine m1 rfl (gF rfl rfl rfl rfl (gF rfl rfl rfl rfl (pF rfl rfl rfl rfl (m1 rfl (gF rfl rfl rfl rfl (gF rfl rfl rfl rfl (pF rfl rfl rfl rfl (m1 rfl (gF rfl rfl rfl rfl (gF rfl rfl rfl rfl (gF rfl rfl rfl rfl ?_)))))))))))
     refine pF rfl rfl rfl rfl (m1 rfl (gF rfl rfl rfl rfl (pF rfl rfl rfl rfl (m1 rfl (gF rfl rfl rfl rfl (pF rfl rfl rfl rfl (m1 rfl (gF rfl rfl rfl rfl (gF rfl rfl rfl rfl (pF rfl rfl rfl rfl (m1 rfl ?_)))))))))))
     refine gF rfl rfl rfl rfl (pF rfl rfl rfl rfl (a1 rfl (on ?_)))
     cases hr388
     exact cu ⟨rfl, tv⟩
   ·rintro a w ⟨hS, hA⟩
    refine TG.ap ?_ hS hA
    refine rt_ ?_
    cases hr319
    intro a w hS hA
    refine ret1 hA rfl rfl ?_
    exact ⟨rfl, hS.ext⟩

end T11
