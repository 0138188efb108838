/-
 Walks of functions of an index: each call comes to what the model says. Printed by a program of ours.
-/
import Derived.Test.YtejccogankgniaaGreatDoorWalkA
set_option linter.all false
set_option maxHeartbeats 4000000
namespace T11
open Go Go.Proofs Pk
theorem w63 {M : Prop} {W : World} {H : Hp} (hH : H.le (hp W)) (hg : Gv M H) {ad_l_0 : Option Addr} {cap_l_0 : Nat} {l_0 : List Heading} (h_l_0 : Sl (RHeading) 4 H ad_l_0 cap_l_0 l_0) {r : Bytes} (hr : m63 l_0 = some r) : Calls Tryz.prog 63 [.slice ad_l_0 l_0.length cap_l_0].toArray W (RetS M W (.string (bs r))) := by
 have := h_l_0.len
 unfold m63 at hr
 refine enterGM (M := M) Tryz.func63 rfl Tryz.ntmps63 rfl hH ?_
 refine sq (rg (a1 rfl (on (sq (rg (mkM 1 keS (fun x => Value.string (bs x)) rfl fun b1 => (al 2 (cs := [.map none]) Tryz.zeroValue84 J J fun b2 => (sto 2 (cs := [.map (some b1)]) Z84 J J J J J J J (on (sq (rg ?_)))))))))))
 refine al 3 (cs := [.slice none 0 0]) Tryz.zeroValue50 J J fun b3 => (on (sq (sq (rg (m1 rfl (lnL U26 J J (m1 rfl (on (TG.nilRow 8 9 1 (TG.as 8 (z := Own.list none 0 9 1 encS ([] : List Bytes)) J J ?_))))))))))
 obtain ⟨e552, hl553, hr554⟩ := bd_some hr
 refine jn (fun a w => ∃ (ad555 : Option Addr) (cap556 : Nat) (bs557 : List Nat), St M W H [H] ([(8, Own.list ad555 cap556 9 1 encS e552.1), (3, cel b3 50 [.slice ad555 e552.1.length cap556]), (2, cel b2 84 [.map (some b1)]), (1, Own.map' keS (fun x => Value.string (bs x)) b1 e552.2)] ++ MK bs557) w ∧ Has (bs557.map mk1) 53 a [(3, .pointer (some (⟨b2, 0, none⟩))), (4, .pointer (some (⟨b3, 0, none⟩)))]) ?_ ?_
 ·refine bk ?_
  refine lp hl553 (fun s558 a w => ∃ (ad559 : Option Addr) (cap560 : Nat) (bs561 : List Nat), St M W H [H] ([(8, Own.list ad559 cap560 9 1 encS s558.2.1), (3, cel b3 50 [.slice ad559 s558.2.1.length cap560]), (2, cel b2 84 [.map (some b1)]), (1, Own.map' keS (fun x => Value.string (bs x)) b1 s558.2.2)] ++ MK bs561) w ∧ Has (bs561.map mk1) 53 a [(3, .pointer (some (⟨b2, 0, none⟩))), (4, .pointer (some (⟨b3, 0, none⟩))), (12, .slice ad_l_0 l_0.length cap_l_0), (13, .int .i64 (l_0.length : Int)), (14, .int .i64 (s558.1 : Int))]) ?_ ?_
  ·intro a w hS hA
   exact ⟨none, 0, [], hS, hA.cut ⟨rfl, rfl, rfl, rfl, rfl, tv⟩⟩
  ·rintro j s558 y564 hr562 hz563 a w ⟨ad559, cap560, bs561, hS, hA⟩
   refine TG.ap ?_ hS hA
   unfold m63_1 at hr562
   refine sq (rg (ltI J J J (on (sq ?_))))
   refine ci rfl (fun hc568 => ?_) (fun hc568 => ?_)
   ·have hr569 := if_p hc568 hr562
    refine sk (sq (bk (sq (rg ?_))))
    obtain ⟨x709, hx710, hr711⟩ := bd_some hr569
    obtain ⟨p712, rfl⟩ := h_l_0.adr hx710
    obtain ⟨cs713, hcs714, hq715, hr716⟩ := h_l_0.at hx710
    have hr717 := hr716
    obtain ⟨ad718, cap719, ad721, cap722, ad724, cap725, rfl, hl720, hl723, hl726⟩ := hr716
    have := hl720.len
    have := hl723.len
    have := hl726.len
    refine iaP U26 Z64 J J J J (lt_of hx710) (ldA G64 Z64 J J (sS 0 rfl hq715) rfl (va (cs := [.string (bs x709.name), .slice ad718 x709.variants.length cap719, .slice ad721 x709.also.length cap722, .slice ad724 x709.places.length cap725]) Tryz.zeroValue64 Z64 J J J J J J J J fun q727 K728 hK729 => (on (sq (sq (rg (ldA G64 Z64 J J (sS 0 rfl hK729) rfl (clT C51 Tryz.func51 rfl Tryz.ntmps51 J J J J (sq (rg (bI (cs := [.string (bs x709.name), .slice ad718 x709.variants.length cap719, .slice ad721 x709.also.length cap722, .slice ad724 x709.places.length cap725]) J J J fun q733 K734 hK735 => ?_)))))))))))
    refine a1 rfl (on (sq (rg (fn J J J (a1 rfl (on (rt_ ?_)))))))
    intro a w hS hA
    refine ret1 hA J J ?_
    refine ⟨_, rfl, fun a hA => ?_⟩
    refine putK rfl hA hS (on (bk ?_))
    obtain ⟨t953, hx954, hr955⟩ := bd_some hr711
    refine rfO 4 5 C84 Tryz.func84 rfl Tryz.ntmps84 J J (fun l847 dB848 O850 w => (∃ (ad956 : Option Addr) (cap957 : Nat), St M W H [K734, K728, H] ([(4, Own.blk l847 (O850 .ready none)), (5, Own.blk dB848 (.deferred (some []))), (8, Own.list ad956 cap957 9 1 encS t953.1), (3, cel b3 50 [.slice ad956 t953.1.length cap957]), (2, cel b2 84 [.map (some b1)]), (1, Own.map' keS (fun x => Value.string (bs x)) b1 t953.2)] ++ MK bs561) w)) ?_ ?_
    ·intro l847 dB848 O850 tm849 hT851 hO852
     refine sq (sq (rg (m1 rfl (fb 0 U64 J J J J Z9 (ld G9 J J ((sS 0 rfl hK735).take 1) rfl ?_)))))
     obtain ⟨t967, hx968, hr969⟩ := bd_some hx954
     refine yl 4 [] (L1 := (20, .string (bs x709.name)) :: _) J J J hT851 hO852 J J J (fun v w => (∃ (ad970 : Option Addr) (cap971 : Nat), v = .bool true ∧ St M W H [K734, K728, H] ([(4, Own.blk l847 (O850 .ready none)), (5, Own.blk dB848 (.deferred (some []))), (8, Own.list ad970 cap971 9 1 encS t967.1), (3, cel b3 50 [.slice ad970 t967.1.length cap971]), (2, cel b2 84 [.map (some b1)]), (1, Own.map' keS (fun x => Value.string (bs x)) b1 t967.2)] ++ MK bs561) w)) ?_ ?_
     ·refine rg (a1 rfl (on (bR 4 hO852 rfl (bk (sq (rg (ld G50 J J (sO 3 rfl) rfl (m1 rfl ?_))))))))
      obtain ⟨hk981, hr982⟩ := chk_some hx968
      have := lenA s558.2.1 [x709.name]
      have := len1 x709.name
      refine ap1 8 encS (l := s558.2.1) x709.name T11.E50 J J J J J J J J J J J J hk981 fun ad983 cap984 u985 => (sto 3 (cs := [.slice ad983 ((s558.2.1 ++ [x709.name]).length) cap984]) Z50 J J J J J J J (on (rg (ld G84 J J (sO 2 rfl) rfl (m1 rfl (m1 rfl ?_))))))
      obtain ⟨hk986, hr987⟩ := chk_some hr982
      refine cat J J J hk986 (fb 0 U64 J J J J Z9 (ld G9 J J ((sS 1 rfl hK729).take 1) rfl ?_))
      obtain ⟨hk988, hr989⟩ := chk_some hr987
      refine cat J J J hk988 (mpU 1 (ke := keS) (enc := (fun x => Value.string (bs x))) x709.name ((x709.name ++ [32, 61, 32]) ++ x709.name) U84 U9 J J J J (on ?_))
      cases hr989
      refine eR 4 none hO852 rfl fun w hS => ?_
      exact ⟨ad983, cap984, rfl, hS⟩
     ·rintro a w v hA (⟨ad970, cap971, rfl, hS⟩)
      refine putK rfl hA hS (nt J J (on (cF J J (sk (sq (rg (fb 1 U64 J J J J Z50 (ld G50 J J (((sS 0 rfl hK735).drop 1).take 1) rfl (lnL U50 J J (m1 rfl (on ?_)))))))))))
      obtain ⟨e1073, hl1074, hr1075⟩ := bd_some hr969
      refine jn (fun a w => ∃ (ad1076 : Option Addr) (cap1077 : Nat), St M W H [K734, K728, H] ([(4, Own.blk l847 (O850 .ready none)), (5, Own.blk dB848 (.deferred (some []))), (8, Own.list ad1076 cap1077 9 1 encS e1073.1), (3, cel b3 50 [.slice ad1076 e1073.1.length cap1077]), (2, cel b2 84 [.map (some b1)]), (1, Own.map' keS (fun x => Value.string (bs x)) b1 e1073.2)] ++ MK bs561) w ∧ Has [] 22 a []) ?_ ?_
      ·refine bk ?_
       refine lp hl1074 (fun s1078 a w => ∃ (ad1079 : Option Addr) (cap1080 : Nat), St M W H [K734, K728, H] ([(4, Own.blk l847 (O850 .ready none)), (5, Own.blk dB848 (.deferred (some []))), (8, Own.list ad1079 cap1080 9 1 encS s1078.2.1), (3, cel b3 50 [.slice ad1079 s1078.2.1.length cap1080]), (2, cel b2 84 [.map (some b1)]), (1, Own.map' keS (fun x => Value.string (bs x)) b1 s1078.2.2)] ++ MK bs561) w ∧ Has [] 22 a [(0, .func (.yield l847) #[] #[]), (11, .slice ad718 x709.variants.length cap719), (12, .int .i64 (x709.variants.length : Int)), (13, .int .i64 (s1078.1 : Int))]) ?_ ?_
       ·intro a w hS hA
        exact ⟨ad970, cap971, hS, hA.cut ⟨rfl, rfl, rfl, rfl, tv⟩⟩
       ·rintro j s1078 y1083 hr1081 hz1082 a w ⟨ad1079, cap1080, hS, hA⟩
        refine TG.ap ?_ hS hA
        unfold m63_2 at hr1081
        refine sq (rg (ltI J J J (on (sq ?_))))
        refine ci rfl (fun hc1087 => ?_) (fun hc1087 => ?_)
        ·have hr1088 := if_p hc1087 hr1081
         refine sk (sq (bk (sq (rg ?_))))
         obtain ⟨x1111, hx1112, hr1113⟩ := bd_some hr1088
         obtain ⟨p1114, rfl⟩ := hl720.adr hx1112
         obtain ⟨cs1115, hcs1116, hq1117, hr1118⟩ := hl720.at hx1112
         obtain rfl := hr1118
         refine iaP U50 Z9 J J J J (lt_of hx1112) (ld G9 J J (sS 2 rfl hq1117) rfl (a1 rfl (on (sq (rg (m1 rfl (m1 rfl ?_)))))))
         obtain ⟨t1128, hx1129, hr1130⟩ := bd_some hr1113
         refine yl 4 [] (L1 := (20, .string (bs x1111)) :: _) J J J hT851 hO852 J J J (fun v w => (∃ (ad1131 : Option Addr) (cap1132 : Nat), v = .bool true ∧ St M W H [K734, K728, H] ([(4, Own.blk l847 (O850 .ready none)), (5, Own.blk dB848 (.deferred (some []))), (8, Own.list ad1131 cap1132 9 1 encS t1128.1), (3, cel b3 50 [.slice ad1131 t1128.1.length cap1132]), (2, cel b2 84 [.map (some b1)]), (1, Own.map' keS (fun x => Value.string (bs x)) b1 t1128.2)] ++ MK bs561) w)) ?_ ?_
         ·refine rg (a1 rfl (on (bR 4 hO852 rfl (bk (sq (rg (ld G50 J J (sO 3 rfl) rfl (m1 rfl ?_))))))))
          obtain ⟨hk1142, hr1143⟩ := chk_some hx1129
          have := lenA s1078.2.1 [x1111]
          have := len1 x1111
          refine ap1 8 encS (l := s1078.2.1) x1111 T11.E50 J J J J J J J J J J J J hk1142 fun ad1144 cap1145 u1146 => (sto 3 (cs := [.slice ad1144 ((s1078.2.1 ++ [x1111]).length) cap1145]) Z50 J J J J J J J (on (rg (ld G84 J J (sO 2 rfl) rfl (m1 rfl (m1 rfl ?_))))))
          obtain ⟨hk1147, hr1148⟩ := chk_some hr1143
          refine cat J J J hk1147 (fb 0 U64 J J J J Z9 (ld G9 J J ((sS 1 rfl hK729).take 1) rfl ?_))
          obtain ⟨hk1149, hr1150⟩ := chk_some hr1148
          refine cat J J J hk1149 (mpU 1 (ke := keS) (enc := (fun x => Value.string (bs x))) x1111 ((x1111 ++ [32, 61, 32]) ++ x709.name) U84 U9 J J J J (on ?_))
          cases hr1150
          refine eR 4 none hO852 rfl fun w hS => ?_
          exact ⟨ad1144, cap1145, rfl, hS⟩
         ·rintro a w v hA (⟨ad1131, cap1132, rfl, hS⟩)
          refine putK rfl hA hS (nt J J (on (cF J J (sk (rg (adI J J J (by omega) (m1 rfl (on ?_))))))))
          cases hr1130
          intro a w hS hA
          exact ⟨_, hz1082, ad1131, cap1132, hS, hA.cut ⟨rfl, rfl, rfl, rfl, tv⟩⟩
        ·have hr1151 := if_n hc1087 hr1081
         refine xt rfl ?_
         cases hr1151
         obtain rfl := Fin.out hz1082
         intro a w hS hA
         exact ⟨ad1079, cap1080, hS, hA.cut tv⟩
      ·rintro a w ⟨ad1076, cap1077, hS, hA⟩
       apply TG.ap ?_ hS hA
       cases hr1075
       intro a w hS hA
       refine ret0 hA rfl ?_
       exact ⟨_, rfl, ⟨ad1076, cap1077, hS⟩⟩
    ·rintro l847 dB848 O850 tm849 a w hO852 hA (⟨ad956, cap957, hS⟩)
     refine TG.ap ?_ hS hA
     refine elN 4 hO852 rfl ?_
     obtain ⟨r1152, hx1153, hr1154⟩ := bd_some hr955
     refine drG 5 mixed (by kernel_rfl) rfl (dt rfl (ld G84 J J (sO 2 rfl) rfl fin1) (dt rfl (fb 0 U64 J J J J Z9 fin1) (dt rfl (ld G9 J J ((sS 2 rfl hK729).take 1) rfl fin1) (dt rfl (ldA G64 Z64 J J (sS 2 rfl hK729) rfl fin1) (dt rfl (clS C100 J J J J (fun w H hH le => w100 hH (hg.mono (le.at 3 rfl)) x709 (RHeading.mono _ _ _ _ (le.at 3 rfl) hr717) hx1153) fin1) (DF.nil fun K1155 hF => (mpU 1 (ke := keS) (enc := (fun x => Value.string (bs x))) x709.name r1152 U84 U9 J J J J (on (rg (adI J J J (by omega) (m1 rfl ?_)))))))))))
     refine on (TG.absM (A := [(5, Own.blk dB848 (.deferred (some []))), (8, Own.list ad956 cap957 9 1 encS t953.1), (3, cel b3 50 [.slice ad956 t953.1.length cap957]), (2, cel b2 84 [.map (some b1)]), (1, Own.map' keS (fun x => Value.string (bs x)) b1 (put t953.2 x709.name r1152))]) (bs := bs561) 5 J J ?_)
     cases hr1154
     intro a w hS hA
     exact ⟨_, hz563, ad956, cap957, (dB848 :: bs561), hS.selH [3] rfl, hA.cut ⟨rfl, rfl, rfl, rfl, rfl, tv⟩⟩
   ·have hr1156 := if_n hc568 hr562
    refine xt rfl ?_
    cases hr1156
    obtain rfl := Fin.out hz563
    intro a w hS hA
    exact ⟨ad559, cap560, bs561, hS, hA.cut ⟨rfl, rfl, tv⟩⟩
 ·rintro a w ⟨ad555, cap556, bs557, hS, hA⟩
  apply TG.ap ?_ hS hA
  refine sq (rg (ld G50 J J (sO 3 rfl) rfl ?_))
  obtain ⟨l1157, hx1158, hr1159⟩ := bd_some hr554
  have hln1160 : l1157.length = e552.1.length := (sortO_len hx1158)
  refine srt1 8 (enc := encS) (V := Vs) (V' := Vs) (fun x => Value.string (bs x)) (fun _ => rfl) (fun _ => rfl) Tryz.srt90 C90 J J J J J J (fun H le => ⟨55, [], [], rfl, C55, fun w_ K_ args_ v_ hK hw hs => by obtain ⟨u0_, u1_, x0_, x1_, r_, rfl, h0_, h1_, hx, rfl⟩ := hs; cases h0_; cases h1_; exact w55  x0_ x1_  hx⟩) (fun _ _ => rfl) (fun _ _ => rfl) hx1158 (on (sq (rg (al 9 (cs := [.pointer none, .slice none 0 0]) Tryz.zeroValue147 J J fun b1161 => (on (sq (sq (rg (ld G50 J J (sO 3 rfl) rfl (TG.len 8 rfl fun _ => (lnL U50 J J ?_)))))))))))
  refine m1 rfl (on (TG.nilRow 11 5 1 (TG.as 11 (z := Own.list none 0 5 1 encC ([] : List UInt8)) J J ?_)))
  obtain ⟨e1229, hl1230, hr1231⟩ := bd_some hr1159
  refine jn (fun a w => ∃ (ad1232 : Option Addr) (cap1233 : Nat), St M W H [H] ([(11, Own.list ad1232 cap1233 5 1 encC e1229.2), (9, cel b1161 147 [selfP b1161 e1229.1, .slice ad1232 e1229.2.length cap1233]), (8, Own.list ad555 cap556 9 1 encS l1157), (3, cel b3 50 [.slice ad555 e552.1.length cap556]), (2, cel b2 84 [.map (some b1)]), (1, Own.map' keS (fun x => Value.string (bs x)) b1 e552.2)] ++ MK bs557) w ∧ Has (bs557.map mk1) 53 a [(8, .pointer (some (⟨b1161, 0, none⟩)))]) ?_ ?_
  ·refine bk ?_
   refine lp hl1230 (fun s1234 a w => ∃ (ad1235 : Option Addr) (cap1236 : Nat), St M W H [H] ([(11, Own.list ad1235 cap1236 5 1 encC s1234.2.2), (9, cel b1161 147 [selfP b1161 s1234.2.1, .slice ad1235 s1234.2.2.length cap1236]), (8, Own.list ad555 cap556 9 1 encS l1157), (3, cel b3 50 [.slice ad555 e552.1.length cap556]), (2, cel b2 84 [.map (some b1)]), (1, Own.map' keS (fun x => Value.string (bs x)) b1 e552.2)] ++ MK bs557) w ∧ Has (bs557.map mk1) 53 a [(3, .pointer (some (⟨b2, 0, none⟩))), (8, .pointer (some (⟨b1161, 0, none⟩))), (40, .slice ad555 e552.1.length cap556), (41, .int .i64 (e552.1.length : Int)), (42, .int .i64 (s1234.1 : Int))]) ?_ ?_
   ·intro a w hS hA
    exact ⟨none, 0, hS, hA.cut ⟨rfl, rfl, rfl, rfl, rfl, tv⟩⟩
   ·rintro j s1234 y1239 hr1237 hz1238 a w ⟨ad1235, cap1236, hS, hA⟩
    refine TG.ap ?_ hS hA
    unfold m63_3 at hr1237
    refine sq (rg (ltI J J J (on (sq ?_))))
    refine ci rfl (fun hc1243 => ?_) (fun hc1243 => ?_)
    ·have hr1244 := if_p hc1243 hr1237
     refine sk (sq (bk (sq (rg ?_))))
     obtain ⟨x1260, hx1261, hr1262⟩ := bd_some hr1244
     refine TG.addr 8 rfl (lt_of0 hx1261) fun b1263 h => ?_; subst h
     refine iaP U50 Z9 J J J J (Nat.lt_of_lt_of_eq (lt_of hx1261) hln1160) (ld G9 J J (sE 8 rfl (fun _ => rfl) hx1261) rfl (a1 rfl (on (rg (ld G84 J J (sO 2 rfl) rfl (m1 rfl (lk1 (ke := keS) (enc := (fun x => Value.string (bs x))) x1260 (z0 := ([] : Bytes)) U84 U9 Tryz.zeroValue9 J J J J (mO 1 rfl) ?_)))))))
     obtain ⟨hk1264, hr1265⟩ := chk_some hr1262
     refine cat J J J hk1264 ?_
     obtain ⟨t1270, hx1271, hr1272⟩ := bd_some hr1265
     refine clI C101 Tryz.func101 rfl Tryz.ntmps101 J J J J (fun v w => (∃ (ad1273 : Option Addr) (cap1274 : Nat), v = .tuple [.int .i64 (t1270.1 : Int), .nilIface].toArray ∧ St M W H [H] ([(11, Own.list ad1273 cap1274 5 1 encC t1270.2.2), (9, cel b1161 147 [selfP b1161 t1270.2.1, .slice ad1273 t1270.2.2.length cap1274]), (8, Own.list (some ⟨b1263, 0, none⟩) cap556 9 1 encS l1157), (3, cel b3 50 [.slice (some ⟨b1263, 0, none⟩) e552.1.length cap556]), (2, cel b2 84 [.map (some b1)]), (1, Own.map' keS (fun x => Value.string (bs x)) b1 e552.2)] ++ MK bs557) w)) ?_ ?_
     ·refine sq (rg (a1 rfl (a1 rfl (on (sq (rg (m1 rfl (clOw _ C141 J J J (fun w hS => Tryz.ccS hS (T := 9) (k := s1234.2.1) rfl) (on (sq (rg ?_)))))))))))
      refine m1 rfl (m1 rfl (nl J J (fb 1 U147 J J J J Z37 (ld G37 J J ((sO 9 rfl).drop 1) rfl (m1 rfl ?_)))))
      obtain ⟨hk1275, hr1276⟩ := chk_some hx1271
      refine apT hg.gl.nq 11 (l := s1234.2.2) (s := (((lkp e552.2 x1260).getD ([] : Bytes)) ++ [10])) U37 U9 (info_of Tryz.type5) J J J J J J J J hk1275 fun ad1277 cap1278 => (nl J J (fb 1 U147 J J J J Z37 (sto 9 (cs := [.slice ad1277 ((s1234.2.2 ++ (((lkp e552.2 x1260).getD ([] : Bytes)) ++ [10])).length) cap1278]) Z37 J J J J J J J (on (sq (rg (m1 rfl (lnS U9 J J (a1 rfl (a1 rfl (on ?_)))))))))))
      refine rt_ ?_
      cases hr1276
      intro a w hS hA
      refine ret2 hA J J J ?_
      exact ⟨_, rfl, ⟨ad1277, cap1278, rfl, hS⟩⟩
     ·rintro a w v hA (⟨ad1273, cap1274, rfl, hS⟩)
      refine putK rfl hA hS (on (rg (adI J J J (by omega) (m1 rfl (on ?_)))))
      cases hr1272
      intro a w hS hA
      exact ⟨_, hz1238, ad1273, cap1274, hS, hA.cut ⟨rfl, rfl, rfl, rfl, rfl, tv⟩⟩
    ·have hr1279 := if_n hc1243 hr1237
     refine xt rfl ?_
     cases hr1279
     obtain rfl := Fin.out hz1238
     intro a w hS hA
     exact ⟨ad1235, cap1236, hS, hA.cut ⟨rfl, tv⟩⟩
  ·rintro a w ⟨ad1232, cap1233, hS, hA⟩
   apply TG.ap ?_ hS hA
   refine sq (rg (clOw _ C102 J J J (fun w hS => Tryz.strS hg.gl.nq hS (T := 9) (T2 := 11) (k := e1229.1) (l := e1229.2) J J) (a1 rfl (on (rt_ ?_)))))
   cases hr1231
   refine rtM (rtMs (A := [(8, Own.list ad555 cap556 9 1 encS l1157), (3, cel b3 50 [.slice ad555 e552.1.length cap556]), (2, cel b2 84 [.map (some b1)]), (1, Own.map' keS (fun x => Value.string (bs x)) b1 e552.2)]) (bs := bs557) (rt0 ?_))
   intro a w hS hA
   refine ret1 hA J J ?_
   exact ⟨rfl, hS.ext⟩

theorem w25 {M : Prop} {W : World} {H : Hp} (hH : H.le (hp W)) (hg : Gv M H) {ad_l_0 : Option Addr} {cap_l_0 : Nat} {l_0 : List Heading} (h_l_0 : Sl (RHeading) 4 H ad_l_0 cap_l_0 l_0) {r : List UInt8 × Int} (hr : m25 l_0 = some r) : Calls Tryz.prog 25 [.slice ad_l_0 l_0.length cap_l_0].toArray W (RetK M H W (fun v K => ∃ (ad0 : Option Addr) (cap0 : Nat), v = .tuple [.slice ad0 r.1.length cap0, .int .i64 r.2].toArray ∧ Sl (Flat encC) 1 K ad0 cap0 r.1)) := by
 have := h_l_0.len
 unfold m25 at hr
 refine enterG (M := M) Tryz.func25 rfl Tryz.ntmps25 rfl hH ?_
 refine sq (rg (a1 rfl (a1 rfl (on (sq (sq (rg (m1 rfl ?_))))))))
 obtain ⟨r1, hx2, hr3⟩ := bd_some hr
 refine clK C50 J J J J (fun w H hH le => w50 hH (hg.mono (le.at 0 rfl)) (h_l_0.mono (RHeading.mono) (le.at 0 rfl)) hx2) ?_
 rintro v_ K4 ⟨mp5, rfl, hm6⟩
 refine m1 rfl (ex J J J (ex J J J (a1 rfl (a1 rfl (on (sq (rg (m1 rfl (neI J J J (on ?_))))))))))
 refine ci rfl (fun hc10 => ?_) (fun hc10 => ?_)
 ·have hr11 := if_p hc10 hr3
  refine sq (rg (m1 rfl (a1 rfl (a1 rfl (on (rt_ ?_))))))
  cases hr11
  intro a w hS hA
  refine ret2 hA J J J ?_
  exact ⟨⟨_, _, rfl, (Sl.nil _ _ _ _ _ (by decide))⟩, hS.ext⟩
 ·have hr12 := if_n hc10 hr3
  refine sk (sq (rg (m1 rfl ?_)))
  obtain ⟨r13, hx14, hr15⟩ := bd_some hr12
  refine clS C63 J J J J (fun w H hH le => w63 hH (hg.mono (le.at 1 rfl)) (h_l_0.mono (RHeading.mono) (le.at 1 rfl)) hx14) ?_
  obtain ⟨hk20, hr21⟩ := chk_some hr15
  refine cvB U9 U37 U5 J J hk20 fun ad16 cap17 K18 hl19 => ?_
  have := hl19.len
  refine a1 rfl (a1 rfl (on (rt_ ?_)))
  cases hr21
  intro a w hS hA
  refine ret2 hA J J J ?_
  exact ⟨⟨_, _, rfl, (hl19.mono (Flat.mono _) (hS.grow 0 rfl))⟩, hS.ext⟩

theorem w48 {M : Prop} {W : World}  {r : Bytes} (hr : m48 = some r) : Calls Tryz.prog 48 [].toArray W (RetS M W (.string (bs r))) := by
 unfold m48 at hr
 refine enterG (M := M) Tryz.func48 rfl Tryz.ntmps48 rfl (Hp.le.refl _) ?_
 refine sq (rg (a1 rfl (on (sq (rg (a1 rfl (on (rt_ ?_))))))))
 obtain rfl := sj hr
 intro a w hS hA
 refine ret1 hA J J ?_
 exact ⟨rfl, hS.ext⟩

theorem w146 {M : Prop} {W : World} {H : Hp} (hH : H.le (hp W)) (hg : Gv M H) {cs_o_0 : List Value} (o_0 : odd) (h_o_0 : (Flat encodd) H cs_o_0 o_0) (s_1 : Bytes) {r : Int ⊕ Unit} (hr : m146 o_0 s_1 = some r) : Calls Tryz.prog 146 [.agg cs_o_0.toArray, .string (bs s_1)].toArray W (RetT M W (fun r => .int .i64 r) (.iface 111 (.agg (encodd o_0).toArray)) r) := by
 obtain rfl := h_o_0
 unfold m146 at hr
 refine enterG (M := M) Tryz.func146 rfl Tryz.ntmps146 rfl hH ?_
 refine sq (rg (bI (cs := [.string (bs o_0.line)]) J J J fun q1 K2 hK3 => (a1 rfl (on (sq (rg (m1 rfl ?_)))))))
 obtain ⟨r4, hx5, hr6⟩ := bd_some hr
 refine clK C189 J J J J (fun w H hH le => w189 hH (hg.mono (le.at 1 rfl)) s_1 hx5) ?_
 rintro v_ K7 ⟨er8, rfl, he9⟩
 refine m1 rfl (ex J J J (ex J J J (a1 rfl (a1 rfl (on (sq (sq (rg (m1 rfl (neE U149 J J he9 (on ?_)))))))))))
 refine cb rfl (fun hc13 => ?_) (fun hc13 => ?_)
 ·have hr14 := if_p hc13 hr6
  refine rg (ldA G111 Z111 J J (sS 1 rfl hK3) rfl (fi U111 J J J (pnc rfl ?_)))
  cases hr14
  intro a w hS hA
  exact ⟨hA.defers, rtT_pan hS.ext⟩
 ·have hr15 := if_f hc13 hr6
  refine sk (sq (rg (m1 rfl (a1 rfl (on (rt_ ?_))))))
  cases hr15
  intro a w hS hA
  refine ret1 hA J J ?_
  exact rtT_ret rfl hS.ext

theorem w109 {M : Prop} {W : World} {H : Hp} (hH : H.le (hp W)) (hg : Gv M H) {cs_o_0 : List Value} (o_0 : odd) (h_o_0 : (Flat encodd) H cs_o_0 o_0) (s_1 : Bytes) {r : Place ⊕ Unit} (hr : m109 o_0 s_1 = some r) : Calls Tryz.prog 109 [.agg cs_o_0.toArray, .string (bs s_1)].toArray W (RetT M W (fun r => .agg (encPlace r).toArray) (.iface 111 (.agg (encodd o_0).toArray)) r) := by
 obtain rfl := h_o_0
 unfold m109 at hr
 refine enterG (M := M) Tryz.func109 rfl Tryz.ntmps109 rfl hH ?_
 refine sq (rg (bI (cs := [.string (bs o_0.line)]) J J J fun q1 K2 hK3 => (al 1 (cs := [.int .i64 0, .int .i64 0, .int .i64 0]) Tryz.zeroValue81 J J fun b4 => (on (sq (rg (ldA G111 Z111 J J (sS 0 rfl hK3) rfl (fn J J J (a1 rfl (on (sq ?_)))))))))))
 refine rg (m1 rfl ?_)
 obtain ⟨r5, hx6, hr7⟩ := bd_some hr
 refine clS C68 J J J J (fun w H hH le => w68 hH (hg.mono (le.at 1 rfl)) s_1 [47] hx6) (m1 rfl (ex J J J (ex J J J (ex J J J (a1 rfl (a1 rfl (a1 rfl (on (sq (rg (m1 rfl ?_)))))))))))
 obtain ⟨r8, hx9, hr10⟩ := bd_some hr7
 refine clS C68 J J J J (fun w H hH le => w68 hH (hg.mono (le.at 1 rfl)) r5.2.1 [45] hx9) (m1 rfl (ex J J J (ex J J J (ex J J J (a1 rfl (a1 rfl (a1 rfl (on (sq (rg (m1 rfl ?_)))))))))))
 refine m1 rfl ?_
 obtain ⟨r11, hx12, hr13⟩ := bd_some hr10
 rcases r11 with y14 | u15
 ·refine clS C146 J J J J (fun w H hH le => rtI (w146 hH (hg.mono (le.at 1 rfl)) o_0 rfl r5.1 hx12)) (m1 rfl (m1 rfl ?_))
  obtain ⟨r16, hx17, hr18⟩ := bd_some hr13
  rcases r16 with y19 | u20
  ·refine clS C146 J J J J (fun w H hH le => rtI (w146 hH (hg.mono (le.at 1 rfl)) o_0 rfl r8.1 hx17)) (m1 rfl (m1 rfl (clS C146 J J J J (fun w H hH le => rtI (w146 hH (hg.mono (le.at 1 rfl)) o_0 rfl r8.1 hx17)) (bu (cs := [.int .i64 y14, .int .i64 y19, .int .i64 y19]) T11.B81 J J J (al 2 (cs := [.int .i64 0, .int .i64 0, .int .i64 0]) Tryz.zeroValue81 J J fun b21 => (sto 2 (cs := [.int .i64 y14, .int .i64 y19, .int .i64 y19]) Z81 J J J J J J J (on (sq (sq (rg (m1 rfl ?_)))))))))))
   refine on ?_
   obtain ⟨t30, hx31, hr32⟩ := bd_some hr18
   refine jn (fun a w => ∃ t33, t30 = .inl t33 ∧ St M W H [K2, H] [(2, cel b21 81 [.int .i64 y14, .int .i64 y19, .int .i64 t33]), (1, cel b4 81 [.int .i64 0, .int .i64 0, .int .i64 0])] w ∧ Has [] 43 a [(4, .pointer (some (⟨b4, 0, none⟩))), (12, .pointer (some (⟨b21, 0, none⟩)))]) ?_ ?_
   ·refine cb rfl (fun hc34 => ?_) (fun hc34 => ?_)
    ·have hr35 := if_p hc34 hx31
     refine rg (m1 rfl (m1 rfl ?_))
     obtain ⟨r36, hx37, hr38⟩ := bd_some hr35
     rcases r36 with y39 | u40
     ·refine clS C146 J J J J (fun w H hH le => rtI (w146 hH (hg.mono (le.at 1 rfl)) o_0 rfl r8.2.1 hx37)) (fb 2 U81 J J J J Z3 (sto 2 (cs := [.int .i64 y39]) Z3 J J J J J J J (on ?_)))
      cases hr38
      intro a w hS hA
      exact ⟨_, rfl, hS, hA.cut ⟨rfl, rfl, tv⟩⟩
     ·refine clTp C146 J J J (fun w H hH le => rtP (w146 hH (hg.mono (le.at 1 rfl)) o_0 rfl r8.2.1 hx37)) ?_
      cases hr38
      cases hr32
      intro a w hS hA
      exact ⟨hA.defers, rtT_pan hS.ext⟩
    ·have hr41 := if_f hc34 hx31
     refine sk ?_
     cases hr41
     intro a w hS hA
     exact ⟨_, rfl, hS, hA.cut ⟨rfl, rfl, tv⟩⟩
   ·rintro a w ⟨t33, rfl, hS, hA⟩
    refine TG.ap ?_ hS hA
    refine sq (rg (ldA G81 Z81 J J (sO 2 rfl) rfl (sto 1 (cs := [.int .i64 y14, .int .i64 y19, .int .i64 t33]) Z81 J J J J J J J (on (rt_ ?_)))))
    cases hr32
    intro a w hS hA
    refine rc1 hA rfl (ResAt.cell rfl (loadsA G81 Z81 (cell_at (hS.get (t := 1) rfl)) rfl)) ?_
    exact rtT_ret rfl hS.ext
  ·refine clTp C146 J J J (fun w H hH le => rtP (w146 hH (hg.mono (le.at 1 rfl)) o_0 rfl r8.1 hx17)) ?_
   cases hr18
   intro a w hS hA
   exact ⟨hA.defers, rtT_pan hS.ext⟩
 ·refine clTp C146 J J J (fun w H hH le => rtP (w146 hH (hg.mono (le.at 1 rfl)) o_0 rfl r5.1 hx12)) ?_
  cases hr13
  intro a w hS hA
  exact ⟨hA.defers, rtT_pan hS.ext⟩

theorem w69 {M : Prop} {W : World} {H : Hp} (hH : H.le (hp W)) (hg : Gv M H) {cs_o_0 : List Value} (o_0 : odd) (h_o_0 : (Flat encodd) H cs_o_0 o_0) {r : Heading ⊕ Unit} (hr : m69 o_0 = some r) : Calls Tryz.prog 69 [.agg cs_o_0.toArray].toArray W (RetTK M H W (fun r v K => ∃ (cs0 : List Value), v = .agg cs0.toArray ∧ (RHeading) K cs0 r) (.iface 111 (.agg (encodd o_0).toArray)) r) := by
 obtain rfl := h_o_0
 unfold m69 at hr
 refine enterG (M := M) Tryz.func69 rfl Tryz.ntmps69 rfl hH ?_
 refine sq (rg (bI (cs := [.string (bs o_0.line)]) J J J fun q1 K2 hK3 => (al 1 (cs := [.string (bs []), .slice none 0 0, .slice none 0 0, .slice none 0 0]) Tryz.zeroValue64 J J fun b4 => (on (sq (rg (fb 0 U111 J J J J Z9 (ld G9 J J (sS 0 rfl hK3) rfl ?_))))))))
 obtain ⟨r5, hx6, hr7⟩ := bd_some hr
 refine clS C68 J J J J (fun w H hH le => w68 hH (hg.mono (le.at 1 rfl)) o_0.line [58] hx6) (m1 rfl (ex J J J (ex J J J (ex J J J (a1 rfl (a1 rfl (a1 rfl (on (sq (rg (m1 rfl ?_)))))))))))
 obtain ⟨r8, hx9, hr10⟩ := bd_some hr7
 refine clS C68 J J J J (fun w H hH le => w68 hH (hg.mono (le.at 1 rfl)) r5.2.1 [59, 32] hx9) (m1 rfl (ex J J J (ex J J J (ex J J J (a1 rfl (a1 rfl (a1 rfl (on (sq (rg (m1 rfl ?_)))))))))))
 refine bu (cs := [.string (bs r5.1), .slice none 0 0, .slice none 0 0, .slice none 0 0]) T11.B64 J J J (al 2 (cs := [.string (bs []), .slice none 0 0, .slice none 0 0, .slice none 0 0]) Tryz.zeroValue64 J J fun b11 => (sto 2 (cs := [.string (bs r5.1), .slice none 0 0, .slice none 0 0, .slice none 0 0]) Z64 J J J J J J J (on (sq (sq (rg (m1 rfl (neS J J J (on (TG.nilRow 4 81 3 ?_))))))))))
 obtain ⟨t230, hx231, hr232⟩ := bd_some hr10
 refine jn (fun a w => ∃ t233, t230 = .inl t233 ∧ ∃ (ad234 : Option Addr) (cap235 : Nat), St M W H [K2, H] [(4, Own.list ad234 cap235 81 3 encPlace t233), (2, cel b11 64 [.string (bs r5.1), .slice none 0 0, .slice none 0 0, .slice ad234 t233.length cap235]), (1, cel b4 64 [.string (bs []), .slice none 0 0, .slice none 0 0, .slice none 0 0])] w ∧ Has [] 51 a [(2, .pointer (some (⟨b4, 0, none⟩))), (7, .string (bs r8.2.1)), (8, .bool r8.2.2), (9, .pointer (some (⟨b11, 0, none⟩)))]) ?_ ?_
 ·refine ci rfl (fun hc236 => ?_) (fun hc236 => ?_)
  ·have hr237 := if_p hc236 hx231
   refine sq (rg (m1 rfl ?_))
   obtain ⟨r238, hx239, hr240⟩ := bd_some hr237
   refine clK C67 J J J J (fun w H hH le => w67 hH (hg.mono (le.at 1 rfl)) r8.1 [44] hx239) ?_
   rintro v_ K241 ⟨ad242, cap243, rfl, hl244⟩
   have := hl244.len
   refine lnL U50 J J (m1 rfl (on (TG.as 4 (z := Own.list none 0 81 3 encPlace ([] : List Place)) J J ?_)))
   obtain ⟨e323, hl324, hr325⟩ := bd_some hr240
   refine jn (fun a w => ∃ t326, e323 = .inl t326 ∧ ∃ (ad327 : Option Addr) (cap328 : Nat), St M W H [K241, K2, H] [(4, Own.list ad327 cap328 81 3 encPlace t326), (2, cel b11 64 [.string (bs r5.1), .slice none 0 0, .slice none 0 0, .slice ad327 t326.length cap328]), (1, cel b4 64 [.string (bs []), .slice none 0 0, .slice none 0 0, .slice none 0 0])] w ∧ Has [] 51 a [(2, .pointer (some (⟨b4, 0, none⟩))), (7, .string (bs r8.2.1)), (8, .bool r8.2.2), (9, .pointer (some (⟨b11, 0, none⟩)))]) ?_ ?_
   ·refine bk ?_
    refine lp hl324 (fun s329 a w => ∃ (ad330 : Option Addr) (cap331 : Nat), St M W H [K241, K2, H] [(4, Own.list ad330 cap331 81 3 encPlace s329.2), (2, cel b11 64 [.string (bs r5.1), .slice none 0 0, .slice none 0 0, .slice ad330 s329.2.length cap331]), (1, cel b4 64 [.string (bs []), .slice none 0 0, .slice none 0 0, .slice none 0 0])] w ∧ Has [] 51 a [(1, .pointer (some q1)), (2, .pointer (some (⟨b4, 0, none⟩))), (7, .string (bs r8.2.1)), (8, .bool r8.2.2), (9, .pointer (some (⟨b11, 0, none⟩))), (30, .slice ad242 r238.length cap243), (31, .int .i64 (r238.length : Int)), (32, .int .i64 (s329.1 : Int))]) ?_ ?_
    ·intro a w hS hA
     exact ⟨none, 0, hS, hA.cut ⟨rfl, rfl, rfl, rfl, rfl, rfl, rfl, rfl, tv⟩⟩
    ·rintro j s329 y334 hr332 hz333 a w ⟨ad330, cap331, hS, hA⟩
     refine TG.ap ?_ hS hA
     unfold m69_1 at hr332
     refine sq (rg (ltI J J J (on (sq ?_))))
     refine ci rfl (fun hc338 => ?_) (fun hc338 => ?_)
     ·have hr339 := if_p hc338 hr332
      refine sk (sq (bk (sq (rg ?_))))
      obtain ⟨x372, hx373, hr374⟩ := bd_some hr339
      obtain ⟨p375, rfl⟩ := hl244.adr hx373
      obtain ⟨cs376, hcs377, hq378, hr379⟩ := hl244.at hx373
      obtain rfl := hr379
      refine iaP U50 Z9 J J J J (lt_of hx373) (ld G9 J J (sS 0 rfl hq378) rfl (a1 rfl (on ?_)))
      obtain ⟨r380, hx381, hr382⟩ := bd_some hr374
      obtain ⟨r383, hx384, hr385⟩ := bd_some hr382
      rcases r383 with y386 | u387
      ·refine drG 7 mixed (by kernel_rfl) rfl (dt rfl (fb 3 U64 J J J J Z62 fin1) (dt rfl (ld G62 J J ((sO 2 rfl).drop 3) rfl fin1) (dt rfl (ldA G111 Z111 J J (sS 2 rfl hK3) rfl fin1) (dt rfl (m1 rfl fin1) (dt rfl (clS C110 J J J J (fun w H hH le => w110 x372 [32] hx381) fin1) (dt rfl (clS C109 J J J J (fun w H hH le => rtI (w109 hH (hg.mono (le.at 3 rfl)) o_0 rfl r380 hx384)) fin1) ?_))))))
       refine DF.und (α := Option Addr × Nat) (none, 0) (fun q => .slice q.1 1 q.2) (fun (q : Option Addr × Nat) K => Sl (Flat encPlace) 3 K q.1 q.2 ([y386] : List Place)) (fun _ _ _ h x => x.mono (Flat.mono _) h) (by kernel_rfl) rfl (fun a w K hS hA hF => TG.pa hS hA (bS (cs := [.int .i64 y386.volume, .int .i64 y386.from_, .int .i64 y386.to_]) T11.E62 J J J J fun q388 K389 hq390 hK391 => by
         have hl392 : Sl (Flat encPlace) 3 K389 (some q388) 1 ([y386] : List Place) := Sl.litR (css := [[.int .i64 y386.volume, .int .i64 y386.from_, .int .i64 y386.to_]]) (l := ([y386] : List Place)) ⟨⟨rfl, rfl, rfl⟩, tv⟩ hq390 hK391 rfl
         have := hl392.len
         exact finU (f := fun q => .slice q.1 1 q.2) (G := (fun (q : Option Addr × Nat) K => Sl (Flat encPlace) 3 K q.1 q.2 ([y386] : List Place))) (_, _) (fun _ _ _ h x => x.mono (Flat.mono _) h) hl392)) ?_
       rintro ⟨ad394, cap395⟩
       refine DF.nil fun K396 hF => ?_
       obtain ⟨hu393, _⟩ := hF
       have := hu393.len
       obtain ⟨hk397, hr398⟩ := chk_some hr385
       have := lenA s329.2 ([y386] : List Place)
       refine apS 4 (enc := encPlace) (l := s329.2) (m := ([y386] : List Place)) T11.E62 J J J J J J hu393 0 rfl (fun _ => rfl) (fun _ => rfl) rfl hk397 fun ad399 cap400 => (fb 3 U64 J J J J Z62 (sto 2 (cs := [.slice ad399 ((s329.2 ++ ([y386] : List Place)).length) cap400]) Z62 J J J J J J J (on (rg (adI J J J (by omega) (m1 rfl (on ?_)))))))
       cases hr398
       intro a w hS hA
       exact ⟨_, hz333, ad399, cap400, hS.selH [1, 2, 3] rfl, hA.cut ⟨rfl, rfl, rfl, rfl, rfl, rfl, rfl, rfl, tv⟩⟩
      ·cases hr385
       obtain rfl := Fin.out hz333
       cases hr325
       cases hr232
       refine drG 7 mixed (by kernel_rfl) rfl (dt rfl (fb 3 U64 J J J J Z62 fin1) (dt rfl (ld G62 J J ((sO 2 rfl).drop 3) rfl fin1) (dt rfl (ldA G111 Z111 J J (sS 2 rfl hK3) rfl fin1) (dt rfl (m1 rfl fin1) (dt rfl (clS C110 J J J J (fun w H hH le => w110 x372 [32] hx381) fin1) ?_)))))
       refine DF.und () (fun _ => .bool false) (fun _ _ => False) (fun _ _ _ h x => x) (by kernel_rfl) rfl (fun a w K hS hA hF => TG.pa hS hA (clTp C109 J J J (fun w H hH le => rtP (w109 hH (hg.mono (le.at 3 rfl)) o_0 rfl r380 hx384)) (by
          intro a w hS hA
          exact ⟨hA.defers, rtK_pan hS.ext⟩))) fun _ => ?_
       refine DF.und () (fun _ => .bool false) (fun _ _ => False) (fun _ _ _ h x => x) (by kernel_rfl) rfl (fun a w K hS hA hF => (False.elim (hF.1 rfl))) fun _ => (DF.nil fun K403 hF => ?_)
       obtain ⟨hu402, hu401, _⟩ := hF
       exact False.elim hu401
     ·have hr404 := if_n hc338 hr332
      refine xt rfl ?_
      cases hr404
      obtain rfl := Fin.out hz333
      intro a w hS hA
      exact ⟨_, rfl, ad330, cap331, hS, hA.cut ⟨rfl, rfl, rfl, rfl, tv⟩⟩
   ·rintro a w ⟨t326, rfl, ad327, cap328, hS, hA⟩
    apply TG.ap ?_ hS hA
    cases hr325
    intro a w hS hA
    exact ⟨_, rfl, ad327, cap328, hS.selH [1, 2] rfl, hA.cut ⟨rfl, rfl, rfl, rfl, tv⟩⟩
  ·have hr405 := if_n hc236 hx231
   refine sk (TG.as 4 (z := Own.list none 0 81 3 encPlace ([] : List Place)) J J ?_)
   cases hr405
   intro a w hS hA
   exact ⟨_, rfl, none, 0, hS, hA.cut ⟨rfl, rfl, rfl, rfl, tv⟩⟩
 ·rintro a w ⟨t233, rfl, ad234, cap235, hS, hA⟩
  refine TG.ap ?_ hS hA
  refine sq (sq (rg (m1 rfl (on ?_))))
  obtain ⟨t416, hx417, hr418⟩ := bd_some hr232
  refine jn (fun a w => ∃ (ad419 : Option Addr) (cap420 : Nat) (K421 : Hp), St M W H [K421, K2, H] [(4, Own.list ad234 cap235 81 3 encPlace t233), (2, cel b11 64 [.string (bs r5.1), .slice none 0 0, .slice ad419 t416.length cap420, .slice ad234 t233.length cap235]), (1, cel b4 64 [.string (bs []), .slice none 0 0, .slice none 0 0, .slice none 0 0])] w ∧ Has [] 51 a [(2, .pointer (some (⟨b4, 0, none⟩))), (9, .pointer (some (⟨b11, 0, none⟩)))] ∧ Sl (Flat encS) 1 K421 ad419 cap420 t416) ?_ ?_
  ·refine cb rfl (fun hc423 => ?_) (fun hc423 => ?_)
   ·have hr424 := if_p hc423 hx417
    refine rg (m1 rfl ?_)
    obtain ⟨r425, hx426, hr427⟩ := bd_some hr424
    refine clK C67 J J J J (fun w H hH le => w67 hH (hg.mono (le.at 1 rfl)) r8.2.1 [44, 32] hx426) ?_
    rintro v_ K428 ⟨ad429, cap430, rfl, hl431⟩
    have := hl431.len
    refine fb 2 U64 J J J J Z50 (sto 2 (cs := [.slice ad429 r425.length cap430]) Z50 J J J J J J J (on ?_))
    cases hr427
    intro a w hS hA
    exact ⟨ad429, cap430, K428, hS, hA.cut ⟨rfl, rfl, tv⟩, hl431⟩
   ·have hr432 := if_f hc423 hx417
    refine sk ?_
    cases hr432
    intro a w hS hA
    exact ⟨none, 0, H, hS.selH [1, 0, 1] rfl, hA.cut ⟨rfl, rfl, tv⟩, (Sl.nil _ _ H _ _ (by decide))⟩
  ·rintro a w ⟨ad419, cap420, K421, hS, hA, hl422⟩
   refine TG.ap ?_ hS hA
   have := hl422.len
   refine sq (rg (ldA G64 Z64 J J (sO 2 rfl) rfl (sto 1 (cs := [.string (bs r5.1), .slice none 0 0, .slice ad419 t416.length cap420, .slice ad234 t233.length cap235]) Z64 J J J J J J J (on (rt_ ?_)))))
   cases hr418
   intro a w hS hA
   refine rc1 hA rfl (ResAt.cell rfl (loadsA G64 Z64 (cell_at (hS.get (t := 1) rfl)) rfl)) ?_
   exact rtK_ret ⟨_, rfl, ⟨_, _, _, _, _, _, rfl, (Sl.nil _ _ _ _ _ (by decide)), (hl422.mono (Flat.mono _) (hS.grow 0 rfl)), (hS.listOut 4 rfl (fun _ => rfl))⟩⟩ hS.ext

theorem w28 {M : Prop} {W : World} {H : Hp} (hH : H.le (hp W)) (hg : Gv M H) {ad_b_0 : Option Addr} {cap_b_0 : Nat} {b_0 : List UInt8} (h_b_0 : Sl (Flat encC) 1 H ad_b_0 cap_b_0 b_0) {r : List Heading × Int} (hr : m28 b_0 = some r) : Calls Tryz.prog 28 [.slice ad_b_0 b_0.length cap_b_0].toArray W (RetK M H W (fun v K => ∃ (ad0 : Option Addr) (cap0 : Nat), v = .tuple [.slice ad0 r.1.length cap0, .int .i64 r.2].toArray ∧ Sl (RHeading) 4 K ad0 cap0 r.1)) := by
 have := h_b_0.len
 unfold m28 at hr
 refine enterGF (M := M) Tryz.func28 rfl Tryz.ntmps28 rfl hH ?_
 refine sq (rg (al 1 (cs := [.slice none 0 0]) Tryz.zeroValue26 J J fun b1 => (al 2 (cs := [.int .i64 0]) Tryz.zeroValue27 J J fun b2 => (on (sq (sq (rg (m1 rfl (lnL U37 J J (gtI J J J (on ?_)))))))))))
 refine ci rfl (fun hc6 => ?_) (fun hc6 => ?_)
 ·have hr7 := if_p hc6 hr
  refine sq (rg (sto 1 (cs := [.slice none 0 0]) Z26 J J J J J J J (sto 2 (cs := [.int .i64 3]) Z27 J J J J J J J (on (rt_ ?_)))))
  cases hr7
  refine rtF0 ?_
  intro a w hS hA
  refine rc2 hA rfl (ResAt.cell rfl (loads1 G26 (cell_at (hS.get (t := 1) rfl)) rfl)) (ResAt.cell rfl (loads1 G27 (cell_at (hS.get (t := 2) rfl)) rfl)) ?_
  exact ⟨⟨_, _, rfl, (Sl.nil _ _ _ _ _ (by decide))⟩, hS.ext⟩
 ·have hr8 := if_n hc6 hr
  refine sk (sq (rg (fn J J J (df rfl (on (sq (rg (m1 rfl (cvT h_b_0 0 rfl U37 U5 U9 J J ?_)))))))))
  obtain ⟨r9, hx10, hr11⟩ := bd_some hr8
  refine clK C67 J J J J (fun w H hH le => w67 hH (hg.mono (le.at 0 rfl)) b_0 [10] hx10) ?_
  rintro v_ K12 ⟨ad13, cap14, rfl, hl15⟩
  have := hl15.len
  refine a1 rfl (on (sq (rg (mkM 3 keS (fun v : Value => v) rfl fun b16 => ?_))))
  have hF17 := Fam.nil (κ := Bytes) (hvR (α := Bytes))
  refine TG.eq (σ' := ([(3, Own.map' keS (fun v : Value => v) b16 ([] : List (Bytes × Value))), (2, cel b2 27 [.int .i64 0]), (1, cel b1 26 [.slice none 0 0])] ++ famO (entR 9 1 encS) ([] : List Adr) ([] : List (Bytes × (List Bytes))))) rfl (a1 rfl (on (sq (sq (rg (m1 rfl (m1 rfl (lnL U50 J J (sbI J J J (by omega) ?_)))))))))
  obtain ⟨hk18, hr19⟩ := chk_some hr11
  obtain ⟨hk20, hr21⟩ := chk_some hr19
  refine slT (((r9.length : Int) - 1).toNat) U50 Z9 hl15 J J J J (by omega) hk20 fun ad22 cap23 hl24 => ?_
  have := hl24.len
  refine lnL U50 J J (m1 rfl (on (TG.nilRow 5 64 4 ?_)))
  have hR177 : Rows (RHeading) 4 H [] ([] : List Heading) := tv
  refine TG.as 5 (z := Own.rows none 0 64 4 [] ([] : List Heading)) J J ?_
  obtain ⟨e373, hl374, hr375⟩ := bd_some hr21
  refine jn (fun a w => ∃ t376, e373 = .inl t376 ∧ ∃ (ad377 : Option Addr) (cap378 : Nat) (css379 : List (List Value)) (K380 : Hp) (hs382 : List (Bytes × Value)) (az383 : List Adr), St M W H [K380, K12, H] ([(5, Own.rows ad377 cap378 64 4 css379 t376.1), (3, Own.map' keS (fun v : Value => v) b16 hs382), (2, cel b2 27 [.int .i64 0]), (1, cel b1 26 [.slice ad377 t376.1.length cap378])] ++ famO (entR 9 1 encS) az383 t376.2) w ∧ Has [dfc 66 [.pointer (some (⟨b1, 0, none⟩)), .pointer (some (⟨b2, 0, none⟩))]] 88 a [(0, .slice ad_b_0 b_0.length cap_b_0), (2, .pointer (some (⟨b1, 0, none⟩))), (3, .pointer (some (⟨b2, 0, none⟩))), (5, .map (some b16))] ∧ Rows (RHeading) 4 K380 css379 t376.1 ∧ Fam hvR hs382 az383 t376.2) ?_ ?_
  ·refine bk ?_
   refine lp hl374 (fun s385 a w => ∃ (ad386 : Option Addr) (cap387 : Nat) (css388 : List (List Value)) (K389 : Hp) (hs391 : List (Bytes × Value)) (az392 : List Adr), St M W H [K389, K12, H] ([(5, Own.rows ad386 cap387 64 4 css388 s385.2.1), (3, Own.map' keS (fun v : Value => v) b16 hs391), (2, cel b2 27 [.int .i64 0]), (1, cel b1 26 [.slice ad386 s385.2.1.length cap387])] ++ famO (entR 9 1 encS) az392 s385.2.2) w ∧ Has [dfc 66 [.pointer (some (⟨b1, 0, none⟩)), .pointer (some (⟨b2, 0, none⟩))]] 88 a [(0, .slice ad_b_0 b_0.length cap_b_0), (2, .pointer (some (⟨b1, 0, none⟩))), (3, .pointer (some (⟨b2, 0, none⟩))), (5, .map (some b16)), (26, .slice ad22 ((r9.take (((r9.length : Int) - 1).toNat)).length) cap23), (27, .int .i64 ((r9.take (((r9.length : Int) - 1).toNat)).length : Int)), (28, .int .i64 (s385.1 : Int))] ∧ Rows (RHeading) 4 K389 css388 s385.2.1 ∧ Fam hvR hs391 az392 s385.2.2) ?_ ?_
   ·intro a w hS hA
    exact ⟨none, 0, [], H, ([] : List (Bytes × Value)), ([] : List Adr), hS.selH [1, 0, 1] rfl, hA.cut ⟨rfl, rfl, rfl, rfl, rfl, rfl, rfl, tv⟩, hR177, hF17⟩
   ·rintro j s385 y396 hr394 hz395 a w ⟨ad386, cap387, css388, K389, hs391, az392, hS, hA, hR390, hF393⟩
    refine TG.ap ?_ hS hA
    unfold m28_1 at hr394
    refine sq (rg (ltI J J J (on (sq ?_))))
    refine ci rfl (fun hc400 => ?_) (fun hc400 => ?_)
    ·have hr401 := if_p hc400 hr394
     refine sk (sq (bk (sq (rg ?_))))
     obtain ⟨x485, hx486, hr487⟩ := bd_some hr401
     obtain ⟨p488, rfl⟩ := hl24.adr hx486
     obtain ⟨cs489, hcs490, hq491, hr492⟩ := hl24.at hx486
     obtain rfl := hr492
     refine iaP U50 Z9 J J J J (lt_of hx486) (ld G9 J J (sS 1 rfl hq491) rfl (a1 rfl (on (sq (rg (m1 rfl ?_))))))
     obtain ⟨r493, hx494, hr495⟩ := bd_some hr487
     refine clS C68 J J J J (fun w H hH le => w68 hH (hg.mono (le.at 2 rfl)) x485 [32, 61, 32] hx494) (m1 rfl (ex J J J (ex J J J (ex J J J (a1 rfl (a1 rfl (a1 rfl (on (sq (rg (m1 rfl ?_)))))))))))
     refine on ?_
     obtain ⟨t559, hx560, hr561⟩ := bd_some hr495
     refine jn (fun a w => ∃ t562, t559 = .inl t562 ∧ ∃ (ad563 : Option Addr) (cap564 : Nat) (css565 : List (List Value)) (K566 : Hp) (hs568 : List (Bytes × Value)) (az569 : List Adr), St M W H [K566, K389, K12, H] ([(5, Own.rows ad563 cap564 64 4 css565 t562.1), (3, Own.map' keS (fun v : Value => v) b16 hs568), (2, cel b2 27 [.int .i64 0]), (1, cel b1 26 [.slice ad563 t562.1.length cap564])] ++ famO (entR 9 1 encS) az569 t562.2) w ∧ Has [dfc 66 [.pointer (some (⟨b1, 0, none⟩)), .pointer (some (⟨b2, 0, none⟩))]] 88 a [(0, .slice ad_b_0 b_0.length cap_b_0), (2, .pointer (some (⟨b1, 0, none⟩))), (3, .pointer (some (⟨b2, 0, none⟩))), (5, .map (some b16)), (26, .slice (some p488) ((r9.take (((r9.length : Int) - 1).toNat)).length) cap23), (27, .int .i64 ((r9.take (((r9.length : Int) - 1).toNat)).length : Int)), (28, .int .i64 (s385.1 : Int))] ∧ Rows (RHeading) 4 K566 css565 t562.1 ∧ Fam hvR hs568 az569 t562.2) ?_ ?_
     ·refine cb rfl (fun hc571 => ?_) (fun hc571 => ?_)
      ·have hr572 := if_p hc571 hx560
       refine rg (m1 rfl (m1 rfl (m1 rfl (m1 rfl ?_))))
       obtain ⟨hk573, hr574⟩ := chk_some hr572
       refine mgA [(5, Own.rows ad386 cap387 64 4 css388 s385.2.1), (3, Own.map' keS (fun v : Value => v) b16 hs391), (2, cel b2 27 [.int .i64 0]), (1, cel b1 26 [.slice ad386 s385.2.1.length cap387])] 3 encS r493.2.1 r493.1 U114 U9 Tryz.zeroValue50 T11.E50 J J J J J J J J J ⟨rfl, ⟨rfl, rfl, rfl, rfl⟩, ⟨rfl, rfl, rfl, rfl⟩, rfl, rfl, rfl⟩ rfl (fun _ => rfl) J J J hF393 rfl hk573 fun hs575 az576 u577 u578 u579 u580 hF581 => (on ?_)
       cases hr574
       intro a w hS hA
       exact ⟨_, rfl, ad386, cap387, css388, K389, hs575, az576, hS.selH [0, 0, 1, 2] rfl, hA.cut ⟨rfl, rfl, rfl, rfl, rfl, rfl, rfl, tv⟩, hR390, hF581⟩
      ·have hr582 := if_f hc571 hx560
       obtain ⟨r583, hx584, hr585⟩ := bd_some hr582
       rcases r583 with y586 | u587
       ·refine drG 5 mixed (by kernel_rfl) rfl (dt rfl (ld G26 J J (sO 1 rfl) rfl fin1) (dt rfl (m1 rfl fin1) (dt rfl (bu (cs := [.string (bs x485)]) T11.B111 J J J fin1) ?_)))
        refine DF.und (α := List Value) [] (fun q => .agg q.toArray) (fun (q : List Value) K => (RHeading) K q y586) (fun _ _ _ h x => RHeading.mono _ _ _ _ h x) (by kernel_rfl) rfl (fun a w K hS hA hF => TG.pa hS hA (clK C69 J J J J (fun w H hH le => rtIK (w69 hH (hg.mono (le.at 3 rfl)) (⟨x485⟩ : odd) rfl hx584)) (by
          rintro v_ K588 ⟨cs589, rfl, hr590⟩
          exact finU (f := fun q => .agg q.toArray) (G := (fun (q : List Value) K => (RHeading) K q y586)) _ (fun _ _ _ h x => RHeading.mono _ _ _ _ h x) hr590))) fun cs592 => ?_
        refine DF.und (α := Option Addr × Nat) (none, 0) (fun q => .slice q.1 1 q.2) (fun (q : Option Addr × Nat) K => Sl (RHeading) 4 K q.1 q.2 ([y586] : List Heading)) (fun _ _ _ h x => x.mono (RHeading.mono) h) (by kernel_rfl) rfl (fun a w K hS hA hF => by
          obtain ⟨ad593, cap594, ad596, cap597, ad599, cap600, rfl, hl595, hl598, hl601⟩ := (hF.1 rfl)
          have := hl595.len
          have := hl598.len
          have := hl601.len
          exact TG.pa hS hA (bS (cs := [.string (bs y586.name), .slice ad593 y586.variants.length cap594, .slice ad596 y586.also.length cap597, .slice ad599 y586.places.length cap600]) T11.E26 J J J J fun q602 K603 hq604 hK605 => by
          refine TG.pack (fun K => Sl (RHeading) 4 K (some q602) 1 ([y586] : List Heading)) (fun H le => Sl.litR (css := [[.string (bs y586.name), .slice ad593 y586.variants.length cap594, .slice ad596 y586.also.length cap597, .slice ad599 y586.places.length cap600]]) (l := ([y586] : List Heading)) ⟨⟨rfl, rfl, ⟨_, _, _, _, _, _, rfl, (hl595.mono (Flat.mono _) (le.at 1 rfl)), (hl598.mono (Flat.mono _) (le.at 1 rfl)), (hl601.mono (Flat.mono _) (le.at 1 rfl))⟩⟩, tv⟩ hq604 (hK605.mono (le.at 0 rfl)) rfl) fun K607 hl606 => ?_
          have := hl606.len
          refine sk1 ?_
          exact finU (f := fun q => .slice q.1 1 q.2) (G := (fun (q : Option Addr × Nat) K => Sl (RHeading) 4 K q.1 q.2 ([y586] : List Heading))) (_, _) (fun _ _ _ h x => x.mono (RHeading.mono) h) hl606)) ?_
        rintro ⟨ad609, cap610⟩
        refine DF.nil fun K611 hF => ?_
        obtain ⟨hu608, hu591, _⟩ := hF
        have hr612 := hu591
        obtain ⟨ad613, cap614, ad616, cap617, ad619, cap620, rfl, hl615, hl618, hl621⟩ := hu591
        have := hl615.len
        have := hl618.len
        have := hl621.len
        have := hu608.len
        obtain ⟨hk622, hr623⟩ := chk_some hr585
        have := lenA s385.2.1 ([y586] : List Heading)
        refine TG.pack (fun K => Sl (RHeading) 4 K ad609 cap610 ([y586] : List Heading) ∧ Rows (RHeading) 4 K css388 s385.2.1) (fun H le => ⟨hu608.mono (RHeading.mono) (le.at 0 rfl), hR390.mono (RHeading.mono) (le.at 1 rfl)⟩) fun K626 ⟨hm627, hR628⟩ => (apR 5 (l := s385.2.1) (m := ([y586] : List Heading)) T11.E26 J J J J J J hm627 hR628 RHeading.one rfl hk622 fun ad624 cap625 css630 hR629 => (sto 1 (cs := [.slice ad624 ((s385.2.1 ++ ([y586] : List Heading)).length) cap625]) Z26 J J J J J J J (on ?_)))
        cases hr623
        intro a w hS hA
        exact ⟨_, rfl, ad624, cap625, css630, K626, hs391, az392, hS.selH [0, 2, 3, 4] rfl, hA.cut ⟨rfl, rfl, rfl, rfl, rfl, rfl, rfl, tv⟩, hR629, hF393⟩
       ·cases hr585
        cases hr561
        obtain rfl := Fin.out hz395
        cases hr375
        refine drG 5 mixed (by kernel_rfl) rfl (dt rfl (ld G26 J J (sO 1 rfl) rfl fin1) (dt rfl (m1 rfl fin1) (dt rfl (bu (cs := [.string (bs x485)]) T11.B111 J J J fin1) ?_)))
        refine DF.und () (fun _ => .bool false) (fun _ _ => False) (fun _ _ _ h x => x) (by kernel_rfl) rfl (fun a w K hS hA hF => TG.pa hS hA (clTp C69 J J J (fun w H hH le => rtPK (w69 hH (hg.mono (le.at 3 rfl)) (⟨x485⟩ : odd) rfl hx584)) (by
           refine TG.del 5 (TG.dropF (A := [(3, Own.map' keS (fun v : Value => v) b16 hs391), (2, cel b2 27 [.int .i64 0]), (1, cel b1 26 [.slice ad386 s385.2.1.length cap387])]) (TG.del 3 (TG.eq (σ' := [(2, cel b2 27 [.int .i64 0]), (1, cel b1 26 [.slice ad386 s385.2.1.length cap387])]) rfl (pn28 (tA := 1) (tB := 2) J J J fun b631 cs632 => ?_))))
           intro a w hS hA
           refine rc2 hA rfl (ResAt.cell rfl (loads1 G26 (cell_at (hS.get (t := 1) rfl)) rfl)) (ResAt.cell rfl (loads1 G27 (cell_at (hS.get (t := 2) rfl)) rfl)) ?_
           exact ⟨⟨_, _, rfl, (Sl.nil _ _ _ _ _ (by decide))⟩, hS.ext⟩))) fun _ => ?_
        refine DF.und () (fun _ => .bool false) (fun _ _ => False) (fun _ _ _ h x => x) (by kernel_rfl) rfl (fun a w K hS hA hF => (False.elim (hF.1 rfl))) fun _ => (DF.nil fun K635 hF => ?_)
        obtain ⟨hu634, hu633, _⟩ := hF
        exact False.elim hu633
     ·rintro a w ⟨t562, rfl, ad563, cap564, css565, K566, hs568, az569, hS, hA, hR567, hF570⟩
      refine TG.ap ?_ hS hA
      refine rg (adI J J J (by omega) (m1 rfl (on ?_)))
      cases hr561
      intro a w hS hA
      exact ⟨_, hz395, ad563, cap564, css565, K566, hs568, az569, hS.selH [0, 2, 3] rfl, hA.cut ⟨rfl, rfl, rfl, rfl, rfl, rfl, rfl, tv⟩, hR567, hF570⟩
    ·have hr636 := if_n hc400 hr394
     refine xt rfl ?_
     cases hr636
     obtain rfl := Fin.out hz395
     intro a w hS hA
     exact ⟨_, rfl, ad386, cap387, css388, K389, hs391, az392, hS, hA.cut ⟨rfl, rfl, rfl, rfl, tv⟩, hR390, hF393⟩
  ·rintro a w ⟨t376, rfl, ad377, cap378, css379, K380, hs382, az383, hS, hA, hR381, hF384⟩
   apply TG.ap ?_ hS hA
   refine sq (sq (rg (ld G26 J J (sO 1 rfl) rfl (TG.len 5 rfl fun _ => (lnL U26 J J (m1 rfl (on (TG.lieR [(5, Own.rows ad377 cap378 64 4 css379 t376.1), (3, Own.map' keS (fun v : Value => v) b16 hs382), (2, cel b2 27 [.int .i64 0]), (1, cel b1 26 [.slice ad377 t376.1.length cap378])] 3 hF384 rfl (fun _ => rfl) fun K692 hm694 => ?_))))))))
   obtain ⟨e744, hl745, hr746⟩ := bd_some hr375
   refine jn (fun a w => ∃ (ad747 : Option Addr) (cap748 : Nat) (css749 : List (List Value)) (K750 : Hp), St M W H [K750, K692, K380, K12, H] [(5, Own.rows ad747 cap748 64 4 css749 e744), (2, cel b2 27 [.int .i64 0]), (1, cel b1 26 [.slice ad747 e744.length cap748])] w ∧ Has [dfc 66 [.pointer (some (⟨b1, 0, none⟩)), .pointer (some (⟨b2, 0, none⟩))]] 88 a [(0, .slice ad_b_0 b_0.length cap_b_0), (2, .pointer (some (⟨b1, 0, none⟩))), (3, .pointer (some (⟨b2, 0, none⟩)))] ∧ Rows (RHeading) 4 K750 css749 e744) ?_ ?_
   ·refine bk ?_
    refine lp hl745 (fun s752 a w => ∃ (mp753 : Value) (K754 : Hp) (ad756 : Option Addr) (cap757 : Nat) (css758 : List (List Value)) (K759 : Hp), St M W H [K754, K759, K692, K380, K12, H] [(5, Own.rows ad756 cap757 64 4 css758 s752.2.2), (2, cel b2 27 [.int .i64 0]), (1, cel b1 26 [.slice ad756 s752.2.2.length cap757])] w ∧ Has [dfc 66 [.pointer (some (⟨b1, 0, none⟩)), .pointer (some (⟨b2, 0, none⟩))]] 88 a [(0, .slice ad_b_0 b_0.length cap_b_0), (2, .pointer (some (⟨b1, 0, none⟩))), (3, .pointer (some (⟨b2, 0, none⟩))), (5, mp753), (55, .int .i64 (t376.1.length : Int)), (56, .int .i64 (s752.1 : Int))] ∧ Mr keS encS 1 K754 mp753 s752.2.1 ∧ Rows (RHeading) 4 K759 css758 s752.2.2) ?_ ?_
    ·intro a w hS hA
     exact ⟨.map (some b16), K692, ad377, cap378, css379, K380, hS.selH [0, 1, 0, 1, 2, 3] rfl, hA.cut ⟨rfl, rfl, rfl, rfl, rfl, rfl, tv⟩, hm694, hR381⟩
    ·rintro j s752 y763 hr761 hz762 a w ⟨mp753, K754, ad756, cap757, css758, K759, hS, hA, hm755, hR760⟩
     refine TG.ap ?_ hS hA
     unfold m28_2 at hr761
     refine sq (rg (ltI J J J (on (sq ?_))))
     refine ci rfl (fun hc767 => ?_) (fun hc767 => ?_)
     ·have hr768 := if_p hc767 hr761
      refine sk (sq (bk (sq (rg (m1 rfl (a1 rfl (on ?_)))))))
      obtain ⟨x798, hx799, hr800⟩ := bd_some hr768
      refine TG.addr 5 rfl (lt_of0 hx799) fun b801 h => ?_; subst h
      obtain ⟨cs802, hr803, hl804, hcs805, sc806⟩ := sER hR760 hx799
      have hr807 := hr803
      obtain ⟨ad808, cap809, ad811, cap812, ad814, cap815, rfl, hl810, hl813, hl816⟩ := hr803
      have := hl810.len
      have := hl813.len
      have := hl816.len
      obtain ⟨hs817, ad818, cap819, hm820, he821, hl822⟩ := hm755.look x798.name
      refine drG 9 mixed (by kernel_rfl) rfl (dt rfl (ld G26 J J (sO 1 rfl) rfl fin1) (dt rfl (m1 rfl fin1) (dt rfl (m1 rfl fin1) (dt rfl (ld G26 J J (sO 1 rfl) rfl fin1) (dt rfl (m1 rfl fin1) (dt rfl (iaP U26 Z64 J J J J (lt_of hx799) fin1) (dt rfl (fb 0 U64 J J J J Z9 fin1) (dt rfl (ld G9 J J ((sc806 (t := 5) rfl).take 1) rfl fin1) (dt rfl (lkR (ke := keS) x798.name U114 U9 Tryz.zeroValue50 J J J (mS 1 rfl hm820) he821 fin1) (DF.nil fun K823 hF => (iaP U26 Z64 J J J J (lt_of hx799) ?_)))))))))))
      refine fb 1 U64 J J J J Z50 ?_
      have hln826 : (s752.2.2.set s752.1 (⟨x798.name, ((lkp s752.2.1 x798.name).getD []), x798.also, x798.places⟩ : Heading)).length = s752.2.2.length := (lenS _ _ _)
      refine TG.pack (fun K => Rows (RHeading) 4 K (css758.set s752.1 [.string (bs x798.name), .slice ad818 (((lkp s752.2.1 x798.name).getD []).length) cap819, .slice ad811 x798.also.length cap812, .slice ad814 x798.places.length cap815]) (s752.2.2.set s752.1 (⟨x798.name, ((lkp s752.2.1 x798.name).getD []), x798.also, x798.places⟩ : Heading))) (fun H le => Rows.set (R := RHeading) (cs1 := [.string (bs x798.name), .slice ad818 (((lkp s752.2.1 x798.name).getD []).length) cap819, .slice ad811 x798.also.length cap812, .slice ad814 x798.places.length cap815]) (y := (⟨x798.name, ((lkp s752.2.1 x798.name).getD []), x798.also, x798.places⟩ : Heading)) J J ⟨_, _, _, _, _, _, rfl, (hl822.mono (Flat.mono _) (le.at 1 rfl)), (hl813.mono (Flat.mono _) (le.at 2 rfl)), (hl816.mono (Flat.mono _) (le.at 2 rfl))⟩ s752.1 (hR760.mono (RHeading.mono) (le.at 2 rfl))) fun K824 hR825 => (stR 5 (⟨x798.name, ((lkp s752.2.1 x798.name).getD []), x798.also, x798.places⟩ : Heading) [.string (bs x798.name), .slice ad818 (((lkp s752.2.1 x798.name).getD []).length) cap819, .slice ad811 x798.also.length cap812, .slice ad814 x798.places.length cap815] (q := ⟨b801, 0, none⟩) (j := s752.1) (size := 4) (cs := [.slice ad818 (((lkp s752.2.1 x798.name).getD []).length) cap819]) (off := 1) Z50 (ad2 (b := 1) rfl) J J hR760 hcs805 J J J J J J (on (rg (adI J J J (by omega) (m1 rfl (on (TG.as 1 (z := cel b1 26 [.slice (some ⟨b801, 0, none⟩) ((s752.2.2.set s752.1 (⟨x798.name, ((lkp s752.2.1 x798.name).getD []), x798.also, x798.places⟩ : Heading)).length) cap757]) rfl (by rw [hln826]) ?_)))))))
      cases hr800
      intro a w hS hA
      exact ⟨_, hz762, mp753, K754, (some ⟨b801, 0, none⟩), cap757, (css758.set s752.1 [Value.string (bs x798.name), Value.slice ad818 (((lkp s752.2.1 x798.name).getD []).length) cap819, Value.slice ad811 x798.also.length cap812, Value.slice ad814 x798.places.length cap815]), K824, hS.selH [2, 0, 4, 5, 6, 7] rfl, hA.cut ⟨rfl, rfl, rfl, rfl, rfl, rfl, tv⟩, hm755, hR825⟩
     ·have hr827 := if_n hc767 hr761
      refine xt rfl ?_
      cases hr827
      obtain rfl := Fin.out hz762
      intro a w hS hA
      exact ⟨ad756, cap757, css758, K759, hS.selH [1, 2, 3, 4, 5] rfl, hA.cut ⟨rfl, rfl, rfl, tv⟩, hR760⟩
   ·rintro a w ⟨ad747, cap748, css749, K750, hS, hA, hR751⟩
    apply TG.ap ?_ hS hA
    refine sq (sq (rg (ld G26 J J (sO 1 rfl) rfl (TG.stillR 5 rfl 0 rfl (RHeading.mono) hR751 fun K828 hl829 => ?_))))
    have := hl829.len
    obtain ⟨r830, hx831, hr832⟩ := bd_some hr746
    refine clK C50 J J J J (fun w H hH le => w50 hH (hg.mono (le.at 5 rfl)) (hl829.mono (RHeading.mono) (le.at 0 rfl)) hx831) ?_
    rintro v_ K833 ⟨mp834, rfl, hm835⟩
    refine m1 rfl (ex J J J (ex J J J (a1 rfl (a1 rfl (on (sq ?_))))))
    obtain ⟨t844, hx845, hr846⟩ := bd_some hr832
    refine jn (fun a w => St M W H [K833, K828, K750, K692, K380, K12, H] [(2, cel b2 27 [.int .i64 0]), (1, cel b1 26 [.slice ad747 e744.length cap748])] w ∧ Has [dfc 66 [.pointer (some (⟨b1, 0, none⟩)), .pointer (some (⟨b2, 0, none⟩))]] 88 a [(2, .pointer (some (⟨b1, 0, none⟩))), (3, .pointer (some (⟨b2, 0, none⟩))), (84, .bool t844)]) ?_ ?_
    ·by_cases hb847 : r830.2 ≠ 0
     ·have hr848 := if_p hb847 hx845
      refine drG 7 mixed (by kernel_rfl) rfl (dt rfl (m1 rfl fin1) (dt rfl (neI J J J fin1) (dt rfl (m1 rfl fin1) (dt rfl (gf' hb847 rfl fin1) (dt rfl (gf' hb847 rfl fin1) (dt rfl (gf' hb847 rfl fin1) (dt rfl (gf' hb847 rfl fin1) (DF.nil fun K849 hF => (gf' hb847 rfl (pt hb847 J J (on ?_)))))))))))
      cases hr848
      intro a w hS hA
      exact ⟨hS.selH [1, 2, 3, 4, 5, 6, 7] rfl, hA.cut ⟨rfl, rfl, rfl, tv⟩⟩
     ·have hr850 := if_n hb847 hx845
      obtain ⟨r851, hx852, hr853⟩ := bd_some hr850
      refine drG 7 mixed (by kernel_rfl) rfl (dt rfl (m1 rfl fin1) (dt rfl (neI J J J fin1) (dt rfl (m1 rfl fin1) (dt rfl (gt' hb847 rfl (ld G26 J J (sO 1 rfl) rfl fin1)) (dt rfl (gt' hb847 rfl (clS C63 J J J J (fun w H hH le => w63 hH (hg.mono (le.at 7 rfl)) (hl829.mono (RHeading.mono) (le.at 2 rfl)) hx852) fin1)) (dt rfl (gt' hb847 rfl (m1 rfl fin1)) (dt rfl (gt' hb847 rfl (cvT h_b_0 7 rfl U37 U5 U9 J J fin1)) (DF.nil fun K854 hF => (gt' hb847 rfl (neS J J J (pf hb847 J J ?_)))))))))))
      refine on ?_
      cases hr853
      intro a w hS hA
      exact ⟨hS.selH [1, 2, 3, 4, 5, 6, 7] rfl, hA.cut ⟨rfl, rfl, rfl, tv⟩⟩
    ·rintro a w ⟨hS, hA⟩
     refine TG.ap ?_ hS hA
     refine cb rfl (fun hc858 => ?_) (fun hc858 => ?_)
     ·have hr859 := if_p hc858 hr846
      refine rg (bu (cs := [.string (bs [])]) T11.B111 J J J (fi U111 J J J (pnc rfl (TG.eq (σ' := [(2, cel b2 27 [.int .i64 0]), (1, cel b1 26 [.slice ad747 e744.length cap748])]) rfl (pn28 (tA := 1) (tB := 2) J J J fun b860 cs861 => ?_)))))
      cases hr859
      intro a w hS hA
      refine rc2 hA rfl (ResAt.cell rfl (loads1 G26 (cell_at (hS.get (t := 1) rfl)) rfl)) (ResAt.cell rfl (loads1 G27 (cell_at (hS.get (t := 2) rfl)) rfl)) ?_
      exact ⟨⟨_, _, rfl, (Sl.nil _ _ _ _ _ (by decide))⟩, hS.ext⟩
     ·have hr862 := if_f hc858 hr846
      refine sk (sq (rg (ld G26 J J (sO 1 rfl) rfl (sto 1 (cs := [.slice ad747 e744.length cap748]) Z26 J J J J J J J (sto 2 (cs := [.int .i64 0]) Z27 J J J J J J J (on (rt_ ?_)))))))
      cases hr862
      refine rt28 ?_
      intro a w hS hA
      refine rc2 hA rfl (ResAt.cell rfl (loads1 G26 (cell_at (hS.get (t := 1) rfl)) rfl)) (ResAt.cell rfl (loads1 G27 (cell_at (hS.get (t := 2) rfl)) rfl)) ?_
      exact ⟨⟨_, _, rfl, (hl829.mono (RHeading.mono) (hS.grow 1 rfl))⟩, hS.ext⟩

theorem w73 {M : Prop} {W : World} {cs_p_0 : List Value} (p_0 : Place) (h_p_0 : (Flat encPlace) (hp W) cs_p_0 p_0) {cs_c_1 : List Value} (c_1 : A2_Int) (h_c_1 : (Flat encA2_Int) (hp W) cs_c_1 c_1) {r : Bool} (hr : m73 p_0 c_1 = some r) : Calls Tryz.prog 73 [.agg cs_p_0.toArray, .agg cs_c_1.toArray].toArray W (RetS M W (.bool r)) := by
 obtain rfl := h_p_0
 obtain rfl := h_c_1
 unfold m73 at hr
 refine enterG (M := M) Tryz.func73 rfl Tryz.ntmps73 rfl (Hp.le.refl _) ?_
 refine sq (rg (bI (cs := [.int .i64 p_0.volume, .int .i64 p_0.from_, .int .i64 p_0.to_]) J J J fun q1 K2 hK3 => (bI (cs := [.int .i64 c_1.e0, .int .i64 c_1.e1]) J J J fun q4 K5 hK6 => (a1 rfl (on (sq ?_))))))
 obtain ⟨t13, hx14, hr15⟩ := bd_some hr
 refine jn (fun a w => St M W (hp W) [K5, K2, (hp W)] [] w ∧ Has [] 19 a [(4, .bool t13)]) ?_ ?_
 ·refine rg (fb 0 U81 J J J J Z3 (ld G3 J J ((sS 1 rfl hK3).take 1) rfl (iaA U121 Z3 J J J (j := 0) rfl (by decide) (ld G3 J J ((sS 0 rfl hK6).take 1) rfl (eqI J J J (m1 rfl ?_))))))
  by_cases hb16 : p_0.volume = c_1.e0
  ·have hr17 := if_p hb16 hx14
   refine gt hb16 rfl (iaA U121 Z3 J J J (j := 1) rfl (by decide) (gt hb16 rfl (ld G3 J J ((sS 0 rfl hK6).drop 1) rfl (gt hb16 rfl (fb 1 U81 J J J J Z3 (gt hb16 rfl (ld G3 J J (((sS 1 rfl hK3).drop 1).take 1) rfl (gt hb16 rfl (fb 2 U81 J J J J Z3 (gt hb16 rfl (ld G3 J J ((sS 1 rfl hK3).drop 2) rfl ?_)))))))))))
   refine gt hb16 rfl ?_
   obtain ⟨r18, hx19, hr20⟩ := bd_some hr17
   refine clS C72 J J J J (fun w H hH le => w72 c_1.e1 p_0.from_ p_0.to_ hx19) (pt hb16 J J (a1 rfl (on ?_)))
   cases hr20
   exact cu ⟨rfl, tv⟩
  ·have hr21 := if_n hb16 hx14
   refine gf hb16 rfl (gf hb16 rfl (gf hb16 rfl (gf hb16 rfl (gf hb16 rfl (gf hb16 rfl (gf hb16 rfl (pf hb16 J J (a1 rfl (on ?_)))))))))
   cases hr21
   exact cu ⟨rfl, tv⟩
 ·rintro a w ⟨hS, hA⟩
  refine TG.ap ?_ hS hA
  refine rt_ ?_
  cases hr15
  intro a w hS hA
  refine ret1 hA J J ?_
  exact ⟨rfl, hS.ext⟩

theorem w33 {M : Prop} {W : World} {H : Hp} (hH : H.le (hp W)) (hg : Gv M H) {ad_l_0 : Option Addr} {cap_l_0 : Nat} {l_0 : List Heading} (h_l_0 : Sl (RHeading) 4 H ad_l_0 cap_l_0 l_0) (volume : Int) (number : Int) {r : List Bytes × Int} (hr : m33 l_0 volume number = some r) : Calls Tryz.prog 33 [.slice ad_l_0 l_0.length cap_l_0, .int .i64 volume, .int .i64 number].toArray W (RetK M H W (fun v K => ∃ (ad0 : Option Addr) (cap0 : Nat), v = .tuple [.slice ad0 r.1.length cap0, .int .i64 r.2].toArray ∧ Sl (Flat encS) 1 K ad0 cap0 r.1)) := by
 have := h_l_0.len
 unfold m33 at hr
 refine enterG (M := M) Tryz.func33 rfl Tryz.ntmps33 rfl hH ?_
 refine sq (rg (a1 rfl (a1 rfl (on (sc (sq (sq (rg (m1 rfl ?_)))))))))
 obtain ⟨r1, hx2, hr3⟩ := bd_some hr
 refine clK C50 J J J J (fun w H hH le => w50 hH (hg.mono (le.at 0 rfl)) (h_l_0.mono (RHeading.mono) (le.at 0 rfl)) hx2) ?_
 rintro v_ K4 ⟨mp5, rfl, hm6⟩
 refine m1 rfl (ex J J J (ex J J J (a1 rfl (a1 rfl (on (sq (rg (m1 rfl (neI J J J (on ?_))))))))))
 refine ci rfl (fun hc10 => ?_) (fun hc10 => ?_)
 ·have hr11 := if_p hc10 hr3
  refine sq (rg (m1 rfl (a1 rfl (a1 rfl (on (rt_ ?_))))))
  cases hr11
  intro a w hS hA
  refine ret2 hA J J J ?_
  exact ⟨⟨_, _, rfl, (Sl.nil _ _ _ _ _ (by decide))⟩, hS.ext⟩
 ·have hr12 := if_n hc10 hr3
  refine sk (sq (sq ?_))
  obtain ⟨t22, hx23, hr24⟩ := bd_some hr12
  refine jn (fun a w => St M W H [K4, H] [] w ∧ Has [] 58 a [(0, .slice ad_l_0 l_0.length cap_l_0), (1, .int .i64 volume), (2, .int .i64 number), (6, .slice none 0 0), (30, .bool t22)]) ?_ ?_
  ·refine rg (m1 rfl ?_)
   obtain ⟨r25, hx26, hr27⟩ := bd_some hx23
   refine clS C72 J J J J (fun w H hH le => w72 volume 1 999 hx26) (nt J J (m1 rfl ?_))
   rcases Bool.eq_false_or_eq_true (r25) with hb28 | hb28
   ·have hr29 := if_p hb28 hr27
    refine gN J J (congrArg not (hb28)) (m1 rfl (gN J J (congrArg not (hb28)) ?_))
    obtain ⟨r30, hx31, hr32⟩ := bd_some hr29
    refine clS C72 J J J J (fun w H hH le => w72 number 1 9999 hx31) (gN J J (congrArg not (hb28)) (nt J J (pF J J (congrArg not (hb28)) rfl (on ?_))))
    cases hr32
    exact cu ⟨rfl, rfl, rfl, rfl, rfl, tv⟩
   ·have hr33 := if_f hb28 hr27
    refine gF J J (congrArg not (hb28)) rfl (gF J J (congrArg not (hb28)) rfl (gF J J (congrArg not (hb28)) rfl (pT J J (congrArg not (hb28)) rfl (on ?_))))
    cases hr33
    exact cu ⟨rfl, rfl, rfl, rfl, rfl, tv⟩
  ·rintro a w ⟨hS, hA⟩
   refine TG.ap ?_ hS hA
   refine cb rfl (fun hc37 => ?_) (fun hc37 => ?_)
   ·have hr38 := if_p hc37 hr24
    refine sq (rg (a1 rfl (a1 rfl (on (rt_ ?_)))))
    cases hr38
    intro a w hS hA
    refine ret2 hA J J J ?_
    exact ⟨⟨_, _, rfl, (Sl.nil _ _ _ _ _ (by decide))⟩, hS.ext⟩
   ·have hr39 := if_f hc37 hr24
    refine sk (sq (rg (m1 rfl (m1 rfl (buA (cs := [.int .i64 volume, .int .i64 number]) T11.B121 J J J (va (cs := [.int .i64 volume, .int .i64 number]) Tryz.zeroValue121 Z121 J J J J J J J J fun q40 K41 hK42 => (on (sq (lb (sq (sq ?_)))))))))))
    refine rg (m1 rfl (lnL U26 J J (m1 rfl (on (TG.nilRow 2 9 1 (TG.as 2 (z := Own.list none 0 9 1 encS ([] : List Bytes)) J J ?_))))))
    obtain ⟨e268, hl269, hr270⟩ := bd_some hr39
    refine jn (fun a w => ∃ (ad271 : Option Addr) (cap272 : Nat), St M W H [K41, K4, H] [(2, Own.list ad271 cap272 9 1 encS e268)] w ∧ Has [] 58 a [(6, .slice ad271 e268.length cap272)]) ?_ ?_
    ·refine bk ?_
     refine lp hl269 (fun s273 a w => ∃ (ad274 : Option Addr) (cap275 : Nat), St M W H [K41, K4, H] [(2, Own.list ad274 cap275 9 1 encS s273.2)] w ∧ Has [] 58 a [(6, .slice ad274 s273.2.length cap275), (10, .pointer (some q40)), (34, .slice ad_l_0 l_0.length cap_l_0), (35, .int .i64 (l_0.length : Int)), (36, .int .i64 (s273.1 : Int))]) ?_ ?_
     ·intro a w hS hA
      exact ⟨none, 0, hS, hA.cut ⟨rfl, rfl, rfl, rfl, rfl, tv⟩⟩
     ·rintro j s273 y278 hr276 hz277 a w ⟨ad274, cap275, hS, hA⟩
      refine TG.ap ?_ hS hA
      unfold m33_1 at hr276
      refine sq (rg (ltI J J J (on (sq ?_))))
      refine ci rfl (fun hc282 => ?_) (fun hc282 => ?_)
      ·have hr283 := if_p hc282 hr276
       refine sk (sq ?_)
       obtain ⟨t332, hx333, hr334⟩ := bd_some hr283
       refine jn (fun a w => ∃ (ad335 : Option Addr) (cap336 : Nat), St M W H [K41, K4, H] [(2, Own.list ad335 cap336 9 1 encS t332)] w ∧ Has [] 58 a [(6, .slice ad335 t332.length cap336), (10, .pointer (some q40)), (34, .slice ad_l_0 l_0.length cap_l_0), (35, .int .i64 (l_0.length : Int)), (36, .int .i64 (s273.1 : Int))]) ?_ ?_
       ·refine bk (sq (rg ?_))
        obtain ⟨x337, hx338, hr339⟩ := bd_some hx333
        obtain ⟨p340, rfl⟩ := h_l_0.adr hx338
        obtain ⟨cs341, hcs342, hq343, hr344⟩ := h_l_0.at hx338
        have hr345 := hr344
        obtain ⟨ad346, cap347, ad349, cap350, ad352, cap353, rfl, hl348, hl351, hl354⟩ := hr344
        have := hl348.len
        have := hl351.len
        have := hl354.len
        refine iaP U26 Z64 J J J J (lt_of hx338) (ldA G64 Z64 J J (sS 2 rfl hq343) rfl (va (cs := [.string (bs x337.name), .slice ad346 x337.variants.length cap347, .slice ad349 x337.also.length cap350, .slice ad352 x337.places.length cap353]) Tryz.zeroValue64 Z64 J J J J J J J J fun q355 K356 hK357 => (on (sq (rg (fb 3 U64 J J J J Z62 (ld G62 J J ((sS 0 rfl hK357).drop 3) rfl (lnL U62 J J (m1 rfl (on ?_))))))))))
        obtain ⟨e384, hl385, hr386⟩ := bd_some hr339
        refine jn (fun a w => ∃ t387, e384 = .inl t387 ∧ St M W H [K356, K41, K4, H] [(2, Own.list ad274 cap275 9 1 encS s273.2)] w ∧ Has [] 58 a [(6, .slice ad274 s273.2.length cap275), (10, .pointer (some q40)), (34, .slice (some p340) l_0.length cap_l_0), (35, .int .i64 (l_0.length : Int)), (36, .int .i64 (s273.1 : Int))]) ?_ ?_
        ·refine bk ?_
         refine lp hl385 (fun s388 a w => St M W H [K356, K41, K4, H] [(2, Own.list ad274 cap275 9 1 encS s273.2)] w ∧ Has [] 58 a [(6, .slice ad274 s273.2.length cap275), (10, .pointer (some q40)), (12, .pointer (some q355)), (34, .slice (some p340) l_0.length cap_l_0), (35, .int .i64 (l_0.length : Int)), (36, .int .i64 (s273.1 : Int)), (41, .slice ad352 x337.places.length cap353), (42, .int .i64 (x337.places.length : Int)), (43, .int .i64 (s388 : Int))]) ?_ ?_
         ·exact cu ⟨rfl, rfl, rfl, rfl, rfl, rfl, rfl, rfl, rfl, tv⟩
         ·rintro j s388 y391 hr389 hz390 a w ⟨hS, hA⟩
          refine TG.ap ?_ hS hA
          unfold m33_2 at hr389
          refine sq (rg (ltI J J J (on (sq ?_))))
          refine ci rfl (fun hc395 => ?_) (fun hc395 => ?_)
          ·have hr396 := if_p hc395 hr389
           refine sk (sq (bk (sq (rg ?_))))
           obtain ⟨x419, hx420, hr421⟩ := bd_some hr396
           obtain ⟨p422, rfl⟩ := hl354.adr hx420
           obtain ⟨cs423, hcs424, hq425, hr426⟩ := hl354.at hx420
           obtain rfl := hr426
           refine iaP U62 Z81 J J J J (lt_of hx420) (ldA G81 Z81 J J (sS 3 rfl hq425) rfl (va (cs := [.int .i64 x419.volume, .int .i64 x419.from_, .int .i64 x419.to_]) Tryz.zeroValue81 Z81 J J J J J J J J fun q427 K428 hK429 => (on (sq (rg (ldA G81 Z81 J J (sS 0 rfl hK429) rfl (ldA G121 Z121 J J (sS 2 rfl hK42) rfl ?_)))))))
           obtain ⟨r430, hx431, hr432⟩ := bd_some hr421
           refine clS C73 J J J J (fun w H hH le => w73 x419 rfl (⟨volume, number⟩ : A2_Int) rfl hx431) (on ?_)
           refine cb rfl (fun hc441 => ?_) (fun hc441 => ?_)
           ·have hr442 := if_p hc441 hr432
            refine sq (rg (m1 rfl (fb 0 U64 J J J J Z9 (ld G9 J J ((sS 1 rfl hK357).take 1) rfl ?_))))
            obtain ⟨hk443, hr444⟩ := chk_some hr442
            have := lenA s273.2 [x337.name]
            have := len1 x337.name
            refine ap1 2 encS (l := s273.2) x337.name T11.E50 J J J J J J J J J J J J hk443 fun ad445 cap446 u447 => (a1 rfl (on (xt rfl ?_)))
            obtain ⟨z448, hr449, rfl⟩ := mp_some hr444
            obtain rfl := Fin.out hz390
            cases hr386
            cases hr449
            intro a w hS hA
            exact ⟨ad445, cap446, hS.selH [2, 3, 4] rfl, hA.cut ⟨rfl, rfl, rfl, rfl, rfl, tv⟩⟩
           ·have hr450 := if_f hc441 hr432
            refine sk (rg (adI J J J (by omega) (m1 rfl (on ?_))))
            cases hr450
            intro a w hS hA
            exact ⟨_, hz390, hS.selH [1, 2, 3, 4] rfl, hA.cut ⟨rfl, rfl, rfl, rfl, rfl, rfl, rfl, rfl, rfl, tv⟩⟩
          ·have hr451 := if_n hc395 hr389
           refine xt rfl ?_
           cases hr451
           obtain rfl := Fin.out hz390
           intro a w hS hA
           exact ⟨_, rfl, hS, hA.cut ⟨rfl, rfl, rfl, rfl, rfl, tv⟩⟩
        ·rintro a w ⟨t387, rfl, hS, hA⟩
         apply TG.ap ?_ hS hA
         cases hr386
         intro a w hS hA
         exact ⟨ad274, cap275, hS.selH [1, 2, 3] rfl, hA.cut ⟨rfl, rfl, rfl, rfl, rfl, tv⟩⟩
       ·rintro a w ⟨ad335, cap336, hS, hA⟩
        refine TG.ap ?_ hS hA
        refine rg (adI J J J (by omega) (m1 rfl (on ?_)))
        cases hr334
        intro a w hS hA
        exact ⟨_, hz277, ad335, cap336, hS, hA.cut ⟨rfl, rfl, rfl, rfl, rfl, tv⟩⟩
      ·have hr452 := if_n hc282 hr276
       refine xt rfl ?_
       cases hr452
       obtain rfl := Fin.out hz277
       intro a w hS hA
       exact ⟨ad274, cap275, hS, hA.cut ⟨rfl, tv⟩⟩
    ·rintro a w ⟨ad271, cap272, hS, hA⟩
     apply TG.ap ?_ hS hA
     refine sq (rg (m1 rfl (a1 rfl (a1 rfl (on (rt_ ?_))))))
     cases hr270
     intro a w hS hA
     refine ret2 hA J J J ?_
     exact ⟨⟨_, _, rfl, (hS.listOut 2 rfl (fun _ => rfl))⟩, hS.ext⟩

theorem w44 {M : Prop} {W : World} {H : Hp} (hH : H.le (hp W)) {ad_a_0 : Option Addr} {cap_a_0 : Nat} {a_0 : List Bytes} (h_a_0 : Sl (Flat encS) 1 H ad_a_0 cap_a_0 a_0) {ad_b_1 : Option Addr} {cap_b_1 : Nat} {b_1 : List Bytes} (h_b_1 : Sl (Flat encS) 1 H ad_b_1 cap_b_1 b_1) {r : Bool} (hr : m44 a_0 b_1 = some r) : Calls Tryz.prog 44 [.slice ad_a_0 a_0.length cap_a_0, .slice ad_b_1 b_1.length cap_b_1].toArray W (RetS M W (.bool r)) := by
 have := h_a_0.len
 have := h_b_1.len
 unfold m44 at hr
 refine enterG (M := M) Tryz.func44 rfl Tryz.ntmps44 rfl hH ?_
 refine sq (rg (a1 rfl (on (sq (sq (rg (m1 rfl (lnL U50 J J (m1 rfl (lnL U50 J J (neI J J J ?_)))))))))))
 refine on ?_
 refine ci rfl (fun hc4 => ?_) (fun hc4 => ?_)
 ·have hr5 := if_p hc4 hr
  refine sq (rg (a1 rfl (on (rt_ ?_))))
  cases hr5
  intro a w hS hA
  refine ret1 hA J J ?_
  exact ⟨rfl, hS.ext⟩
 ·have hr6 := if_n hc4 hr
  refine sk (sq (sq (rg (a1 rfl (on ?_)))))
  obtain ⟨e31, hl32, hr33⟩ := bd_some hr6
  refine jn (fun a w => ∃ t34, e31 = .inl t34 ∧ St M W H [H] [] w ∧ Has [] 26 a []) ?_ ?_
  ·refine bk ?_
   refine lp hl32 (fun s35 a w => St M W H [H] [] w ∧ Has [] 26 a [(0, .slice ad_a_0 a_0.length cap_a_0), (1, .slice ad_b_1 b_1.length cap_b_1), (5, .int .i64 (s35 : Int))]) ?_ ?_
   ·exact cu ⟨rfl, rfl, rfl, tv⟩
   ·rintro j s35 y38 hr36 hz37 a w ⟨hS, hA⟩
    refine TG.ap ?_ hS hA
    unfold m44_1 at hr36
    refine sq (sq (rg (m1 rfl (m1 rfl (lnL U50 J J (ltI J J J (on ?_)))))))
    refine ci rfl (fun hc42 => ?_) (fun hc42 => ?_)
    ·have hr43 := if_p hc42 hr36
     refine sk (sq (bk (sq ?_)))
     obtain ⟨x64, hx65, hr66⟩ := bd_some hr43
     obtain ⟨p67, rfl⟩ := h_a_0.adr hx65
     obtain ⟨cs68, hcs69, hq70, hr71⟩ := h_a_0.at hx65
     obtain rfl := hr71
     obtain ⟨x72, hx73, hr74⟩ := bd_some hr66
     obtain ⟨p75, rfl⟩ := h_b_1.adr hx73
     obtain ⟨cs76, hcs77, hq78, hr79⟩ := h_b_1.at hx73
     obtain rfl := hr79
     refine drG 8 mixed (by kernel_rfl) rfl (dt rfl (m1 rfl fin1) (dt rfl (m1 rfl fin1) (dt rfl (iaP U50 Z9 J J J J (lt_of hx65) fin1) (dt rfl (ld G9 J J (sS 1 rfl hq70) rfl fin1) (dt rfl (m1 rfl fin1) (dt rfl (m1 rfl fin1) (dt rfl (iaP U50 Z9 J J J J (lt_of hx73) fin1) (dt rfl (ld G9 J J (sS 1 rfl hq78) rfl fin1) (DF.nil fun K80 hF => (neS J J J (on ?_)))))))))))
     refine ci rfl (fun hc84 => ?_) (fun hc84 => ?_)
     ·have hr85 := if_p hc84 hr74
      refine sq (rg (a1 rfl (on (rt_ ?_))))
      cases hr85
      obtain rfl := Fin.out hz37
      cases hr33
      intro a w hS hA
      refine ret1 hA J J ?_
      exact ⟨rfl, hS.ext⟩
     ·have hr86 := if_n hc84 hr74
      refine sk (rg (m1 rfl (adI J J J (by omega) (a1 rfl (on ?_)))))
      cases hr86
      intro a w hS hA
      exact ⟨_, hz37, hS.selH [1] rfl, hA.cut ⟨rfl, rfl, rfl, tv⟩⟩
    ·have hr87 := if_n hc42 hr36
     refine xt rfl ?_
     cases hr87
     obtain rfl := Fin.out hz37
     intro a w hS hA
     exact ⟨_, rfl, hS, hA.cut tv⟩
  ·rintro a w ⟨t34, rfl, hS, hA⟩
   apply TG.ap ?_ hS hA
   refine sq (rg (a1 rfl (on (rt_ ?_))))
   cases hr33
   intro a w hS hA
   refine ret1 hA J J ?_
   exact ⟨rfl, hS.ext⟩

theorem w40 {M : Prop} {W : World} {H : Hp} (hH : H.le (hp W)) {cs_a_0 : List Value} (a_0 : Heading) (h_a_0 : (RHeading) H cs_a_0 a_0) {cs_b_1 : List Value} (b_1 : Heading) (h_b_1 : (RHeading) H cs_b_1 b_1) {r : Bool} (hr : m40 a_0 b_1 = some r) : Calls Tryz.prog 40 [.agg cs_a_0.toArray, .agg cs_b_1.toArray].toArray W (RetS M W (.bool r)) := by
 have hh_a_0 := h_a_0
 obtain ⟨ad1, cap2, ad4, cap5, ad7, cap8, rfl, hl3, hl6, hl9⟩ := h_a_0
 have := hl3.len
 have := hl6.len
 have := hl9.len
 have hh_b_1 := h_b_1
 obtain ⟨ad10, cap11, ad13, cap14, ad16, cap17, rfl, hl12, hl15, hl18⟩ := h_b_1
 have := hl12.len
 have := hl15.len
 have := hl18.len
 unfold m40 at hr
 refine enterG (M := M) Tryz.func40 rfl Tryz.ntmps40 rfl hH ?_
 refine sq (rg (bI (cs := [.string (bs a_0.name), .slice ad1 a_0.variants.length cap2, .slice ad4 a_0.also.length cap5, .slice ad7 a_0.places.length cap8]) J J J fun q19 K20 hK21 => (bI (cs := [.string (bs b_1.name), .slice ad10 b_1.variants.length cap11, .slice ad13 b_1.also.length cap14, .slice ad16 b_1.places.length cap17]) J J J fun q22 K23 hK24 => (a1 rfl (on (sq (sq ?_)))))))
 obtain ⟨t40, hx41, hr42⟩ := bd_some hr
 refine jn (fun a w => St M W H [K23, K20, H] [] w ∧ Has [] 54 a [(2, .pointer (some q19)), (3, .pointer (some q22)), (35, .bool t40)]) ?_ ?_
 ·refine rg (fb 0 U64 J J J J Z9 (ld G9 J J ((sS 1 rfl hK21).take 1) rfl (fb 0 U64 J J J J Z9 (ld G9 J J ((sS 0 rfl hK24).take 1) rfl (neS J J J (m1 rfl ?_))))))
  by_cases hb43 : a_0.name ≠ b_1.name
  ·have hr44 := if_p hb43 hx41
   refine gf' hb43 rfl (gf' hb43 rfl (gf' hb43 rfl (gf' hb43 rfl (gf' hb43 rfl (gf' hb43 rfl (pt hb43 J J (m1 rfl (gF J J J J (gF J J J J (gF J J J J (gF J J J J ?_)))))))))))
   refine gF J J J J (gF J J J J (pT J J J J (m1 rfl (gF J J J J (gF J J J J (gF J J J J (gF J J J J (gF J J J J (gF J J J J (gF J J J J (pT J J J J ?_)))))))))))
   refine on ?_
   cases hr44
   exact cu ⟨rfl, rfl, rfl, tv⟩
  ·have hr45 := if_n hb43 hx41
   refine gt' hb43 rfl (fb 1 U64 J J J J Z50 (gt' hb43 rfl (ld G50 J J (((sS 1 rfl hK21).drop 1).take 1) rfl (gt' hb43 rfl (fb 1 U64 J J J J Z50 (gt' hb43 rfl (ld G50 J J (((sS 0 rfl hK24).drop 1).take 1) rfl (gt' hb43 rfl ?_))))))))
   obtain ⟨r46, hx47, hr48⟩ := bd_some hr45
   refine clS C44 J J J J (fun w H hH le => w44 hH (hl3.mono (Flat.mono _) (le.at 2 rfl)) (hl12.mono (Flat.mono _) (le.at 2 rfl)) hx47) (gt' hb43 rfl (nt J J (pf hb43 J J (m1 rfl ?_))))
   rcases Bool.eq_false_or_eq_true (r46) with hb49 | hb49
   ·have hr50 := if_p hb49 hr48
    refine gN J J (congrArg not (hb49)) (fb 2 U64 J J J J Z50 (gN J J (congrArg not (hb49)) (ld G50 J J (((sS 1 rfl hK21).drop 2).take 1) rfl (gN J J (congrArg not (hb49)) (fb 2 U64 J J J J Z50 (gN J J (congrArg not (hb49)) (ld G50 J J (((sS 0 rfl hK24).drop 2).take 1) rfl (gN J J (congrArg not (hb49)) ?_))))))))
    obtain ⟨r51, hx52, hr53⟩ := bd_some hr50
    refine clS C44 J J J J (fun w H hH le => w44 hH (hl6.mono (Flat.mono _) (le.at 2 rfl)) (hl15.mono (Flat.mono _) (le.at 2 rfl)) hx52) (gN J J (congrArg not (hb49)) (nt J J (pF J J (congrArg not (hb49)) rfl (m1 rfl ?_))))
    rcases Bool.eq_false_or_eq_true (r51) with hb54 | hb54
    ·have hr55 := if_p hb54 hr53
     refine gN J J (congrArg not (hb54)) (fb 3 U64 J J J J Z62 (gN J J (congrArg not (hb54)) (ld G62 J J ((sS 1 rfl hK21).drop 3) rfl (gN J J (congrArg not (hb54)) (lnL U62 J J (gN J J (congrArg not (hb54)) (fb 3 U64 J J J J Z62 (gN J J (congrArg not (hb54)) (ld G62 J J ((sS 0 rfl hK24).drop 3) rfl (gN J J (congrArg not (hb54)) (lnL U62 J J ?_)))))))))))
     refine gN J J (congrArg not (hb54)) (neI J J J (pF J J (congrArg not (hb54)) rfl (on ?_)))
     cases hr55
     exact cu ⟨rfl, rfl, rfl, tv⟩
    ·have hr56 := if_f hb54 hr53
     refine gF J J (congrArg not (hb54)) rfl (gF J J (congrArg not (hb54)) rfl (gF J J (congrArg not (hb54)) rfl (gF J J (congrArg not (hb54)) rfl (gF J J (congrArg not (hb54)) rfl (gF J J (congrArg not (hb54)) rfl (gF J J (congrArg not (hb54)) rfl (pT J J (congrArg not (hb54)) rfl (on ?_))))))))
     cases hr56
     exact cu ⟨rfl, rfl, rfl, tv⟩
   ·have hr57 := if_f hb49 hr48
    refine gF J J (congrArg not (hb49)) rfl (gF J J (congrArg not (hb49)) rfl (gF J J (congrArg not (hb49)) rfl (gF J J (congrArg not (hb49)) rfl (gF J J (congrArg not (hb49)) rfl (gF J J (congrArg not (hb49)) rfl (pT J J (congrArg not (hb49)) rfl (m1 rfl (gF J J J J (gF J J J J (gF J J J J (gF J J J J ?_)))))))))))
    refine gF J J J J (gF J J J J (gF J J J J (pT J J J J (on ?_))))
    cases hr57
    exact cu ⟨rfl, rfl, rfl, tv⟩
 ·rintro a w ⟨hS, hA⟩
  refine TG.ap ?_ hS hA
  refine cb rfl (fun hc61 => ?_) (fun hc61 => ?_)
  ·have hr62 := if_p hc61 hr42
   refine sq (rg (a1 rfl (on (rt_ ?_))))
   cases hr62
   intro a w hS hA
   refine ret1 hA J J ?_
   exact ⟨rfl, hS.ext⟩
  ·have hr63 := if_f hc61 hr42
   refine sk (sq (sq (rg (a1 rfl (on ?_)))))
   obtain ⟨e88, hl89, hr90⟩ := bd_some hr63
   refine jn (fun a w => ∃ t91, e88 = .inl t91 ∧ St M W H [K23, K20, H] [] w ∧ Has [] 54 a []) ?_ ?_
   ·refine bk ?_
    refine lp hl89 (fun s92 a w => St M W H [K23, K20, H] [] w ∧ Has [] 54 a [(2, .pointer (some q19)), (3, .pointer (some q22)), (5, .int .i64 (s92 : Int))]) ?_ ?_
    ·exact cu ⟨rfl, rfl, rfl, tv⟩
    ·rintro j s92 y95 hr93 hz94 a w ⟨hS, hA⟩
     refine TG.ap ?_ hS hA
     unfold m40_1 at hr93
     refine sq (sq (rg (m1 rfl (fb 3 U64 J J J J Z62 (ld G62 J J ((sS 1 rfl hK21).drop 3) rfl (lnL U62 J J (ltI J J J (on ?_))))))))
     refine ci rfl (fun hc99 => ?_) (fun hc99 => ?_)
     ·have hr100 := if_p hc99 hr93
      refine sk (sq (bk (sq ?_)))
      obtain ⟨x121, hx122, hr123⟩ := bd_some hr100
      obtain ⟨p124, rfl⟩ := hl9.adr hx122
      obtain ⟨cs125, hcs126, hq127, hr128⟩ := hl9.at hx122
      obtain rfl := hr128
      obtain ⟨x129, hx130, hr131⟩ := bd_some hr123
      obtain ⟨p132, rfl⟩ := hl18.adr hx130
      obtain ⟨cs133, hcs134, hq135, hr136⟩ := hl18.at hx130
      obtain rfl := hr136
      refine drG 10 mixed (by kernel_rfl) rfl (dt rfl (fb 3 U64 J J J J Z62 fin1) (dt rfl (ld G62 J J ((sS 2 rfl hK21).drop 3) rfl fin1) (dt rfl (m1 rfl fin1) (dt rfl (iaP U62 Z81 J J J J (lt_of hx122) fin1) (dt rfl (ldA G81 Z81 J J (sS 3 rfl hq127) rfl fin1) (dt rfl (fb 3 U64 J J J J Z62 fin1) (dt rfl (ld G62 J J ((sS 1 rfl hK24).drop 3) rfl fin1) (dt rfl (m1 rfl fin1) (dt rfl (iaP U62 Z81 J J J J (lt_of hx130) fin1) (dt rfl (ldA G81 Z81 J J (sS 3 rfl hq135) rfl fin1) (DF.nil fun K137 hF => ?_)))))))))))
      refine neA x121 x129 T11.Q81 J J J (on ?_)
      refine cb rfl (fun hc141 => ?_) (fun hc141 => ?_)
      ·replace hc141 := nbt hc141
       replace hc141 := of_decide_eq_false hc141
       have hr142 := if_n hc141 hr131
       refine sq (rg (a1 rfl (on (rt_ ?_))))
       cases hr142
       obtain rfl := Fin.out hz94
       cases hr90
       intro a w hS hA
       refine ret1 hA J J ?_
       exact ⟨rfl, hS.ext⟩
      ·replace hc141 := nbf hc141
       replace hc141 := of_decide_eq_true hc141
       have hr143 := if_p hc141 hr131
       refine sk (rg (m1 rfl (adI J J J (by omega) (a1 rfl (on ?_)))))
       cases hr143
       intro a w hS hA
       exact ⟨_, hz94, hS.selH [1, 2, 3] rfl, hA.cut ⟨rfl, rfl, rfl, tv⟩⟩
     ·have hr144 := if_n hc99 hr93
      refine xt rfl ?_
      cases hr144
      obtain rfl := Fin.out hz94
      intro a w hS hA
      exact ⟨_, rfl, hS, hA.cut tv⟩
   ·rintro a w ⟨t91, rfl, hS, hA⟩
    apply TG.ap ?_ hS hA
    refine sq (rg (a1 rfl (on (rt_ ?_))))
    cases hr90
    intro a w hS hA
    refine ret1 hA J J ?_
    exact ⟨rfl, hS.ext⟩

theorem w23 {M : Prop} {W : World} {H : Hp} (hH : H.le (hp W)) {ad_a_0 : Option Addr} {cap_a_0 : Nat} {a_0 : List Heading} (h_a_0 : Sl (RHeading) 4 H ad_a_0 cap_a_0 a_0) {ad_b_1 : Option Addr} {cap_b_1 : Nat} {b_1 : List Heading} (h_b_1 : Sl (RHeading) 4 H ad_b_1 cap_b_1 b_1) {r : Bool} (hr : m23 a_0 b_1 = some r) : Calls Tryz.prog 23 [.slice ad_a_0 a_0.length cap_a_0, .slice ad_b_1 b_1.length cap_b_1].toArray W (RetS M W (.bool r)) := by
 have := h_a_0.len
 have := h_b_1.len
 unfold m23 at hr
 refine enterG (M := M) Tryz.func23 rfl Tryz.ntmps23 rfl hH ?_
 refine sq (rg (a1 rfl (on (sq (sq (rg (m1 rfl (lnL U26 J J (m1 rfl (lnL U26 J J (neI J J J ?_)))))))))))
 refine on ?_
 refine ci rfl (fun hc4 => ?_) (fun hc4 => ?_)
 ·have hr5 := if_p hc4 hr
  refine sq (rg (a1 rfl (on (rt_ ?_))))
  cases hr5
  intro a w hS hA
  refine ret1 hA J J ?_
  exact ⟨rfl, hS.ext⟩
 ·have hr6 := if_n hc4 hr
  refine sk (sq (sq (rg (a1 rfl (on ?_)))))
  obtain ⟨e54, hl55, hr56⟩ := bd_some hr6
  refine jn (fun a w => ∃ t57, e54 = .inl t57 ∧ St M W H [H] [] w ∧ Has [] 27 a []) ?_ ?_
  ·refine bk ?_
   refine lp hl55 (fun s58 a w => St M W H [H] [] w ∧ Has [] 27 a [(0, .slice ad_a_0 a_0.length cap_a_0), (1, .slice ad_b_1 b_1.length cap_b_1), (5, .int .i64 (s58 : Int))]) ?_ ?_
   ·exact cu ⟨rfl, rfl, rfl, tv⟩
   ·rintro j s58 y61 hr59 hz60 a w ⟨hS, hA⟩
    refine TG.ap ?_ hS hA
    unfold m23_1 at hr59
    refine sq (sq (rg (m1 rfl (m1 rfl (lnL U26 J J (ltI J J J (on ?_)))))))
    refine ci rfl (fun hc65 => ?_) (fun hc65 => ?_)
    ·have hr66 := if_p hc65 hr59
     refine sk (sq (bk (sq ?_)))
     obtain ⟨x110, hx111, hr112⟩ := bd_some hr66
     obtain ⟨p113, rfl⟩ := h_a_0.adr hx111
     obtain ⟨cs114, hcs115, hq116, hr117⟩ := h_a_0.at hx111
     have hr118 := hr117
     obtain ⟨ad119, cap120, ad122, cap123, ad125, cap126, rfl, hl121, hl124, hl127⟩ := hr117
     have := hl121.len
     have := hl124.len
     have := hl127.len
     obtain ⟨x128, hx129, hr130⟩ := bd_some hr112
     obtain ⟨p131, rfl⟩ := h_b_1.adr hx129
     obtain ⟨cs132, hcs133, hq134, hr135⟩ := h_b_1.at hx129
     have hr136 := hr135
     obtain ⟨ad137, cap138, ad140, cap141, ad143, cap144, rfl, hl139, hl142, hl145⟩ := hr135
     have := hl139.len
     have := hl142.len
     have := hl145.len
     refine drG 8 mixed (by kernel_rfl) rfl (dt rfl (m1 rfl fin1) (dt rfl (m1 rfl fin1) (dt rfl (iaP U26 Z64 J J J J (lt_of hx111) fin1) (dt rfl (ldA G64 Z64 J J (sS 1 rfl hq116) rfl fin1) (dt rfl (m1 rfl fin1) (dt rfl (m1 rfl fin1) (dt rfl (iaP U26 Z64 J J J J (lt_of hx129) fin1) (dt rfl (ldA G64 Z64 J J (sS 1 rfl hq134) rfl fin1) (DF.nil fun K146 hF => ?_)))))))))
     obtain ⟨r147, hx148, hr149⟩ := bd_some hr130
     refine clS C40 J J J J (fun w H hH le => w40 hH x110 (RHeading.mono _ _ _ _ (le.at 1 rfl) hr118) x128 (RHeading.mono _ _ _ _ (le.at 1 rfl) hr136) hx148) (nt J J (on ?_))
     refine cb rfl (fun hc153 => ?_) (fun hc153 => ?_)
     ·replace hc153 := nbt hc153
      have hr154 := if_f hc153 hr149
      refine sq (rg (a1 rfl (on (rt_ ?_))))
      cases hr154
      obtain rfl := Fin.out hz60
      cases hr56
      intro a w hS hA
      refine ret1 hA J J ?_
      exact ⟨rfl, hS.ext⟩
     ·replace hc153 := nbf hc153
      have hr155 := if_p hc153 hr149
      refine sk (rg (m1 rfl (adI J J J (by omega) (a1 rfl (on ?_)))))
      cases hr155
      intro a w hS hA
      exact ⟨_, hz60, hS.selH [1] rfl, hA.cut ⟨rfl, rfl, rfl, tv⟩⟩
    ·have hr156 := if_n hc65 hr59
     refine xt rfl ?_
     cases hr156
     obtain rfl := Fin.out hz60
     intro a w hS hA
     exact ⟨_, rfl, hS, hA.cut tv⟩
  ·rintro a w ⟨t57, rfl, hS, hA⟩
   apply TG.ap ?_ hS hA
   refine sq (rg (a1 rfl (on (rt_ ?_))))
   cases hr56
   intro a w hS hA
   refine ret1 hA J J ?_
   exact ⟨rfl, hS.ext⟩

theorem w16 {M : Prop} {W : World} {H : Hp} (hH : H.le (hp W)) (hg : Gv M H)  {r : Bool} (hr : m16 = some r) : Calls Tryz.prog 16 [].toArray W (RetS M W (.bool r)) := by
 unfold m16 at hr
 refine enterG (M := M) Tryz.func16 rfl Tryz.ntmps16 rfl hH ?_
 refine sq (rg (a1 rfl (on (sq (rg ?_)))))
 obtain ⟨r1, hx2, hr3⟩ := bd_some hr
 refine clK C47 J J J J (fun w H hH le => w47 hH  hx2) ?_
 rintro v_ K4 ⟨ad5, cap6, rfl, hl7⟩
 have := hl7.len
 obtain ⟨r8, hx9, hr10⟩ := bd_some hr3
 refine clK C18 J J J J (fun w H hH le => w18 hH (hg.mono (le.at 1 rfl)) (hl7.mono (RSl.mono (RHeading.mono)) (le.at 0 rfl)) hx9) ?_
 rintro v_ K11 ⟨ad12, cap13, rfl, hl14⟩
 have := hl14.len
 refine m1 rfl (ex J J J (ex J J J (a1 rfl (a1 rfl (on (sq (rg (m1 rfl ?_))))))))
 obtain ⟨r15, hx16, hr17⟩ := bd_some hr10
 refine clK C25 J J J J (fun w H hH le => w25 hH (hg.mono (le.at 2 rfl)) (hl14.mono (RHeading.mono) (le.at 0 rfl)) hx16) ?_
 rintro v_ K18 ⟨ad19, cap20, rfl, hl21⟩
 have := hl21.len
 refine m1 rfl (ex J J J (ex J J J (a1 rfl (a1 rfl (on (sq (rg ?_)))))))
 obtain ⟨r22, hx23, hr24⟩ := bd_some hr17
 refine clS C48 J J J J (fun w H hH le => w48  hx23) ?_
 obtain ⟨hk29, hr30⟩ := chk_some hr24
 refine cvB U9 U37 U5 J J hk29 fun ad25 cap26 K27 hl28 => ?_
 have := hl28.len
 obtain ⟨r31, hx32, hr33⟩ := bd_some hr30
 refine clK C28 J J J J (fun w H hH le => w28 hH (hg.mono (le.at 4 rfl)) (hl28.mono (Flat.mono _) (le.at 0 rfl)) hx32) ?_
 rintro v_ K34 ⟨ad35, cap36, rfl, hl37⟩
 have := hl37.len
 refine m1 rfl (ex J J J (ex J J J (a1 rfl (a1 rfl (on (sq (rg (m1 rfl ?_))))))))
 obtain ⟨r38, hx39, hr40⟩ := bd_some hr33
 refine clK C33 J J J J (fun w H hH le => w33 hH (hg.mono (le.at 5 rfl)) (hl14.mono (RHeading.mono) (le.at 3 rfl)) 3 13 hx39) ?_
 rintro v_ K41 ⟨ad42, cap43, rfl, hl44⟩
 have := hl44.len
 refine m1 rfl (ex J J J (ex J J J (a1 rfl (a1 rfl (on (sq ?_))))))
 obtain ⟨t84, hx85, hr86⟩ := bd_some hr40
 refine jn (fun a w => St M W H [K41, K34, K27, K18, K11, K4, H] [] w ∧ Has [] 60 a [(0, .bool t84)]) ?_ ?_
 ·by_cases hb87 : r8.2 = 0
  ·have hr88 := if_p hb87 hx85
   by_cases hb89 : r15.2 = 0
   ·have hr90 := if_p hb89 hr88
    by_cases hb91 : r15.1 = r22
    ·have hr92 := if_p hb91 hr90
     by_cases hb93 : r31.2 = 0
     ·have hr94 := if_p hb93 hr92
      obtain ⟨r95, hx96, hr97⟩ := bd_some hr94
      rcases Bool.eq_false_or_eq_true (r95) with hb98 | hb98
      ·have hr99 := if_p hb98 hr97
       by_cases hb100 : r38.2 = 0
       ·have hr101 := if_p hb100 hr99
        refine drG 28 mixed (by kernel_rfl) rfl (dt rfl (m1 rfl fin1) (dt rfl (eqI J J J fin1) (dt rfl (m1 rfl fin1) (dt rfl (gt hb87 rfl (m1 rfl fin1)) (dt rfl (gt hb87 rfl (eqI J J J fin1)) (dt rfl (pt hb87 J J fin1) (dt rfl (m1 rfl fin1) (dt rfl (gt hb89 rfl (m1 rfl fin1)) (dt rfl (gt hb89 rfl (cvT hl21 4 rfl U37 U5 U9 J J fin1)) (dt rfl (gt hb89 rfl (clS C48 J J J J (fun w H hH le => w48  hx23) fin1)) (dt rfl (gt hb89 rfl (eqS J J J fin1)) ?_)))))))))))
        refine dt rfl (pt hb89 J J fin1) (dt rfl (m1 rfl fin1) (dt rfl (gt hb91 rfl (m1 rfl fin1)) (dt rfl (gt hb91 rfl (eqI J J J fin1)) (dt rfl (pt hb91 J J fin1) (dt rfl (m1 rfl fin1) (dt rfl (gt hb93 rfl (m1 rfl fin1)) (dt rfl (gt hb93 rfl (m1 rfl fin1)) (dt rfl (gt hb93 rfl (clS C23 J J J J (fun w H hH le => w23 hH (hl14.mono (RHeading.mono) (le.at 5 rfl)) (hl37.mono (RHeading.mono) (le.at 2 rfl)) hx96) fin1)) (dt rfl (pt hb93 J J fin1) (dt rfl (m1 rfl fin1) (dt rfl (gN J J (hb98) (m1 rfl fin1)) ?_)))))))))))
        refine dt rfl (gN J J (hb98) (eqI J J J fin1)) (dt rfl (pT J J (hb98) rfl fin1) (dt rfl (m1 rfl fin1) (dt rfl (gt hb100 rfl (m1 rfl fin1)) ?_)))
        refine DF.und (α := Option Addr × Nat) (none, 0) (fun q => .slice q.1 2 q.2) (fun (q : Option Addr × Nat) K => Sl (Flat encS) 1 K q.1 q.2 ([[67, 111, 114, 110, 32, 76, 97, 119, 115], [84, 114, 97, 100, 101]] : List Bytes)) (fun _ _ _ h x => x.mono (Flat.mono _) h) (by kernel_rfl) rfl (fun a w K hS hA hF => TG.pa hS hA (gt hb100 rfl (bS (cs := [.string (bs [67, 111, 114, 110, 32, 76, 97, 119, 115]), .string (bs [84, 114, 97, 100, 101])]) T11.E50 J J J J fun q102 K103 hq104 hK105 => by
          have hl106 : Sl (Flat encS) 1 K103 (some q102) 2 ([[67, 111, 114, 110, 32, 76, 97, 119, 115], [84, 114, 97, 100, 101]] : List Bytes) := Sl.litR (css := [[.string (bs [67, 111, 114, 110, 32, 76, 97, 119, 115])], [.string (bs [84, 114, 97, 100, 101])]]) (l := ([[67, 111, 114, 110, 32, 76, 97, 119, 115], [84, 114, 97, 100, 101]] : List Bytes)) ⟨⟨rfl, rfl, rfl⟩, ⟨rfl, rfl, rfl⟩, tv⟩ hq104 hK105 rfl
          have := hl106.len
          exact finU (f := fun q => .slice q.1 2 q.2) (G := (fun (q : Option Addr × Nat) K => Sl (Flat encS) 1 K q.1 q.2 ([[67, 111, 114, 110, 32, 76, 97, 119, 115], [84, 114, 97, 100, 101]] : List Bytes))) (_, _) (fun _ _ _ h x => x.mono (Flat.mono _) h) hl106))) ?_
        rintro ⟨ad108, cap109⟩
        refine DF.nil fun K110 hF => ?_
        obtain ⟨hu107, _⟩ := hF
        have := hu107.len
        refine gt hb100 rfl ?_
        obtain ⟨r111, hx112, hr113⟩ := bd_some hr101
        refine clS C44 J J J J (fun w H hH le => w44 hH (hl44.mono (Flat.mono _) (le.at 1 rfl)) (hu107.mono (Flat.mono _) (le.at 0 rfl)) hx112) (pt hb100 J J (a1 rfl (on ?_)))
        cases hr113
        intro a w hS hA
        exact ⟨hS.selH [1, 2, 3, 4, 5, 6, 7] rfl, hA.cut ⟨rfl, tv⟩⟩
       ·have hr114 := if_n hb100 hr99
        refine drG 28 mixed (by kernel_rfl) rfl (dt rfl (m1 rfl fin1) (dt rfl (eqI J J J fin1) (dt rfl (m1 rfl fin1) (dt rfl (gt hb87 rfl (m1 rfl fin1)) (dt rfl (gt hb87 rfl (eqI J J J fin1)) (dt rfl (pt hb87 J J fin1) (dt rfl (m1 rfl fin1) (dt rfl (gt hb89 rfl (m1 rfl fin1)) (dt rfl (gt hb89 rfl (cvT hl21 4 rfl U37 U5 U9 J J fin1)) (dt rfl (gt hb89 rfl (clS C48 J J J J (fun w H hH le => w48  hx23) fin1)) (dt rfl (gt hb89 rfl (eqS J J J fin1)) ?_)))))))))))
        refine dt rfl (pt hb89 J J fin1) (dt rfl (m1 rfl fin1) (dt rfl (gt hb91 rfl (m1 rfl fin1)) (dt rfl (gt hb91 rfl (eqI J J J fin1)) (dt rfl (pt hb91 J J fin1) (dt rfl (m1 rfl fin1) (dt rfl (gt hb93 rfl (m1 rfl fin1)) (dt rfl (gt hb93 rfl (m1 rfl fin1)) (dt rfl (gt hb93 rfl (clS C23 J J J J (fun w H hH le => w23 hH (hl14.mono (RHeading.mono) (le.at 5 rfl)) (hl37.mono (RHeading.mono) (le.at 2 rfl)) hx96) fin1)) (dt rfl (pt hb93 J J fin1) (dt rfl (m1 rfl fin1) (dt rfl (gN J J (hb98) (m1 rfl fin1)) ?_)))))))))))
        refine dt rfl (gN J J (hb98) (eqI J J J fin1)) (dt rfl (pT J J (hb98) rfl fin1) (dt rfl (m1 rfl fin1) (dt rfl (gf hb100 rfl fin1) (dt rfl (gf hb100 rfl fin1) (DF.nil fun K115 hF => (gf hb100 rfl (pf hb100 J J (a1 rfl (on ?_)))))))))
        cases hr114
        intro a w hS hA
        exact ⟨hS.selH [1, 2, 3, 4, 5, 6, 7] rfl, hA.cut ⟨rfl, tv⟩⟩
      ·have hr116 := if_f hb98 hr97
       refine drG 28 mixed (by kernel_rfl) rfl (dt rfl (m1 rfl fin1) (dt rfl (eqI J J J fin1) (dt rfl (m1 rfl fin1) (dt rfl (gt hb87 rfl (m1 rfl fin1)) (dt rfl (gt hb87 rfl (eqI J J J fin1)) (dt rfl (pt hb87 J J fin1) (dt rfl (m1 rfl fin1) (dt rfl (gt hb89 rfl (m1 rfl fin1)) (dt rfl (gt hb89 rfl (cvT hl21 4 rfl U37 U5 U9 J J fin1)) (dt rfl (gt hb89 rfl (clS C48 J J J J (fun w H hH le => w48  hx23) fin1)) (dt rfl (gt hb89 rfl (eqS J J J fin1)) ?_)))))))))))
       refine dt rfl (pt hb89 J J fin1) (dt rfl (m1 rfl fin1) (dt rfl (gt hb91 rfl (m1 rfl fin1)) (dt rfl (gt hb91 rfl (eqI J J J fin1)) (dt rfl (pt hb91 J J fin1) (dt rfl (m1 rfl fin1) (dt rfl (gt hb93 rfl (m1 rfl fin1)) (dt rfl (gt hb93 rfl (m1 rfl fin1)) (dt rfl (gt hb93 rfl (clS C23 J J J J (fun w H hH le => w23 hH (hl14.mono (RHeading.mono) (le.at 5 rfl)) (hl37.mono (RHeading.mono) (le.at 2 rfl)) hx96) fin1)) (dt rfl (pt hb93 J J fin1) (dt rfl (m1 rfl fin1) (dt rfl (gF J J (hb98) rfl fin1) ?_)))))))))))
       refine dt rfl (gF J J (hb98) rfl fin1) (dt rfl (pF J J (hb98) rfl fin1) (dt rfl (m1 rfl fin1) (dt rfl (gF J J J J fin1) (dt rfl (gF J J J J fin1) (DF.nil fun K117 hF => (gF J J J J (pF J J J J (a1 rfl (on ?_)))))))))
       cases hr116
       intro a w hS hA
       exact ⟨hS.selH [1, 2, 3, 4, 5, 6, 7] rfl, hA.cut ⟨rfl, tv⟩⟩
     ·have hr118 := if_n hb93 hr92
      refine drG 28 mixed (by kernel_rfl) rfl (dt rfl (m1 rfl fin1) (dt rfl (eqI J J J fin1) (dt rfl (m1 rfl fin1) (dt rfl (gt hb87 rfl (m1 rfl fin1)) (dt rfl (gt hb87 rfl (eqI J J J fin1)) (dt rfl (pt hb87 J J fin1) (dt rfl (m1 rfl fin1) (dt rfl (gt hb89 rfl (m1 rfl fin1)) (dt rfl (gt hb89 rfl (cvT hl21 4 rfl U37 U5 U9 J J fin1)) (dt rfl (gt hb89 rfl (clS C48 J J J J (fun w H hH le => w48  hx23) fin1)) (dt rfl (gt hb89 rfl (eqS J J J fin1)) ?_)))))))))))
      refine dt rfl (pt hb89 J J fin1) (dt rfl (m1 rfl fin1) (dt rfl (gt hb91 rfl (m1 rfl fin1)) (dt rfl (gt hb91 rfl (eqI J J J fin1)) (dt rfl (pt hb91 J J fin1) (dt rfl (m1 rfl fin1) (dt rfl (gf hb93 rfl fin1) (dt rfl (gf hb93 rfl fin1) (dt rfl (gf hb93 rfl fin1) (dt rfl (pf hb93 J J fin1) (dt rfl (m1 rfl fin1) (dt rfl (gF J J J J fin1) ?_)))))))))))
      refine dt rfl (gF J J J J fin1) (dt rfl (pF J J J J fin1) (dt rfl (m1 rfl fin1) (dt rfl (gF J J J J fin1) (dt rfl (gF J J J J fin1) (DF.nil fun K119 hF => (gF J J J J (pF J J J J (a1 rfl (on ?_)))))))))
      cases hr118
      intro a w hS hA
      exact ⟨hS.selH [1, 2, 3, 4, 5, 6, 7] rfl, hA.cut ⟨rfl, tv⟩⟩
    ·have hr120 := if_n hb91 hr90
     refine drG 28 mixed (by kernel_rfl) rfl (dt rfl (m1 rfl fin1) (dt rfl (eqI J J J fin1) (dt rfl (m1 rfl fin1) (dt rfl (gt hb87 rfl (m1 rfl fin1)) (dt rfl (gt hb87 rfl (eqI J J J fin1)) (dt rfl (pt hb87 J J fin1) (dt rfl (m1 rfl fin1) (dt rfl (gt hb89 rfl (m1 rfl fin1)) (dt rfl (gt hb89 rfl (cvT hl21 4 rfl U37 U5 U9 J J fin1)) (dt rfl (gt hb89 rfl (clS C48 J J J J (fun w H hH le => w48  hx23) fin1)) (dt rfl (gt hb89 rfl (eqS J J J fin1)) ?_)))))))))))
     refine dt rfl (pt hb89 J J fin1) (dt rfl (m1 rfl fin1) (dt rfl (gf hb91 rfl fin1) (dt rfl (gf hb91 rfl fin1) (dt rfl (pf hb91 J J fin1) (dt rfl (m1 rfl fin1) (dt rfl (gF J J J J fin1) (dt rfl (gF J J J J fin1) (dt rfl (gF J J J J fin1) (dt rfl (pF J J J J fin1) (dt rfl (m1 rfl fin1) (dt rfl (gF J J J J fin1) ?_)))))))))))
     refine dt rfl (gF J J J J fin1) (dt rfl (pF J J J J fin1) (dt rfl (m1 rfl fin1) (dt rfl (gF J J J J fin1) (dt rfl (gF J J J J fin1) (DF.nil fun K121 hF => (gF J J J J (pF J J J J (a1 rfl (on ?_)))))))))
     cases hr120
     intro a w hS hA
     exact ⟨hS.selH [1, 2, 3, 4, 5, 6, 7] rfl, hA.cut ⟨rfl, tv⟩⟩
   ·have hr122 := if_n hb89 hr88
    refine drG 28 mixed (by kernel_rfl) rfl (dt rfl (m1 rfl fin1) (dt rfl (eqI J J J fin1) (dt rfl (m1 rfl fin1) (dt rfl (gt hb87 rfl (m1 rfl fin1)) (dt rfl (gt hb87 rfl (eqI J J J fin1)) (dt rfl (pt hb87 J J fin1) (dt rfl (m1 rfl fin1) (dt rfl (gf hb89 rfl fin1) (dt rfl (gf hb89 rfl fin1) (dt rfl (gf hb89 rfl fin1) (dt rfl (gf hb89 rfl fin1) ?_)))))))))))
    refine dt rfl (pf hb89 J J fin1) (dt rfl (m1 rfl fin1) (dt rfl (gF J J J J fin1) (dt rfl (gF J J J J fin1) (dt rfl (pF J J J J fin1) (dt rfl (m1 rfl fin1) (dt rfl (gF J J J J fin1) (dt rfl (gF J J J J fin1) (dt rfl (gF J J J J fin1) (dt rfl (pF J J J J fin1) (dt rfl (m1 rfl fin1) (dt rfl (gF J J J J fin1) ?_)))))))))))
    refine dt rfl (gF J J J J fin1) (dt rfl (pF J J J J fin1) (dt rfl (m1 rfl fin1) (dt rfl (gF J J J J fin1) (dt rfl (gF J J J J fin1) (DF.nil fun K123 hF => (gF J J J J (pF J J J J (a1 rfl (on ?_)))))))))
    cases hr122
    intro a w hS hA
    exact ⟨hS.selH [1, 2, 3, 4, 5, 6, 7] rfl, hA.cut ⟨rfl, tv⟩⟩
  ·have hr124 := if_n hb87 hx85
   refine drG 28 mixed (by kernel_rfl) rfl (dt rfl (m1 rfl fin1) (dt rfl (eqI J J J fin1) (dt rfl (m1 rfl fin1) (dt rfl (gf hb87 rfl fin1) (dt rfl (gf hb87 rfl fin1) (dt rfl (pf hb87 J J fin1) (dt rfl (m1 rfl fin1) (dt rfl (gF J J J J fin1) (dt rfl (gF J J J J fin1) (dt rfl (gF J J J J fin1) (dt rfl (gF J J J J fin1) ?_)))))))))))
   refine dt rfl (pF J J J J fin1) (dt rfl (m1 rfl fin1) (dt rfl (gF J J J J fin1) (dt rfl (gF J J J J fin1) (dt rfl (pF J J J J fin1) (dt rfl (m1 rfl fin1) (dt rfl (gF J J J J fin1) (dt rfl (gF J J J J fin1) (dt rfl (gF J J J J fin1) (dt rfl (pF J J J J fin1) (dt rfl (m1 rfl fin1) (dt rfl (gF J J J J fin1) ?_)))))))))))
   refine dt rfl (gF J J J J fin1) (dt rfl (pF J J J J fin1) (dt rfl (m1 rfl fin1) (dt rfl (gF J J J J fin1) (dt rfl (gF J J J J fin1) (DF.nil fun K125 hF => (gF J J J J (pF J J J J (a1 rfl (on ?_)))))))))
   cases hr124
   intro a w hS hA
   exact ⟨hS.selH [1, 2, 3, 4, 5, 6, 7] rfl, hA.cut ⟨rfl, tv⟩⟩
 ·rintro a w ⟨hS, hA⟩
  refine TG.ap ?_ hS hA
  refine rt_ ?_
  cases hr86
  intro a w hS hA
  refine ret1 hA J J ?_
  exact ⟨rfl, hS.ext⟩

theorem w76 {M : Prop} {W : World} {H : Hp} (hH : H.le (hp W)) {ad_l_0 : Option Addr} {cap_l_0 : Nat} {l_0 : List Bytes} (h_l_0 : Sl (Flat encS) 1 H ad_l_0 cap_l_0 l_0) (most : Int) {r : Bool} (hr : m76 l_0 most = some r) : Calls Tryz.prog 76 [.slice ad_l_0 l_0.length cap_l_0, .int .i64 most].toArray W (RetS M W (.bool r)) := by
 have := h_l_0.len
 unfold m76 at hr
 refine enterG (M := M) Tryz.func76 rfl Tryz.ntmps76 rfl hH ?_
 refine sq (rg (a1 rfl (on (sq (sq (rg (a1 rfl (on ?_))))))))
 obtain ⟨e16, hl17, hr18⟩ := bd_some hr
 refine jn (fun a w => ∃ t19, e16 = .inl t19 ∧ St M W H [H] [] w ∧ Has [] 22 a [(0, .slice ad_l_0 l_0.length cap_l_0), (1, .int .i64 most)]) ?_ ?_
 ·refine bk ?_
  refine lp hl17 (fun s20 a w => St M W H [H] [] w ∧ Has [] 22 a [(0, .slice ad_l_0 l_0.length cap_l_0), (1, .int .i64 most), (5, .int .i64 (s20 : Int))]) ?_ ?_
  ·exact cu ⟨rfl, rfl, rfl, tv⟩
  ·rintro j s20 y23 hr21 hz22 a w ⟨hS, hA⟩
   refine TG.ap ?_ hS hA
   unfold m76_1 at hr21
   refine sq (sq (rg (m1 rfl (m1 rfl (lnL U50 J J (ltI J J J (on ?_)))))))
   refine ci rfl (fun hc27 => ?_) (fun hc27 => ?_)
   ·have hr28 := if_p hc27 hr21
    refine sk (sq (bk (sq (rg (m1 rfl (m1 rfl ?_))))))
    obtain ⟨x40, hx41, hr42⟩ := bd_some hr28
    obtain ⟨p43, rfl⟩ := h_l_0.adr hx41
    obtain ⟨cs44, hcs45, hq46, hr47⟩ := h_l_0.at hx41
    obtain rfl := hr47
    refine iaP U50 Z9 J J J J (lt_of hx41) (ld G9 J J (sS 0 rfl hq46) rfl (lnS U9 J J (gtI J J J (on ?_))))
    refine ci rfl (fun hc51 => ?_) (fun hc51 => ?_)
    ·have hr52 := if_p hc51 hr42
     refine sq (rg (a1 rfl (on (rt_ ?_))))
     cases hr52
     obtain rfl := Fin.out hz22
     cases hr18
     intro a w hS hA
     refine ret1 hA J J ?_
     exact ⟨rfl, hS.ext⟩
    ·have hr53 := if_n hc51 hr42
     refine sk (rg (m1 rfl (adI J J J (by omega) (a1 rfl (on ?_)))))
     cases hr53
     intro a w hS hA
     exact ⟨_, hz22, hS, hA.cut ⟨rfl, rfl, rfl, tv⟩⟩
   ·have hr54 := if_n hc27 hr21
    refine xt rfl ?_
    cases hr54
    obtain rfl := Fin.out hz22
    intro a w hS hA
    exact ⟨_, rfl, hS, hA.cut ⟨rfl, rfl, tv⟩⟩
 ·rintro a w ⟨t19, rfl, hS, hA⟩
  apply TG.ap ?_ hS hA
  refine sq (rg (m1 rfl (lnL U50 J J (m1 rfl (leI J J J (a1 rfl (on (rt_ ?_))))))))
  cases hr18
  intro a w hS hA
  refine ret1 hA J J ?_
  exact ⟨rfl, hS.ext⟩

theorem w49 {M : Prop} {W : World} {H : Hp} (hH : H.le (hp W)) {ad_l_0 : Option Addr} {cap_l_0 : Nat} {l_0 : List Heading} (h_l_0 : Sl (RHeading) 4 H ad_l_0 cap_l_0 l_0) (most : Int) {r : Bool} (hr : m49 l_0 most = some r) : Calls Tryz.prog 49 [.slice ad_l_0 l_0.length cap_l_0, .int .i64 most].toArray W (RetS M W (.bool r)) := by
 have := h_l_0.len
 unfold m49 at hr
 refine enterG (M := M) Tryz.func49 rfl Tryz.ntmps49 rfl hH ?_
 refine sq (rg (a1 rfl (on (sq (sq (rg (m1 rfl (lnL U25 J J (m1 rfl (gtI J J J (on ?_)))))))))))
 refine ci rfl (fun hc4 => ?_) (fun hc4 => ?_)
 ·have hr5 := if_p hc4 hr
  refine sq (rg (a1 rfl (on (rt_ ?_))))
  cases hr5
  intro a w hS hA
  refine ret1 hA J J ?_
  exact ⟨rfl, hS.ext⟩
 ·have hr6 := if_n hc4 hr
  refine sk (sq (sq (rg (a1 rfl (on ?_)))))
  obtain ⟨e48, hl49, hr50⟩ := bd_some hr6
  refine jn (fun a w => ∃ t51, e48 = .inl t51 ∧ St M W H [H] [] w ∧ Has [] 50 a []) ?_ ?_
  ·refine bk ?_
   refine lp hl49 (fun s52 a w => St M W H [H] [] w ∧ Has [] 50 a [(0, .slice ad_l_0 l_0.length cap_l_0), (5, .int .i64 (s52 : Int))]) ?_ ?_
   ·exact cu ⟨rfl, rfl, tv⟩
   ·rintro j s52 y55 hr53 hz54 a w ⟨hS, hA⟩
    refine TG.ap ?_ hS hA
    unfold m49_1 at hr53
    refine sq (sq (rg (m1 rfl (m1 rfl (lnL U25 J J (ltI J J J (on ?_)))))))
    refine ci rfl (fun hc59 => ?_) (fun hc59 => ?_)
    ·have hr60 := if_p hc59 hr53
     refine sk (sq (bk (sq ?_)))
     obtain ⟨t131, hx132, hr133⟩ := bd_some hr60
     refine jn (fun a w => St M W H [H] [] w ∧ Has [] 50 a [(0, .slice ad_l_0 l_0.length cap_l_0), (5, .int .i64 (s52 : Int)), (49, .bool t131)]) ?_ ?_
     ·refine rg (m1 rfl (m1 rfl ?_))
      obtain ⟨x134, hx135, hr136⟩ := bd_some hx132
      obtain ⟨p137, rfl⟩ := h_l_0.adr hx135
      obtain ⟨cs138, hcs139, hq140, hr141⟩ := h_l_0.at hx135
      have hr142 := hr141
      obtain ⟨ad143, cap144, ad146, cap147, ad149, cap150, rfl, hl145, hl148, hl151⟩ := hr141
      have := hl145.len
      have := hl148.len
      have := hl151.len
      refine iaP U25 Z53 J J J J (lt_of hx135) (fb 0 U53 J J J J Z9 (ld G9 J J ((sS 0 rfl hq140).take 1) rfl (lnS U9 J J (gtI J J J (m1 rfl ?_)))))
      by_cases hb152 : 45 < (x134.name.length : Int)
      ·have hr153 := if_p hb152 hr136
       refine gf' hb152 rfl (gf' hb152 rfl (gf' hb152 rfl (gf' hb152 rfl (gf' hb152 rfl (gf' hb152 rfl (gf' hb152 rfl (pt hb152 J J (m1 rfl (gF J J J J (gF J J J J (gF J J J J ?_)))))))))))
       refine gF J J J J (gF J J J J (gF J J J J (gF J J J J (pT J J J J (m1 rfl (gF J J J J (gF J J J J (gF J J J J (gF J J J J (gF J J J J (gF J J J J ?_)))))))))))
       refine gF J J J J (pT J J J J (on ?_))
       cases hr153
       exact cu ⟨rfl, rfl, rfl, tv⟩
      ·have hr154 := if_n hb152 hr136
       refine gt' hb152 rfl (m1 rfl (gt' hb152 rfl (m1 rfl (gt' hb152 rfl (iaP U25 Z53 J J J J (lt_of hx135) (gt' hb152 rfl (fb 1 U53 J J J J Z50 (gt' hb152 rfl (ld G50 J J (((sS 0 rfl hq140).drop 1).take 1) rfl (gt' hb152 rfl ?_))))))))))
       obtain ⟨r155, hx156, hr157⟩ := bd_some hr154
       refine clS C76 J J J J (fun w H hH le => w76 hH (hl145.mono (Flat.mono _) (le.at 0 rfl)) 10 hx156) (gt' hb152 rfl (nt J J (pf hb152 J J (m1 rfl ?_))))
       rcases Bool.eq_false_or_eq_true (r155) with hb158 | hb158
       ·have hr159 := if_p hb158 hr157
        refine gN J J (congrArg not (hb158)) (m1 rfl (gN J J (congrArg not (hb158)) (m1 rfl (gN J J (congrArg not (hb158)) (iaP U25 Z53 J J J J (lt_of hx135) (gN J J (congrArg not (hb158)) (fb 2 U53 J J J J Z50 (gN J J (congrArg not (hb158)) (ld G50 J J (((sS 0 rfl hq140).drop 2).take 1) rfl (gN J J (congrArg not (hb158)) ?_))))))))))
        obtain ⟨r160, hx161, hr162⟩ := bd_some hr159
        refine clS C76 J J J J (fun w H hH le => w76 hH (hl148.mono (Flat.mono _) (le.at 0 rfl)) 10 hx161) (gN J J (congrArg not (hb158)) (nt J J (pF J J (congrArg not (hb158)) rfl (m1 rfl ?_))))
        rcases Bool.eq_false_or_eq_true (r160) with hb163 | hb163
        ·have hr164 := if_p hb163 hr162
         refine gN J J (congrArg not (hb163)) (m1 rfl (gN J J (congrArg not (hb163)) (m1 rfl (gN J J (congrArg not (hb163)) (iaP U25 Z53 J J J J (lt_of hx135) (gN J J (congrArg not (hb163)) (fb 3 U53 J J J J Z51 (gN J J (congrArg not (hb163)) (ld G51 J J ((sS 0 rfl hq140).drop 3) rfl (gN J J (congrArg not (hb163)) (lnL U51 J J ?_)))))))))))
         refine gN J J (congrArg not (hb163)) (gtI J J J (pF J J (congrArg not (hb163)) rfl (on ?_)))
         cases hr164
         exact cu ⟨rfl, rfl, rfl, tv⟩
        ·have hr165 := if_f hb163 hr162
         refine gF J J (congrArg not (hb163)) rfl (gF J J (congrArg not (hb163)) rfl (gF J J (congrArg not (hb163)) rfl (gF J J (congrArg not (hb163)) rfl (gF J J (congrArg not (hb163)) rfl (gF J J (congrArg not (hb163)) rfl (gF J J (congrArg not (hb163)) rfl (pT J J (congrArg not (hb163)) rfl (on ?_))))))))
         cases hr165
         exact cu ⟨rfl, rfl, rfl, tv⟩
       ·have hr166 := if_f hb158 hr157
        refine gF J J (congrArg not (hb158)) rfl (gF J J (congrArg not (hb158)) rfl (gF J J (congrArg not (hb158)) rfl (gF J J (congrArg not (hb158)) rfl (gF J J (congrArg not (hb158)) rfl (gF J J (congrArg not (hb158)) rfl (gF J J (congrArg not (hb158)) rfl (pT J J (congrArg not (hb158)) rfl (m1 rfl (gF J J J J (gF J J J J (gF J J J J ?_)))))))))))
        refine gF J J J J (gF J J J J (gF J J J J (gF J J J J (pT J J J J (on ?_)))))
        cases hr166
        exact cu ⟨rfl, rfl, rfl, tv⟩
     ·rintro a w ⟨hS, hA⟩
      refine TG.ap ?_ hS hA
      refine cb rfl (fun hc170 => ?_) (fun hc170 => ?_)
      ·have hr171 := if_p hc170 hr133
       refine sq (rg (a1 rfl (on (rt_ ?_))))
       cases hr171
       obtain rfl := Fin.out hz54
       cases hr50
       intro a w hS hA
       refine ret1 hA J J ?_
       exact ⟨rfl, hS.ext⟩
      ·have hr172 := if_f hc170 hr133
       refine sk (rg (m1 rfl (adI J J J (by omega) (a1 rfl (on ?_)))))
       cases hr172
       intro a w hS hA
       exact ⟨_, hz54, hS, hA.cut ⟨rfl, rfl, tv⟩⟩
    ·have hr173 := if_n hc59 hr53
     refine xt rfl ?_
     cases hr173
     obtain rfl := Fin.out hz54
     intro a w hS hA
     exact ⟨_, rfl, hS, hA.cut tv⟩
  ·rintro a w ⟨t51, rfl, hS, hA⟩
   apply TG.ap ?_ hS hA
   refine sq (rg (a1 rfl (on (rt_ ?_))))
   cases hr50
   intro a w hS hA
   refine ret1 hA J J ?_
   exact ⟨rfl, hS.ext⟩

theorem w17 {M : Prop} {W : World} {H : Hp} (hH : H.le (hp W)) {ad_l_0 : Option Addr} {cap_l_0 : Nat} {l_0 : List Heading} (h_l_0 : Sl (RHeading) 4 H ad_l_0 cap_l_0 l_0) {r : Bool} (hr : m17 l_0 = some r) : Calls Tryz.prog 17 [.slice ad_l_0 l_0.length cap_l_0].toArray W (RetS M W (.bool r)) := by
 have := h_l_0.len
 unfold m17 at hr
 refine enterG (M := M) Tryz.func17 rfl Tryz.ntmps17 rfl hH ?_
 refine sq (rg (a1 rfl (on (sq ?_))))
 obtain ⟨t10, hx11, hr12⟩ := bd_some hr
 refine jn (fun a w => St M W H [H] [] w ∧ Has [] 15 a [(2, .bool t10)]) ?_ ?_
 ·refine rg (m1 rfl ?_)
  obtain ⟨r13, hx14, hr15⟩ := bd_some hx11
  refine clS C49 J J J J (fun w H hH le => w49 hH (h_l_0.mono (RHeading.mono) (le.at 0 rfl)) 62 hx14) (m1 rfl ?_)
  rcases Bool.eq_false_or_eq_true (r13) with hb16 | hb16
  ·have hr17 := if_p hb16 hr15
   refine gN J J (hb16) (m1 rfl (gN J J (hb16) (lnL U25 J J (gN J J (hb16) (leI J J J (gN J J (hb16) (m1 rfl ?_)))))))
   by_cases hb18 : (l_0.length : Int) ≤ 12
   ·have hr19 := if_p hb18 hr17
    refine gf' hb18 rfl (gf' hb18 rfl (gf' hb18 rfl (gN J J (hb16) (pt hb18 J J (pT J J (hb16) rfl (a1 rfl (on ?_)))))))
    cases hr19
    exact cu ⟨rfl, tv⟩
   ·have hr20 := if_n hb18 hr17
    refine gt' hb18 rfl (m1 rfl (gt' hb18 rfl (lnL U25 J J (gt' hb18 rfl (gtI J J J (gN J J (hb16) (pf hb18 J J (pT J J (hb16) rfl (a1 rfl (on ?_))))))))))
    cases hr20
    exact cu ⟨rfl, tv⟩
  ·have hr21 := if_f hb16 hr15
   refine gF J J (hb16) rfl (gF J J (hb16) rfl (gF J J (hb16) rfl (gF J J (hb16) rfl (gU J J J (gU J J J (gU J J J (gF J J (hb16) rfl (pF J J (hb16) rfl (a1 rfl (on ?_))))))))))
   cases hr21
   exact cu ⟨rfl, tv⟩
 ·rintro a w ⟨hS, hA⟩
  refine TG.ap ?_ hS hA
  refine rt_ ?_
  cases hr12
  intro a w hS hA
  refine ret1 hA J J ?_
  exact ⟨rfl, hS.ext⟩

theorem w62 {M : Prop} {W : World} {H : Hp} (hH : H.le (hp W)) {ad_l_0 : Option Addr} {cap_l_0 : Nat} {l_0 : List Bytes} (h_l_0 : Sl (Flat encS) 1 H ad_l_0 cap_l_0 l_0) {r : List Bytes} (hr : m62 l_0 = some r) : Calls Tryz.prog 62 [.slice ad_l_0 l_0.length cap_l_0].toArray W (RetK M H W (fun v K => ∃ (ad0 : Option Addr) (cap0 : Nat), v = .slice ad0 r.length cap0 ∧ Sl (Flat encS) 1 K ad0 cap0 r)) := by
 have := h_l_0.len
 unfold m62 at hr
 refine enterG (M := M) Tryz.func62 rfl Tryz.ntmps62 rfl hH ?_
 refine sq (rg (a1 rfl (on (sq (rg (m1 rfl (TG.nilRow 1 9 1 ?_)))))))
 obtain ⟨hk1, hr2⟩ := chk_some hr
 have := lenA ([] : List Bytes) l_0
 refine apS 1 (enc := encS) (l := ([] : List Bytes)) (m := l_0) T11.E50 J J J J J J h_l_0 0 rfl (fun _ => rfl) (fun _ => rfl) rfl hk1 fun ad3 cap4 => (a1 rfl (on (rt_ ?_)))
 cases hr2
 intro a w hS hA
 refine ret1 hA J J ?_
 exact ⟨⟨_, _, rfl, (hS.listOut 1 rfl (fun _ => rfl))⟩, hS.ext⟩

theorem w24 {M : Prop} {W : World} {H : Hp} (hH : H.le (hp W)) {ad_l_0 : Option Addr} {cap_l_0 : Nat} {l_0 : List Heading} (h_l_0 : Sl (RHeading) 4 H ad_l_0 cap_l_0 l_0) {r : List Heading} (hr : m24 l_0 = some r) : Calls Tryz.prog 24 [.slice ad_l_0 l_0.length cap_l_0].toArray W (RetK M H W (fun v K => ∃ (ad0 : Option Addr) (cap0 : Nat), v = .slice ad0 r.length cap0 ∧ Sl (RHeading) 4 K ad0 cap0 r)) := by
 have := h_l_0.len
 unfold m24 at hr
 refine enterG (M := M) Tryz.func24 rfl Tryz.ntmps24 rfl hH ?_
 refine sq (rg (a1 rfl (on (sq (rg (a1 rfl (on (sq (sq (rg (a1 rfl ?_)))))))))))
 refine on (TG.nilRow 5 64 4 ?_)
 have hR125 : Rows (RHeading) 4 H [] ([] : List Heading) := tv
 refine TG.as 5 (z := Own.rows none 0 64 4 [] ([] : List Heading)) J J ?_
 obtain ⟨e387, hl388, hr389⟩ := bd_some hr
 refine jn (fun a w => ∃ (ad390 : Option Addr) (cap391 : Nat) (css392 : List (List Value)) (K393 : Hp), St M W H [K393, H] [(5, Own.rows ad390 cap391 64 4 css392 e387)] w ∧ Has [] 67 a [(3, .slice ad390 e387.length cap391)] ∧ Rows (RHeading) 4 K393 css392 e387) ?_ ?_
 ·refine bk ?_
  refine lp hl388 (fun s395 a w => ∃ (ad396 : Option Addr) (cap397 : Nat) (css398 : List (List Value)) (K399 : Hp), St M W H [K399, H] [(5, Own.rows ad396 cap397 64 4 css398 s395.2)] w ∧ Has [] 67 a [(0, .slice ad_l_0 l_0.length cap_l_0), (3, .slice ad396 s395.2.length cap397), (4, .int .i64 (s395.1 : Int))] ∧ Rows (RHeading) 4 K399 css398 s395.2) ?_ ?_
  ·intro a w hS hA
   exact ⟨none, 0, [], H, hS.selH [0, 0] rfl, hA.cut ⟨rfl, rfl, rfl, tv⟩, hR125⟩
  ·rintro j s395 y403 hr401 hz402 a w ⟨ad396, cap397, css398, K399, hS, hA, hR400⟩
   refine TG.ap ?_ hS hA
   unfold m24_1 at hr401
   refine sq (sq (rg (m1 rfl (m1 rfl (lnL U25 J J (ltI J J J (on ?_)))))))
   refine ci rfl (fun hc407 => ?_) (fun hc407 => ?_)
   ·have hr408 := if_p hc407 hr401
    refine sk (sq (bk (sq ?_)))
    obtain ⟨x528, hx529, hr530⟩ := bd_some hr408
    obtain ⟨p531, rfl⟩ := h_l_0.adr hx529
    obtain ⟨cs532, hcs533, hq534, hr535⟩ := h_l_0.at hx529
    have hr536 := hr535
    obtain ⟨ad537, cap538, ad540, cap541, ad543, cap544, rfl, hl539, hl542, hl545⟩ := hr535
    have := hl539.len
    have := hl542.len
    have := hl545.len
    obtain ⟨r546, hx547, hr548⟩ := bd_some hr530
    obtain ⟨r556, hx557, hr558⟩ := bd_some hr548
    refine drG4 (alS 18 (fun b567 => [(1, cel b567 64 [.string (bs []), .slice none 0 0, .slice none 0 0, .slice none 0 0]), (5, Own.rows ad396 cap397 64 4 css398 s395.2)]) (fun _ _ => [])) 19 [18] [] mixed (fun _ _ _ _ _ h => h) (by kernel_rfl) (by kernel_rfl) (by kernel_rfl) rfl (by kernel_rfl) (by kernel_rfl) (.nil) (DC.detA J J J (fun τ a w K hS hA hF => TG.pa hS hA (m1 rfl fin1)) (DC.detA J J J (fun τ a w K hS hA hF => TG.pa hS hA (m1 rfl fin1)) (DC.detA J J J (fun τ a w K hS hA hF => TG.pa hS hA (iaP U25 Z53 J J J J (lt_of hx529) fin1)) (DC.detA J J J (fun τ a w K hS hA hF => TG.pa hS hA (fb 0 U53 J J J J Z9 fin1)) (DC.detA J J J (fun τ a w K hS hA hF => TG.pa hS hA (ld G9 J J ((sS 2 rfl hq534).take 1) rfl fin1)) (DC.detA J J J (fun τ a w K hS hA hF => TG.pa hS hA (m1 rfl fin1)) (DC.detA J J J (fun τ a w K hS hA hF => TG.pa hS hA (m1 rfl fin1)) (DC.detA J J J (fun τ a w K hS hA hF => TG.pa hS hA (iaP U25 Z53 J J J J (lt_of hx529) fin1)) (DC.detA J J J (fun τ a w K hS hA hF => TG.pa hS hA (fb 1 U53 J J J J Z50 fin1)) (DC.detA J J J (fun τ a w K hS hA hF => TG.pa hS hA (ld G50 J J (((sS 2 rfl hq534).drop 1).take 1) rfl fin1)) ?_))))))))))
    refine DC.undA (α := Option Addr × Nat) (none, 0) (fun q => .slice q.1 r546.length q.2) (fun (q : Option Addr × Nat) K => Sl (Flat encS) 1 K q.1 q.2 r546) rfl (fun _ _ _ h x => x.mono (Flat.mono _) h) (by kernel_rfl) J J (fun τ a w K hS hA hF => TG.pa hS hA (clK C62 J J J J (fun w H hH le => w62 hH (hl539.mono (Flat.mono _) (le.at 2 rfl)) hx547) (by
      rintro v_ K549 ⟨ad550, cap551, rfl, hl552⟩
      exact finU (f := fun q => .slice q.1 r546.length q.2) (G := (fun (q : Option Addr × Nat) K => Sl (Flat encS) 1 K q.1 q.2 r546)) (_, _) (fun _ _ _ h x => x.mono (Flat.mono _) h) hl552))) ?_
    rintro ⟨ad554, cap555⟩
    refine DC.detA J J J (fun τ a w K hS hA hF => TG.pa hS hA (m1 rfl fin1)) (DC.detA J J J (fun τ a w K hS hA hF => TG.pa hS hA (m1 rfl fin1)) (DC.detA J J J (fun τ a w K hS hA hF => TG.pa hS hA (iaP U25 Z53 J J J J (lt_of hx529) fin1)) (DC.detA J J J (fun τ a w K hS hA hF => TG.pa hS hA (fb 2 U53 J J J J Z50 fin1)) (DC.detA J J J (fun τ a w K hS hA hF => TG.pa hS hA (ld G50 J J (((sS 2 rfl hq534).drop 2).take 1) rfl fin1)) ?_))))
    refine DC.undA (α := Option Addr × Nat) (none, 0) (fun q => .slice q.1 r556.length q.2) (fun (q : Option Addr × Nat) K => Sl (Flat encS) 1 K q.1 q.2 r556) rfl (fun _ _ _ h x => x.mono (Flat.mono _) h) (by kernel_rfl) J J (fun τ a w K hS hA hF => TG.pa hS hA (clK C62 J J J J (fun w H hH le => w62 hH (hl542.mono (Flat.mono _) (le.at 2 rfl)) hx557) (by
      rintro v_ K559 ⟨ad560, cap561, rfl, hl562⟩
      exact finU (f := fun q => .slice q.1 r556.length q.2) (G := (fun (q : Option Addr × Nat) K => Sl (Flat encS) 1 K q.1 q.2 r556)) (_, _) (fun _ _ _ h x => x.mono (Flat.mono _) h) hl562))) ?_
    rintro ⟨ad564, cap565⟩
    refine DC.undA () (fun _ => .agg [.string (bs x528.name), .slice ad554 r546.length cap555, .slice ad564 r556.length cap565, .slice none 0 0].toArray) (fun _ K => Sl (Flat encS) 1 K ad554 cap555 r546 ∧ Sl (Flat encS) 1 K ad564 cap565 r556) rfl (fun _ _ _ h x => ⟨x.1.mono (Flat.mono _) h, x.2.mono (Flat.mono _) h⟩) (by kernel_rfl) J J (fun τ a w K hS hA hF => TG.pa hS hA (bu (cs := [.string (bs x528.name), .slice ad554 r546.length cap555, .slice ad564 r556.length cap565, .slice none 0 0]) T11.B64 J J J (finF (f := fun _ => .agg [.string (bs x528.name), .slice ad554 r546.length cap555, .slice ad564 r556.length cap565, .slice none 0 0].toArray) (G := fun _ K => Sl (Flat encS) 1 K ad554 cap555 r546 ∧ Sl (Flat encS) 1 K ad564 cap565 r556) () ⟨(hF.2.1 rfl), (hF.1 rfl)⟩))) fun _ => (DC.turn (α := Nat) 0 (fun b567 => .pointer (some (⟨b567, 0, none⟩))) (fun _ _ => True) (fun b567 => [(1, cel b567 64 [.string (bs []), .slice none 0 0, .slice none 0 0, .slice none 0 0]), (5, Own.rows ad396 cap397 64 4 css398 s395.2)]) rfl (fun _ _ _ _ h => h) (by kernel_rfl) J J (fun a w K hS hA hF => TG.pa hS hA (al 1 (cs := [.string (bs []), .slice none 0 0, .slice none 0 0, .slice none 0 0]) Tryz.zeroValue64 J J fun b567 => finT (f := fun b567 => .pointer (some (⟨b567, 0, none⟩))) (G := fun _ _ => True) (σ1 := fun b567 => [(1, cel b567 64 [.string (bs []), .slice none 0 0, .slice none 0 0, .slice none 0 0]), (5, Own.rows ad396 cap397 64 4 css398 s395.2)]) b567 tv)) fun b567 => (DC.nil fun K568 hF => ?_))
    obtain ⟨_, hu566, hu563, hu553, _⟩ := hF
    have := hu553.len
    have := hu563.len
    refine sto 1 (cs := [.string (bs x528.name), .slice ad554 r546.length cap555, .slice ad564 r556.length cap565, .slice none 0 0]) Z64 J J J J J J J (on (sq (sq (rg (a1 rfl (on (TG.nilRow 3 81 3 (TG.as 3 (z := Own.list none 0 81 3 encPlace ([] : List Place)) J J ?_))))))))
    obtain ⟨e635, hl636, hr637⟩ := bd_some hr558
    refine jn (fun a w => ∃ (ad638 : Option Addr) (cap639 : Nat), St M W H [K568, K399, H] [(3, Own.list ad638 cap639 81 3 encPlace e635), (1, cel b567 64 [.string (bs x528.name), .slice ad554 r546.length cap555, .slice ad564 r556.length cap565, .slice ad638 e635.length cap639]), (5, Own.rows ad396 cap397 64 4 css398 s395.2)] w ∧ Has [] 67 a [(0, .slice (some p531) l_0.length cap_l_0), (3, .slice ad396 s395.2.length cap397), (4, .int .i64 (s395.1 : Int)), (5, .pointer (some (⟨b567, 0, none⟩)))]) ?_ ?_
    ·refine bk ?_
     refine lp hl636 (fun s640 a w => ∃ (ad641 : Option Addr) (cap642 : Nat), St M W H [K568, K399, H] [(3, Own.list ad641 cap642 81 3 encPlace s640.2), (1, cel b567 64 [.string (bs x528.name), .slice ad554 r546.length cap555, .slice ad564 r556.length cap565, .slice ad641 s640.2.length cap642]), (5, Own.rows ad396 cap397 64 4 css398 s395.2)] w ∧ Has [] 67 a [(0, .slice (some p531) l_0.length cap_l_0), (3, .slice ad396 s395.2.length cap397), (4, .int .i64 (s395.1 : Int)), (5, .pointer (some (⟨b567, 0, none⟩))), (6, .int .i64 (s640.1 : Int))]) ?_ ?_
     ·intro a w hS hA
      exact ⟨none, 0, hS, hA.cut ⟨rfl, rfl, rfl, rfl, rfl, tv⟩⟩
     ·rintro j s640 y645 hr643 hz644 a w ⟨ad641, cap642, hS, hA⟩
      refine TG.ap ?_ hS hA
      unfold m24_2 at hr643
      refine sq (sq (rg (m1 rfl (m1 rfl (m1 rfl (iaP U25 Z53 J J J J (lt_of hx529) (fb 3 U53 J J J J Z51 (ld G51 J J ((sS 2 rfl hq534).drop 3) rfl (lnL U51 J J (ltI J J J (on ?_)))))))))))
      refine ci rfl (fun hc649 => ?_) (fun hc649 => ?_)
      ·have hr650 := if_p hc649 hr643
       refine sk (sq (bk (sq (rg (m1 rfl (m1 rfl (iaP U25 Z53 J J J J (lt_of hx529) (fb 3 U53 J J J J Z51 (ld G51 J J ((sS 2 rfl hq534).drop 3) rfl (m1 rfl ?_))))))))))
       obtain ⟨x667, hx668, hr669⟩ := bd_some hr650
       obtain ⟨p670, rfl⟩ := hl545.adr hx668
       obtain ⟨cs671, hcs672, hq673, hr674⟩ := hl545.at hx668
       obtain rfl := hr674
       refine iaP U51 Z55 J J J J (lt_of hx668) (ldA G55 Z55 J J (sS 2 rfl hq673) rfl (va (cs := [.int .i64 x667.volume, .int .i64 x667.from_, .int .i64 x667.to_]) Tryz.zeroValue55 Z55 J J J J J J J J fun q675 K676 hK677 => (on (rg (fb 3 U64 J J J J Z62 (ld G62 J J ((sO 1 rfl).drop 3) rfl (fb 0 U55 J J J J Z3 (ld G3 J J ((sS 0 rfl hK677).take 1) rfl (fb 1 U55 J J J J Z3 (ld G3 J J (((sS 0 rfl hK677).drop 1).take 1) rfl (fb 2 U55 J J J J Z3 ?_)))))))))))
       refine ld G3 J J ((sS 0 rfl hK677).drop 2) rfl (bu (cs := [.int .i64 x667.volume, .int .i64 x667.from_, .int .i64 x667.to_]) T11.B81 J J J ?_)
       obtain ⟨hk678, hr679⟩ := chk_some hr669
       have := lenA s640.2 [x667]
       have := len1 x667
       refine ap1 3 encPlace (l := s640.2) x667 T11.E62 J J J J J J J J J J J J hk678 fun ad680 cap681 u682 => (fb 3 U64 J J J J Z62 (sto 1 (cs := [.slice ad680 ((s640.2 ++ [x667]).length) cap681]) Z62 J J J J J J J (on (rg (m1 rfl (adI J J J (by omega) (a1 rfl (on ?_))))))))
       cases hr679
       intro a w hS hA
       exact ⟨_, hz644, ad680, cap681, hS.selH [1, 2, 3] rfl, hA.cut ⟨rfl, rfl, rfl, rfl, rfl, tv⟩⟩
      ·have hr683 := if_n hc649 hr643
       refine xt rfl ?_
       cases hr683
       obtain rfl := Fin.out hz644
       intro a w hS hA
       exact ⟨ad641, cap642, hS, hA.cut ⟨rfl, rfl, rfl, rfl, tv⟩⟩
    ·rintro a w ⟨ad638, cap639, hS, hA⟩
     apply TG.ap ?_ hS hA
     refine rg (m1 rfl (ldA G64 Z64 J J (sO 1 rfl) rfl (TG.still 3 rfl (fun _ => rfl) fun K684 hl685 => ?_)))
     have := hl685.len
     obtain ⟨hk686, hr687⟩ := chk_some hr637
     have := lenA s395.2 [(⟨x528.name, r546, r556, e635⟩ : Heading)]
     refine TG.pack (fun K => Rows (RHeading) 4 K (css398 ++ [[.string (bs x528.name), .slice ad554 r546.length cap555, .slice ad564 r556.length cap565, .slice ad638 e635.length cap639]]) (s395.2 ++ [(⟨x528.name, r546, r556, e635⟩ : Heading)])) (fun H le => (hR400.mono (RHeading.mono) (le.at 2 rfl)).snoc (cs := [.string (bs x528.name), .slice ad554 r546.length cap555, .slice ad564 r556.length cap565, .slice ad638 e635.length cap639]) (x := (⟨x528.name, r546, r556, e635⟩ : Heading)) J J ⟨_, _, _, _, _, _, rfl, (hu566.1.mono (Flat.mono _) (le.at 1 rfl)), (hu566.2.mono (Flat.mono _) (le.at 1 rfl)), (hl685.mono (Flat.mono _) (le.at 0 rfl))⟩) fun K691 hR692 => (ap1R 5 [.string (bs x528.name), .slice ad554 r546.length cap555, .slice ad564 r556.length cap565, .slice ad638 e635.length cap639] (⟨x528.name, r546, r556, e635⟩ : Heading) (l := s395.2) (css := css398) T11.E26 J J J J J J J J J J J J hk686 fun ad688 cap689 u690 => (a1 rfl (on (rg (m1 rfl (adI J J J (by omega) (a1 rfl (on (TG.del 1 ?_)))))))))
     cases hr687
     intro a w hS hA
     exact ⟨_, hz402, ad688, cap689, (css398 ++ [[Value.string (bs x528.name), Value.slice ad554 r546.length cap555, Value.slice ad564 r556.length cap565, Value.slice ad638 e635.length cap639]]), K691, hS.selH [0, 4] rfl, hA.cut ⟨rfl, rfl, rfl, tv⟩, hR692⟩
   ·have hr693 := if_n hc407 hr401
    refine xt rfl ?_
    cases hr693
    obtain rfl := Fin.out hz402
    intro a w hS hA
    exact ⟨ad396, cap397, css398, K399, hS, hA.cut ⟨rfl, tv⟩, hR400⟩
 ·rintro a w ⟨ad390, cap391, css392, K393, hS, hA, hR394⟩
  apply TG.ap ?_ hS hA
  refine sq (rg (m1 rfl (a1 rfl (on (rt_ ?_)))))
  cases hr389
  intro a w hS hA
  refine ret1 hA J J ?_
  exact ⟨⟨_, _, rfl, (hS.rowsOut 5 rfl 0 rfl (RHeading.mono) hR394)⟩, hS.ext⟩

theorem w42 {M : Prop} {W : World} (n_0 : Int) (low : Int) (high : Int) {r : Bool} (hr : m42 n_0 low high = some r) : Calls Tryz.prog 42 [.int .i64 n_0, .int .i64 low, .int .i64 high].toArray W (RetS M W (.bool r)) := by
 unfold m42 at hr
 refine enterG (M := M) Tryz.func42 rfl Tryz.ntmps42 rfl (Hp.le.refl _) ?_
 refine sq (rg (a1 rfl (on (sq ?_))))
 obtain ⟨t4, hx5, hr6⟩ := bd_some hr
 refine jn (fun a w => St M W (hp W) [(hp W)] [] w ∧ Has [] 15 a [(6, .bool t4)]) ?_ ?_
 ·refine rg (m1 rfl (m1 rfl (geI J J J (m1 rfl ?_))))
  by_cases hb7 : low ≤ n_0
  ·have hr8 := if_p hb7 hx5
   refine gt hb7 rfl (m1 rfl (gt hb7 rfl (m1 rfl (gt hb7 rfl (leI J J J (pt hb7 J J (a1 rfl (on ?_))))))))
   cases hr8
   exact cu ⟨rfl, tv⟩
  ·have hr9 := if_n hb7 hx5
   refine gf hb7 rfl (gf hb7 rfl (gf hb7 rfl (pf hb7 J J (a1 rfl (on ?_)))))
   cases hr9
   exact cu ⟨rfl, tv⟩
 ·rintro a w ⟨hS, hA⟩
  refine TG.ap ?_ hS hA
  refine rt_ ?_
  cases hr6
  intro a w hS hA
  refine ret1 hA J J ?_
  exact ⟨rfl, hS.ext⟩

theorem w103 {M : Prop} {W : World} (s_0 : Bytes) {r : Bool} (hr : m103 s_0 = some r) : Calls Tryz.prog 103 [.string (bs s_0)].toArray W (RetS M W (.bool r)) := by
 unfold m103 at hr
 refine enterG (M := M) Tryz.func103 rfl Tryz.ntmps103 rfl (Hp.le.refl _) ?_
 refine sq (rg (a1 rfl (on (sq (sq ?_)))))
 obtain ⟨t20, hx21, hr22⟩ := bd_some hr
 refine jn (fun a w => St M W (hp W) [(hp W)] [] w ∧ Has [] 64 a [(0, .string (bs s_0)), (21, .bool t20)]) ?_ ?_
 ·refine rg (m1 rfl (lnS U9 J J ?_))
  obtain ⟨r23, hx24, hr25⟩ := bd_some hx21
  refine clS C42 J J J J (fun w H hH le => w42 (s_0.length : Int) 1 40 hx24) (nt J J (m1 rfl ?_))
  rcases Bool.eq_false_or_eq_true (r23) with hb26 | hb26
  ·have hr27 := if_p hb26 hr25
   refine gN J J (congrArg not (hb26)) (m1 rfl (gN J J (congrArg not (hb26)) ?_))
   obtain ⟨x28, hx29, hr30⟩ := bd_some hr27
   have := UInt8.toNat_lt x28
   refine ixS U9 J J J J hx29 (gN J J (congrArg not (hb26)) (eqI J J J (pF J J (congrArg not (hb26)) rfl (m1 rfl ?_))))
   by_cases hb31 : (x28.toNat : Int) = 32
   ·have hr32 := if_p hb31 hr30
    refine gf' hb31 rfl (gf' hb31 rfl (gf' hb31 rfl (gf' hb31 rfl (gf' hb31 rfl (gf' hb31 rfl (pt hb31 J J (on ?_)))))))
    cases hr32
    exact cu ⟨rfl, rfl, tv⟩
   ·have hr33 := if_n hb31 hr30
    refine gt' hb31 rfl (m1 rfl (gt' hb31 rfl (m1 rfl (gt' hb31 rfl (lnS U9 J J (gt' hb31 rfl ?_))))))
    obtain ⟨hk34, hr35⟩ := chk_some hr33
    refine sbI J J J hk34 (gt' hb31 rfl ?_)
    obtain ⟨hk36, hr37⟩ := chk_some hr35
    obtain ⟨x38, hx39, hr40⟩ := bd_some hr37
    have := UInt8.toNat_lt x38
    refine ixS U9 J J J (by omega) hx39 (gt' hb31 rfl (eqI J J J (pf hb31 J J (on ?_))))
    cases hr40
    exact cu ⟨rfl, rfl, tv⟩
  ·have hr41 := if_f hb26 hr25
   refine gF J J (congrArg not (hb26)) rfl (gF J J (congrArg not (hb26)) rfl (gF J J (congrArg not (hb26)) rfl (pT J J (congrArg not (hb26)) rfl (m1 rfl (gF J J J J (gF J J J J (gF J J J J (gF J J J J (gF J J J J (gF J J J J (pT J J J J ?_)))))))))))
   refine on ?_
   cases hr41
   exact cu ⟨rfl, rfl, tv⟩
 ·rintro a w ⟨hS, hA⟩
  refine TG.ap ?_ hS hA
  refine cb rfl (fun hc45 => ?_) (fun hc45 => ?_)
  ·have hr46 := if_p hc45 hr22
   refine sq (rg (a1 rfl (on (rt_ ?_))))
   cases hr46
   intro a w hS hA
   refine ret1 hA J J ?_
   exact ⟨rfl, hS.ext⟩
  ·have hr47 := if_f hc45 hr22
   refine sk (sq (sq (rg (a1 rfl (on ?_)))))
   obtain ⟨e89, hl90, hr91⟩ := bd_some hr47
   refine jn (fun a w => ∃ t92, e89 = .inl t92 ∧ St M W (hp W) [(hp W)] [] w ∧ Has [] 64 a []) ?_ ?_
   ·refine bk ?_
    refine lp hl90 (fun s93 a w => St M W (hp W) [(hp W)] [] w ∧ Has [] 64 a [(0, .string (bs s_0)), (3, .int .i64 (s93 : Int))]) ?_ ?_
    ·exact cu ⟨rfl, rfl, tv⟩
    ·rintro j s93 y96 hr94 hz95 a w ⟨hS, hA⟩
     refine TG.ap ?_ hS hA
     unfold m103_1 at hr94
     refine sq (sq (rg (m1 rfl (m1 rfl (lnS U9 J J (ltI J J J (on ?_)))))))
     refine ci rfl (fun hc100 => ?_) (fun hc100 => ?_)
     ·have hr101 := if_p hc100 hr94
      refine sk (sq (bk (sq (rg (m1 rfl (m1 rfl ?_))))))
      obtain ⟨x137, hx138, hr139⟩ := bd_some hr101
      have := UInt8.toNat_lt x137
      refine ixS U9 J J J J hx138 (a1 rfl (on (sq ?_)))
      obtain ⟨t168, hx169, hr170⟩ := bd_some hr139
      refine jn (fun a w => St M W (hp W) [(hp W)] [] w ∧ Has [] 64 a [(0, .string (bs s_0)), (3, .int .i64 (s93 : Int)), (63, .bool t168)]) ?_ ?_
      ·refine rg (m1 rfl (ltI J J J (m1 rfl ?_)))
       by_cases hb171 : (x137.toNat : Int) < 32
       ·have hr172 := if_p hb171 hx169
        refine gf' hb171 rfl (gf' hb171 rfl (pt hb171 J J (m1 rfl (gF J J J J (gF J J J J (pT J J J J (m1 rfl (gF J J J J (gF J J J J (pT J J J J (m1 rfl ?_)))))))))))
        refine gF J J J J (gF J J J J (pT J J J J (m1 rfl (gF J J J J (gF J J J J (pT J J J J (m1 rfl (gF J J J J (gF J J J J (gF J J J J (gU J J J ?_)))))))))))
        refine gU J J J (gU J J J (gU J J J (gU J J J (gF J J J J (pT J J J J (on ?_))))))
        cases hr172
        exact cu ⟨rfl, rfl, rfl, tv⟩
       ·have hr173 := if_n hb171 hx169
        refine gt' hb171 rfl (m1 rfl (gt' hb171 rfl (gtI J J J (pf hb171 J J (m1 rfl ?_)))))
        by_cases hb174 : 126 < (x137.toNat : Int)
        ·have hr175 := if_p hb174 hr173
         refine gf' hb174 rfl (gf' hb174 rfl (pt hb174 J J (m1 rfl (gF J J J J (gF J J J J (pT J J J J (m1 rfl (gF J J J J (gF J J J J (pT J J J J (m1 rfl ?_)))))))))))
         refine gF J J J J (gF J J J J (pT J J J J (m1 rfl (gF J J J J (gF J J J J (gF J J J J (gU J J J (gU J J J (gU J J J (gU J J J (gU J J J ?_)))))))))))
         refine gF J J J J (pT J J J J (on ?_))
         cases hr175
         exact cu ⟨rfl, rfl, rfl, tv⟩
        ·have hr176 := if_n hb174 hr173
         refine gt' hb174 rfl (m1 rfl (gt' hb174 rfl (eqI J J J (pf hb174 J J (m1 rfl ?_)))))
         by_cases hb177 : (x137.toNat : Int) = 44
         ·have hr178 := if_p hb177 hr176
          refine gf' hb177 rfl (gf' hb177 rfl (pt hb177 J J (m1 rfl (gF J J J J (gF J J J J (pT J J J J (m1 rfl (gF J J J J (gF J J J J (pT J J J J (m1 rfl ?_)))))))))))
          refine gF J J J J (gF J J J J (gF J J J J (gU J J J (gU J J J (gU J J J (gU J J J (gU J J J (gF J J J J (pT J J J J (on ?_))))))))))
          cases hr178
          exact cu ⟨rfl, rfl, rfl, tv⟩
         ·have hr179 := if_n hb177 hr176
          refine gt' hb177 rfl (m1 rfl (gt' hb177 rfl (eqI J J J (pf hb177 J J (m1 rfl ?_)))))
          by_cases hb180 : (x137.toNat : Int) = 58
          ·have hr181 := if_p hb180 hr179
           refine gf' hb180 rfl (gf' hb180 rfl (pt hb180 J J (m1 rfl (gF J J J J (gF J J J J (pT J J J J (m1 rfl (gF J J J J (gF J J J J (gF J J J J (gU J J J ?_)))))))))))
           refine gU J J J (gU J J J (gU J J J (gU J J J (gF J J J J (pT J J J J (on ?_))))))
           cases hr181
           exact cu ⟨rfl, rfl, rfl, tv⟩
          ·have hr182 := if_n hb180 hr179
           refine gt' hb180 rfl (m1 rfl (gt' hb180 rfl (eqI J J J (pf hb180 J J (m1 rfl ?_)))))
           by_cases hb183 : (x137.toNat : Int) = 59
           ·have hr184 := if_p hb183 hr182
            refine gf' hb183 rfl (gf' hb183 rfl (pt hb183 J J (m1 rfl (gF J J J J (gF J J J J (gF J J J J (gU J J J (gU J J J (gU J J J (gU J J J (gU J J J ?_)))))))))))
            refine gF J J J J (pT J J J J (on ?_))
            cases hr184
            exact cu ⟨rfl, rfl, rfl, tv⟩
           ·have hr185 := if_n hb183 hr182
            refine gt' hb183 rfl (m1 rfl (gt' hb183 rfl (eqI J J J (pf hb183 J J (m1 rfl ?_)))))
            by_cases hb186 : (x137.toNat : Int) = 61
            ·have hr187 := if_p hb186 hr185
             refine gf' hb186 rfl (gf' hb186 rfl (gf' hb186 rfl (gU J J J (gU J J J (gU J J J (gU J J J (gU J J J (gf' hb186 rfl (pt hb186 J J (on ?_))))))))))
             cases hr187
             exact cu ⟨rfl, rfl, rfl, tv⟩
            ·have hr188 := if_n hb186 hr185
             refine gt' hb186 rfl (m1 rfl (gt' hb186 rfl (eqI J J J (gt' hb186 rfl (m1 rfl ?_)))))
             by_cases hb189 : (x137.toNat : Int) = 32
             ·have hr190 := if_p hb189 hr188
              refine gt hb189 rfl (m1 rfl (gt hb189 rfl (m1 rfl (gt hb189 rfl ?_))))
              obtain ⟨hk191, hr192⟩ := chk_some hr190
              refine sbI J J J hk191 (gt hb189 rfl ?_)
              obtain ⟨hk193, hr194⟩ := chk_some hr192
              obtain ⟨x195, hx196, hr197⟩ := bd_some hr194
              have := UInt8.toNat_lt x195
              refine ixS U9 J J J (by omega) hx196 (gt hb189 rfl (eqI J J J (gt' hb186 rfl (pt hb189 J J (pf hb186 J J (on ?_))))))
              cases hr197
              exact cu ⟨rfl, rfl, rfl, tv⟩
             ·have hr198 := if_n hb189 hr188
              refine gf hb189 rfl (gf hb189 rfl (gf hb189 rfl (gf hb189 rfl (gf hb189 rfl (gt' hb186 rfl (pf hb189 J J (pf hb186 J J (on ?_))))))))
              cases hr198
              exact cu ⟨rfl, rfl, rfl, tv⟩
      ·rintro a w ⟨hS, hA⟩
       refine TG.ap ?_ hS hA
       refine cb rfl (fun hc202 => ?_) (fun hc202 => ?_)
       ·have hr203 := if_p hc202 hr170
        refine sq (rg (a1 rfl (on (rt_ ?_))))
        cases hr203
        obtain rfl := Fin.out hz95
        cases hr91
        intro a w hS hA
        refine ret1 hA J J ?_
        exact ⟨rfl, hS.ext⟩
       ·have hr204 := if_f hc202 hr170
        refine sk (rg (m1 rfl ?_))
        obtain ⟨hk205, hr206⟩ := chk_some hr204
        refine adI J J J hk205 (a1 rfl (on ?_))
        cases hr206
        intro a w hS hA
        exact ⟨_, hz95, hS, hA.cut ⟨rfl, rfl, tv⟩⟩
     ·have hr207 := if_n hc100 hr94
      refine xt rfl ?_
      cases hr207
      obtain rfl := Fin.out hz95
      intro a w hS hA
      exact ⟨_, rfl, hS, hA.cut tv⟩
   ·rintro a w ⟨t92, rfl, hS, hA⟩
    apply TG.ap ?_ hS hA
    refine sq (rg (a1 rfl (on (rt_ ?_))))
    cases hr91
    intro a w hS hA
    refine ret1 hA J J ?_
    exact ⟨rfl, hS.ext⟩

theorem w74 {M : Prop} {W : World} (s_0 : Bytes) {r : Bytes} (hr : m74 s_0 = some r) : Calls Tryz.prog 74 [.string (bs s_0)].toArray W (RetS M W (.string (bs r))) := by
 unfold m74 at hr
 refine enterG (M := M) Tryz.func74 rfl Tryz.ntmps74 rfl (Hp.le.refl _) ?_
 refine sq (rg (a1 rfl (on (sq (rg (a1 rfl (on (sq (sq (rg (a1 rfl ?_)))))))))))
 refine on (TG.nilRow 2 5 1 (TG.as 2 (z := Own.list none 0 5 1 encC ([] : List UInt8)) J J ?_))
 obtain ⟨e158, hl159, hr160⟩ := bd_some hr
 refine jn (fun a w => ∃ (ad161 : Option Addr) (cap162 : Nat), St M W (hp W) [(hp W)] [(2, Own.list ad161 cap162 5 1 encC e158)] w ∧ Has [] 44 a [(3, .slice ad161 e158.length cap162)]) ?_ ?_
 ·refine bk ?_
  refine lp hl159 (fun s163 a w => ∃ (ad164 : Option Addr) (cap165 : Nat), St M W (hp W) [(hp W)] [(2, Own.list ad164 cap165 5 1 encC s163.2)] w ∧ Has [] 44 a [(0, .string (bs s_0)), (3, .slice ad164 s163.2.length cap165), (4, .int .i64 (s163.1 : Int))]) ?_ ?_
  ·intro a w hS hA
   exact ⟨none, 0, hS, hA.cut ⟨rfl, rfl, rfl, tv⟩⟩
  ·rintro j s163 y168 hr166 hz167 a w ⟨ad164, cap165, hS, hA⟩
   refine TG.ap ?_ hS hA
   unfold m74_1 at hr166
   refine sq (sq (rg (m1 rfl (m1 rfl (lnS U9 J J (ltI J J J (on ?_)))))))
   refine ci rfl (fun hc172 => ?_) (fun hc172 => ?_)
   ·have hr173 := if_p hc172 hr166
    refine sk (sq (bk (sq (rg (m1 rfl (m1 rfl ?_))))))
    obtain ⟨x215, hx216, hr217⟩ := bd_some hr173
    have := UInt8.toNat_lt x215
    refine ixS U9 J J J J hx216 (a1 rfl (on (sq (sq ?_))))
    obtain ⟨t221, hx222, hr223⟩ := bd_some hr217
    refine jn (fun a w => St M W (hp W) [(hp W)] [(2, Own.list ad164 cap165 5 1 encC s163.2)] w ∧ Has [] 44 a [(0, .string (bs s_0)), (3, .slice ad164 s163.2.length cap165), (4, .int .i64 (s163.1 : Int)), (5, .int .u8 (x215.toNat : Int)), (20, .bool t221)]) ?_ ?_
    ·refine rg (m1 rfl (geI J J J (m1 rfl ?_)))
     by_cases hb224 : 65 ≤ (x215.toNat : Int)
     ·have hr225 := if_p hb224 hx222
      refine gt hb224 rfl (m1 rfl (gt hb224 rfl (leI J J J (pt hb224 J J (on ?_)))))
      cases hr225
      exact cu ⟨rfl, rfl, rfl, rfl, rfl, tv⟩
     ·have hr226 := if_n hb224 hx222
      refine gf hb224 rfl (gf hb224 rfl (pf hb224 J J (on ?_)))
      cases hr226
      exact cu ⟨rfl, rfl, rfl, rfl, rfl, tv⟩
    ·rintro a w ⟨hS, hA⟩
     refine TG.ap ?_ hS hA
     obtain ⟨t234, hx235, hr236⟩ := bd_some hr223
     refine jn (fun a w => St M W (hp W) [(hp W)] [(2, Own.list ad164 cap165 5 1 encC s163.2)] w ∧ Has [] 44 a [(0, .string (bs s_0)), (3, .slice ad164 s163.2.length cap165), (4, .int .i64 (s163.1 : Int)), (5, .int .u8 t234)]) ?_ ?_
     ·refine cb rfl (fun hc237 => ?_) (fun hc237 => ?_)
      ·have hr238 := if_p hc237 hx235
       refine rg (m1 rfl ?_)
       obtain ⟨hk239, hr240⟩ := chk_some hr238
       refine wrI ((x215.toNat : Int) - 65) J J J (wr_u8 hk239) ?_
       obtain ⟨hk241, hr242⟩ := chk_some hr240
       refine wrI (((x215.toNat : Int) - 65) + 97) J J J (wr_u8 hk241) (a1 rfl (on ?_))
       cases hr242
       exact cu ⟨rfl, rfl, rfl, rfl, tv⟩
      ·have hr243 := if_f hc237 hx235
       refine sk ?_
       cases hr243
       exact cu ⟨rfl, rfl, rfl, rfl, tv⟩
     ·rintro a w ⟨hS, hA⟩
      refine TG.ap ?_ hS hA
      refine sq ?_
      obtain ⟨t256, hx257, hr258⟩ := bd_some hr236
      refine jn (fun a w => St M W (hp W) [(hp W)] [(2, Own.list ad164 cap165 5 1 encC s163.2)] w ∧ Has [] 44 a [(0, .string (bs s_0)), (3, .slice ad164 s163.2.length cap165), (4, .int .i64 (s163.1 : Int)), (5, .int .u8 t234), (37, .bool t256)]) ?_ ?_
      ·refine rg (m1 rfl (geI J J J (m1 rfl ?_)))
       by_cases hb259 : 97 ≤ t234
       ·have hr260 := if_p hb259 hx257
        refine gt hb259 rfl (m1 rfl (gt hb259 rfl (leI J J J (pt hb259 J J (m1 rfl ?_)))))
        by_cases hb261 : t234 ≤ 122
        ·have hr262 := if_p hb261 hr260
         refine gf' hb261 rfl (gf' hb261 rfl (gf' hb261 rfl (gU J J J (gU J J J (gf' hb261 rfl (pt hb261 J J (on ?_)))))))
         cases hr262
         exact cu ⟨rfl, rfl, rfl, rfl, rfl, tv⟩
        ·have hr263 := if_n hb261 hr260
         refine gt' hb261 rfl (m1 rfl (gt' hb261 rfl (geI J J J (gt' hb261 rfl (m1 rfl ?_)))))
         by_cases hb264 : 48 ≤ t234
         ·have hr265 := if_p hb264 hr263
          refine gt hb264 rfl (m1 rfl (gt hb264 rfl (leI J J J (gt' hb261 rfl (pt hb264 J J (pf hb261 J J (on ?_)))))))
          cases hr265
          exact cu ⟨rfl, rfl, rfl, rfl, rfl, tv⟩
         ·have hr266 := if_n hb264 hr263
          refine gf hb264 rfl (gf hb264 rfl (gt' hb261 rfl (pf hb264 J J (pf hb261 J J (on ?_)))))
          cases hr266
          exact cu ⟨rfl, rfl, rfl, rfl, rfl, tv⟩
       ·have hr267 := if_n hb259 hx257
        refine gf hb259 rfl (gf hb259 rfl (pf hb259 J J (m1 rfl (gN J J J (m1 rfl (gN J J J (geI J J J (gN J J J (m1 rfl ?_)))))))))
        by_cases hb268 : 48 ≤ t234
        ·have hr269 := if_p hb268 hr267
         refine gt hb268 rfl (m1 rfl (gt hb268 rfl (leI J J J (gN J J J (pt hb268 J J (pF J J J J (on ?_)))))))
         cases hr269
         exact cu ⟨rfl, rfl, rfl, rfl, rfl, tv⟩
        ·have hr270 := if_n hb268 hr267
         refine gf hb268 rfl (gf hb268 rfl (gN J J J (pf hb268 J J (pF J J J J (on ?_)))))
         cases hr270
         exact cu ⟨rfl, rfl, rfl, rfl, rfl, tv⟩
      ·rintro a w ⟨hS, hA⟩
       refine TG.ap ?_ hS hA
       obtain ⟨t281, hx282, hr283⟩ := bd_some hr258
       refine jn (fun a w => ∃ (ad284 : Option Addr) (cap285 : Nat), St M W (hp W) [(hp W)] [(2, Own.list ad284 cap285 5 1 encC t281)] w ∧ Has [] 44 a [(0, .string (bs s_0)), (3, .slice ad284 t281.length cap285), (4, .int .i64 (s163.1 : Int))]) ?_ ?_
       ·refine cb rfl (fun hc286 => ?_) (fun hc286 => ?_)
        ·have hr287 := if_p hc286 hx282
         refine rg (m1 rfl (m1 rfl ?_))
         obtain ⟨hk288, hr289⟩ := chk_some hr287
         have := lenA s163.2 [(UInt8.ofNat t234.toNat)]
         obtain ⟨hk293, hr294⟩ := chk_some hr289
         have := len1 (UInt8.ofNat t234.toNat)
         refine ap1 2 encC (l := s163.2) (UInt8.ofNat t234.toNat) T11.E37 J J J J J J J (u8c hk293) J J J J hk288 fun ad290 cap291 u292 => (a1 rfl (on ?_))
         cases hr294
         intro a w hS hA
         exact ⟨ad290, cap291, hS, hA.cut ⟨rfl, rfl, rfl, tv⟩⟩
        ·have hr295 := if_f hc286 hx282
         refine sk ?_
         cases hr295
         intro a w hS hA
         exact ⟨ad164, cap165, hS, hA.cut ⟨rfl, rfl, rfl, tv⟩⟩
       ·rintro a w ⟨ad284, cap285, hS, hA⟩
        refine TG.ap ?_ hS hA
        refine rg (m1 rfl ?_)
        obtain ⟨hk296, hr297⟩ := chk_some hr283
        refine adI J J J hk296 (a1 rfl (on ?_))
        cases hr297
        intro a w hS hA
        exact ⟨_, hz167, ad284, cap285, hS, hA.cut ⟨rfl, rfl, rfl, tv⟩⟩
   ·have hr298 := if_n hc172 hr166
    refine xt rfl ?_
    cases hr298
    obtain rfl := Fin.out hz167
    intro a w hS hA
    exact ⟨ad164, cap165, hS, hA.cut ⟨rfl, tv⟩⟩
 ·rintro a w ⟨ad161, cap162, hS, hA⟩
  apply TG.ap ?_ hS hA
  refine sq (rg (m1 rfl (TG.still 2 rfl (fun _ => rfl) fun K299 hl300 => ?_)))
  have := hl300.len
  refine cvT hl300 0 rfl U37 U5 U9 J J (a1 rfl (on (rt_ ?_)))
  cases hr160
  intro a w hS hA
  refine ret1 hA J J ?_
  exact ⟨rfl, hS.ext⟩

theorem w35 {M : Prop} {W : World} (a_0 : Bytes) (b_1 : Bytes) {r : Bool} (hr : m35 a_0 b_1 = some r) : Calls Tryz.prog 35 [.string (bs a_0), .string (bs b_1)].toArray W (RetS M W (.bool r)) := by
 unfold m35 at hr
 refine enterG (M := M) Tryz.func35 rfl Tryz.ntmps35 rfl (Hp.le.refl _) ?_
 refine sq (rg (a1 rfl (on (sq (sq (rg (m1 rfl ?_)))))))
 obtain ⟨r1, hx2, hr3⟩ := bd_some hr
 refine clS C74 J J J J (fun w H hH le => w74 a_0 hx2) (m1 rfl ?_)
 obtain ⟨r4, hx5, hr6⟩ := bd_some hr3
 refine clS C74 J J J J (fun w H hH le => w74 b_1 hx5) (neS J J J (on ?_))
 refine ci rfl (fun hc10 => ?_) (fun hc10 => ?_)
 ·have hr11 := if_p hc10 hr6
  refine sq (rg (m1 rfl (clS C74 J J J J (fun w H hH le => w74 a_0 hx2) (m1 rfl (clS C74 J J J J (fun w H hH le => w74 b_1 hx5) (ltS J J J (a1 rfl (on (rt_ ?_)))))))))
  cases hr11
  intro a w hS hA
  refine ret1 hA J J ?_
  exact ⟨rfl, hS.ext⟩
 ·have hr12 := if_n hc10 hr6
  refine sk (sq (rg (m1 rfl (m1 rfl (ltS J J J (a1 rfl (on (rt_ ?_))))))))
  cases hr12
  intro a w hS hA
  refine ret1 hA J J ?_
  exact ⟨rfl, hS.ext⟩

theorem w104 {M : Prop} {W : World} {H : Hp} (hH : H.le (hp W)) {ad_l_0 : Option Addr} {cap_l_0 : Nat} {l_0 : List Bytes} (h_l_0 : Sl (Flat encS) 1 H ad_l_0 cap_l_0 l_0) {r : Bool} (hr : m104 l_0 = some r) : Calls Tryz.prog 104 [.slice ad_l_0 l_0.length cap_l_0].toArray W (RetS M W (.bool r)) := by
 have := h_l_0.len
 unfold m104 at hr
 refine enterG (M := M) Tryz.func104 rfl Tryz.ntmps104 rfl hH ?_
 refine sq (rg (a1 rfl (on (sq (sq (rg (a1 rfl (on ?_))))))))
 obtain ⟨e39, hl40, hr41⟩ := bd_some hr
 refine jn (fun a w => ∃ t42, e39 = .inl t42 ∧ St M W H [H] [] w ∧ Has [] 36 a [(0, .slice ad_l_0 l_0.length cap_l_0)]) ?_ ?_
 ·refine bk ?_
  refine lp hl40 (fun s43 a w => St M W H [H] [] w ∧ Has [] 36 a [(0, .slice ad_l_0 l_0.length cap_l_0), (3, .int .i64 (s43 : Int))]) ?_ ?_
  ·exact cu ⟨rfl, rfl, tv⟩
  ·rintro j s43 y46 hr44 hz45 a w ⟨hS, hA⟩
   refine TG.ap ?_ hS hA
   unfold m104_1 at hr44
   refine sq (sq (rg (m1 rfl (m1 rfl (lnL U50 J J (ltI J J J (on ?_)))))))
   refine ci rfl (fun hc50 => ?_) (fun hc50 => ?_)
   ·have hr51 := if_p hc50 hr44
    refine sk (sq (bk (sq ?_)))
    obtain ⟨t116, hx117, hr118⟩ := bd_some hr51
    refine jn (fun a w => St M W H [H] [] w ∧ Has [] 36 a [(0, .slice ad_l_0 l_0.length cap_l_0), (3, .int .i64 (s43 : Int)), (32, .bool t116)]) ?_ ?_
    ·obtain ⟨x119, hx120, hr121⟩ := bd_some hx117
     obtain ⟨p122, rfl⟩ := h_l_0.adr hx120
     obtain ⟨cs123, hcs124, hq125, hr126⟩ := h_l_0.at hx120
     obtain rfl := hr126
     obtain ⟨r127, hx128, hr129⟩ := bd_some hr121
     rcases Bool.eq_false_or_eq_true (r127) with hb130 | hb130
     ·have hr131 := if_p hb130 hr129
      by_cases hb132 : 0 < (s43 : Int)
      ·have hr133 := if_p hb132 hr131
       obtain ⟨x134, hx135, hr136⟩ := bd_some hr133
       obtain ⟨cs137, hcs138, hq139, hr140⟩ := h_l_0.at hx135
       obtain rfl := hr140
       refine drG 19 mixed (by kernel_rfl) rfl (dt rfl (m1 rfl fin1) (dt rfl (m1 rfl fin1) (dt rfl (iaP U50 Z9 J J J J (lt_of hx120) fin1) (dt rfl (ld G9 J J (sS 1 rfl hq125) rfl fin1) (dt rfl (clS C103 J J J J (fun w H hH le => w103 x119 hx128) fin1) (dt rfl (nt J J fin1) (dt rfl (m1 rfl fin1) (dt rfl (gN J J (congrArg not (hb130)) (m1 rfl fin1)) (dt rfl (gN J J (congrArg not (hb130)) (gtI J J J fin1)) (dt rfl (gN J J (congrArg not (hb130)) (m1 rfl fin1)) (dt rfl (gt hb132 rfl (m1 rfl fin1)) ?_)))))))))))
       refine dt rfl (gt hb132 rfl (m1 rfl fin1)) (dt rfl (gt hb132 rfl (sbI J J J (by omega) fin1)) (dt rfl (gt hb132 rfl (iaP U50 Z9 J J J (by omega) (lt_of hx135) fin1)) (dt rfl (gt hb132 rfl (ld G9 J J (sS 1 rfl hq139) rfl fin1)) (dt rfl (gt hb132 rfl (m1 rfl fin1)) (dt rfl (gt hb132 rfl (m1 rfl fin1)) (dt rfl (gt hb132 rfl (iaP U50 Z9 J J J J (lt_of hx120) fin1)) (dt rfl (gt hb132 rfl (ld G9 J J (sS 1 rfl hq125) rfl fin1)) (DF.nil fun K141 hF => (gt hb132 rfl ?_)))))))))
       obtain ⟨r142, hx143, hr144⟩ := bd_some hr136
       refine clS C35 J J J J (fun w H hH le => w35 x134 x119 hx143) (gt hb132 rfl (nt J J (gN J J (congrArg not (hb130)) (pt hb132 J J (pF J J (congrArg not (hb130)) rfl (on ?_))))))
       cases hr144
       intro a w hS hA
       exact ⟨hS.selH [1] rfl, hA.cut ⟨rfl, rfl, rfl, tv⟩⟩
      ·have hr145 := if_n hb132 hr131
       refine drG 19 mixed (by kernel_rfl) rfl (dt rfl (m1 rfl fin1) (dt rfl (m1 rfl fin1) (dt rfl (iaP U50 Z9 J J J J (lt_of hx120) fin1) (dt rfl (ld G9 J J (sS 1 rfl hq125) rfl fin1) (dt rfl (clS C103 J J J J (fun w H hH le => w103 x119 hx128) fin1) (dt rfl (nt J J fin1) (dt rfl (m1 rfl fin1) (dt rfl (gN J J (congrArg not (hb130)) (m1 rfl fin1)) (dt rfl (gN J J (congrArg not (hb130)) (gtI J J J fin1)) (dt rfl (gN J J (congrArg not (hb130)) (m1 rfl fin1)) (dt rfl (gf hb132 rfl fin1) ?_)))))))))))
       refine dt rfl (gf hb132 rfl fin1) (dt rfl (gf hb132 rfl fin1) (dt rfl (gf hb132 rfl fin1) (dt rfl (gf hb132 rfl fin1) (dt rfl (gf hb132 rfl fin1) (dt rfl (gf hb132 rfl fin1) (dt rfl (gf hb132 rfl fin1) (dt rfl (gf hb132 rfl fin1) (DF.nil fun K146 hF => (gf hb132 rfl (gf hb132 rfl (gN J J (congrArg not (hb130)) ?_)))))))))))
       refine pf hb132 J J (pF J J (congrArg not (hb130)) rfl (on ?_))
       cases hr145
       intro a w hS hA
       exact ⟨hS.selH [1] rfl, hA.cut ⟨rfl, rfl, rfl, tv⟩⟩
     ·have hr147 := if_f hb130 hr129
      refine drG 19 mixed (by kernel_rfl) rfl (dt rfl (m1 rfl fin1) (dt rfl (m1 rfl fin1) (dt rfl (iaP U50 Z9 J J J J (lt_of hx120) fin1) (dt rfl (ld G9 J J (sS 1 rfl hq125) rfl fin1) (dt rfl (clS C103 J J J J (fun w H hH le => w103 x119 hx128) fin1) (dt rfl (nt J J fin1) (dt rfl (m1 rfl fin1) (dt rfl (gF J J (congrArg not (hb130)) rfl fin1) (dt rfl (gF J J (congrArg not (hb130)) rfl fin1) (dt rfl (gF J J (congrArg not (hb130)) rfl fin1) (dt rfl (gU J J J fin1) ?_)))))))))))
      refine dt rfl (gU J J J fin1) (dt rfl (gU J J J fin1) (dt rfl (gU J J J fin1) (dt rfl (gU J J J fin1) (dt rfl (gU J J J fin1) (dt rfl (gU J J J fin1) (dt rfl (gU J J J fin1) (dt rfl (gU J J J fin1) (DF.nil fun K148 hF => (gU J J J (gU J J J (gF J J (congrArg not (hb130)) rfl ?_)))))))))))
      refine pT J J (congrArg not (hb130)) rfl (on ?_)
      cases hr147
      intro a w hS hA
      exact ⟨hS.selH [1] rfl, hA.cut ⟨rfl, rfl, rfl, tv⟩⟩
    ·rintro a w ⟨hS, hA⟩
     refine TG.ap ?_ hS hA
     refine cb rfl (fun hc152 => ?_) (fun hc152 => ?_)
     ·have hr153 := if_p hc152 hr118
      refine sq (rg (a1 rfl (on (rt_ ?_))))
      cases hr153
      obtain rfl := Fin.out hz45
      cases hr41
      intro a w hS hA
      refine ret1 hA J J ?_
      exact ⟨rfl, hS.ext⟩
     ·have hr154 := if_f hc152 hr118
      refine sk (rg (m1 rfl (adI J J J (by omega) (a1 rfl (on ?_)))))
      cases hr154
      intro a w hS hA
      exact ⟨_, hz45, hS, hA.cut ⟨rfl, rfl, tv⟩⟩
   ·have hr155 := if_n hc50 hr44
    refine xt rfl ?_
    cases hr155
    obtain rfl := Fin.out hz45
    intro a w hS hA
    exact ⟨_, rfl, hS, hA.cut ⟨rfl, tv⟩⟩
 ·rintro a w ⟨t42, rfl, hS, hA⟩
  apply TG.ap ?_ hS hA
  refine sq (rg (m1 rfl (lnL U50 J J (leI J J J (a1 rfl (on (rt_ ?_)))))))
  cases hr41
  intro a w hS hA
  refine ret1 hA J J ?_
  exact ⟨rfl, hS.ext⟩

theorem w105 {M : Prop} {W : World} {H : Hp} (hH : H.le (hp W)) {ad_l_0 : Option Addr} {cap_l_0 : Nat} {l_0 : List Place} (h_l_0 : Sl (Flat encPlace) 3 H ad_l_0 cap_l_0 l_0) {r : Bool} (hr : m105 l_0 = some r) : Calls Tryz.prog 105 [.slice ad_l_0 l_0.length cap_l_0].toArray W (RetS M W (.bool r)) := by
 have := h_l_0.len
 unfold m105 at hr
 refine enterG (M := M) Tryz.func105 rfl Tryz.ntmps105 rfl hH ?_
 refine sq (rg (a1 rfl (on (sq (sq (rg (a1 rfl (on ?_))))))))
 obtain ⟨e58, hl59, hr60⟩ := bd_some hr
 refine jn (fun a w => ∃ t61, e58 = .inl t61 ∧ St M W H [H] [] w ∧ Has [] 68 a []) ?_ ?_
 ·refine bk ?_
  refine lp hl59 (fun s62 a w => St M W H [H] [] w ∧ Has [] 68 a [(0, .slice ad_l_0 l_0.length cap_l_0), (3, .int .i64 (s62 : Int))]) ?_ ?_
  ·exact cu ⟨rfl, rfl, tv⟩
  ·rintro j s62 y65 hr63 hz64 a w ⟨hS, hA⟩
   refine TG.ap ?_ hS hA
   unfold m105_1 at hr63
   refine sq (sq (rg (m1 rfl (m1 rfl (lnL U51 J J (ltI J J J (on ?_)))))))
   refine ci rfl (fun hc69 => ?_) (fun hc69 => ?_)
   ·have hr70 := if_p hc69 hr63
    refine sk (sq (bk (sq (rg (m1 rfl (m1 rfl ?_))))))
    obtain ⟨x124, hx125, hr126⟩ := bd_some hr70
    obtain ⟨p127, rfl⟩ := h_l_0.adr hx125
    obtain ⟨cs128, hcs129, hq130, hr131⟩ := h_l_0.at hx125
    obtain rfl := hr131
    refine iaP U51 Z55 J J J J (lt_of hx125) (ldA G55 Z55 J J (sS 0 rfl hq130) rfl (va (cs := [.int .i64 x124.volume, .int .i64 x124.from_, .int .i64 x124.to_]) Tryz.zeroValue55 Z55 J J J J J J J J fun q132 K133 hK134 => (on (sq (sq ?_)))))
    obtain ⟨t147, hx148, hr149⟩ := bd_some hr126
    refine jn (fun a w => St M W H [K133, H] [] w ∧ Has [] 68 a [(0, .slice (some p127) l_0.length cap_l_0), (3, .int .i64 (s62 : Int)), (4, .pointer (some q132)), (31, .bool t147)]) ?_ ?_
    ·refine rg (fb 0 U55 J J J J Z3 (ld G3 J J ((sS 0 rfl hK134).take 1) rfl ?_))
     obtain ⟨r150, hx151, hr152⟩ := bd_some hx148
     refine clS C42 J J J J (fun w H hH le => w42 x124.volume 1 999 hx151) (nt J J (m1 rfl ?_))
     rcases Bool.eq_false_or_eq_true (r150) with hb153 | hb153
     ·have hr154 := if_p hb153 hr152
      refine gN J J (congrArg not (hb153)) (fb 1 U55 J J J J Z3 (gN J J (congrArg not (hb153)) (ld G3 J J (((sS 0 rfl hK134).drop 1).take 1) rfl (gN J J (congrArg not (hb153)) (fb 2 U55 J J J J Z3 (gN J J (congrArg not (hb153)) (ld G3 J J ((sS 0 rfl hK134).drop 2) rfl (gN J J (congrArg not (hb153)) ?_))))))))
      obtain ⟨r155, hx156, hr157⟩ := bd_some hr154
      refine clS C42 J J J J (fun w H hH le => w42 x124.from_ 1 x124.to_ hx156) (gN J J (congrArg not (hb153)) (nt J J (pF J J (congrArg not (hb153)) rfl (m1 rfl ?_))))
      rcases Bool.eq_false_or_eq_true (r155) with hb158 | hb158
      ·have hr159 := if_p hb158 hr157
       refine gN J J (congrArg not (hb158)) (fb 2 U55 J J J J Z3 (gN J J (congrArg not (hb158)) (ld G3 J J ((sS 0 rfl hK134).drop 2) rfl (gN J J (congrArg not (hb158)) (gtI J J J (pF J J (congrArg not (hb158)) rfl (on ?_)))))))
       cases hr159
       exact cu ⟨rfl, rfl, rfl, rfl, tv⟩
      ·have hr160 := if_f hb158 hr157
       refine gF J J (congrArg not (hb158)) rfl (gF J J (congrArg not (hb158)) rfl (gF J J (congrArg not (hb158)) rfl (pT J J (congrArg not (hb158)) rfl (on ?_))))
       cases hr160
       exact cu ⟨rfl, rfl, rfl, rfl, tv⟩
     ·have hr161 := if_f hb153 hr152
      refine gF J J (congrArg not (hb153)) rfl (gF J J (congrArg not (hb153)) rfl (gF J J (congrArg not (hb153)) rfl (gF J J (congrArg not (hb153)) rfl (gF J J (congrArg not (hb153)) rfl (gF J J (congrArg not (hb153)) rfl (pT J J (congrArg not (hb153)) rfl (m1 rfl (gF J J J J (gF J J J J (gF J J J J (pT J J J J ?_)))))))))))
      refine on ?_
      cases hr161
      exact cu ⟨rfl, rfl, rfl, rfl, tv⟩
    ·rintro a w ⟨hS, hA⟩
     refine TG.ap ?_ hS hA
     refine cb rfl (fun hc165 => ?_) (fun hc165 => ?_)
     ·have hr166 := if_p hc165 hr149
      refine sq (rg (a1 rfl (on (rt_ ?_))))
      cases hr166
      obtain rfl := Fin.out hz64
      cases hr60
      intro a w hS hA
      refine ret1 hA J J ?_
      exact ⟨rfl, hS.ext⟩
     ·have hr167 := if_f hc165 hr149
      refine sk (sq ?_)
      obtain ⟨t190, hx191, hr192⟩ := bd_some hr167
      refine jn (fun a w => St M W H [K133, H] [] w ∧ Has [] 68 a [(0, .slice (some p127) l_0.length cap_l_0), (3, .int .i64 (s62 : Int)), (67, .bool t190)]) ?_ ?_
      ·by_cases hb193 : 0 < (s62 : Int)
       ·have hr194 := if_p hb193 hx191
        obtain ⟨x195, hx196, hr197⟩ := bd_some hr194
        obtain ⟨cs198, hcs199, hq200, hr201⟩ := h_l_0.at hx196
        obtain rfl := hr201
        by_cases hb202 : x124.volume < x195.volume
        ·have hr203 := if_p hb202 hr197
         refine drG 32 mixed (by kernel_rfl) rfl (dt rfl (m1 rfl fin1) (dt rfl (gtI J J J fin1) (dt rfl (m1 rfl fin1) (dt rfl (gt hb193 rfl (fb 0 U55 J J J J Z3 fin1)) (dt rfl (gt hb193 rfl (ld G3 J J ((sS 1 rfl hK134).take 1) rfl fin1)) (dt rfl (gt hb193 rfl (m1 rfl fin1)) (dt rfl (gt hb193 rfl (m1 rfl fin1)) (dt rfl (gt hb193 rfl (sbI J J J (by omega) fin1)) (dt rfl (gt hb193 rfl (iaP U51 Z55 J J J (by omega) (lt_of hx196) fin1)) (dt rfl (gt hb193 rfl (fb 0 U55 J J J J Z3 fin1)) (dt rfl (gt hb193 rfl (ld G3 J J ((sS 2 rfl hq200).take 1) rfl fin1)) ?_)))))))))))
         refine dt rfl (gt hb193 rfl (ltI J J J fin1)) (dt rfl (gt hb193 rfl (m1 rfl fin1)) (dt rfl (gf' hb202 rfl fin1) (dt rfl (gf' hb202 rfl fin1) (dt rfl (gf' hb202 rfl fin1) (dt rfl (gf' hb202 rfl fin1) (dt rfl (gf' hb202 rfl fin1) (dt rfl (gf' hb202 rfl fin1) (dt rfl (gf' hb202 rfl fin1) (dt rfl (gf' hb202 rfl fin1) (dt rfl (gf' hb202 rfl fin1) (dt rfl (gf' hb202 rfl fin1) ?_)))))))))))
         refine dt rfl (gU J J J fin1) (dt rfl (gU J J J fin1) (dt rfl (gU J J J fin1) (dt rfl (gU J J J fin1) (dt rfl (gU J J J fin1) (dt rfl (gU J J J fin1) (dt rfl (gU J J J fin1) (dt rfl (gU J J J fin1) (dt rfl (gU J J J fin1) (DF.nil fun K204 hF => (gU J J J (gf' hb202 rfl ?_)))))))))))
         refine gt hb193 rfl (pt hb202 J J (pt hb193 J J (on ?_)))
         cases hr203
         intro a w hS hA
         exact ⟨hS.selH [1, 2] rfl, hA.cut ⟨rfl, rfl, rfl, tv⟩⟩
        ·have hr205 := if_n hb202 hr197
         by_cases hb206 : x124.volume = x195.volume
         ·have hr207 := if_p hb206 hr205
          obtain ⟨hk208, hr209⟩ := chk_some hr207
          refine drG 32 mixed (by kernel_rfl) rfl (dt rfl (m1 rfl fin1) (dt rfl (gtI J J J fin1) (dt rfl (m1 rfl fin1) (dt rfl (gt hb193 rfl (fb 0 U55 J J J J Z3 fin1)) (dt rfl (gt hb193 rfl (ld G3 J J ((sS 1 rfl hK134).take 1) rfl fin1)) (dt rfl (gt hb193 rfl (m1 rfl fin1)) (dt rfl (gt hb193 rfl (m1 rfl fin1)) (dt rfl (gt hb193 rfl (sbI J J J (by omega) fin1)) (dt rfl (gt hb193 rfl (iaP U51 Z55 J J J (by omega) (lt_of hx196) fin1)) (dt rfl (gt hb193 rfl (fb 0 U55 J J J J Z3 fin1)) (dt rfl (gt hb193 rfl (ld G3 J J ((sS 2 rfl hq200).take 1) rfl fin1)) ?_)))))))))))
          refine dt rfl (gt hb193 rfl (ltI J J J fin1)) (dt rfl (gt hb193 rfl (m1 rfl fin1)) (dt rfl (gt' hb202 rfl (fb 0 U55 J J J J Z3 fin1)) (dt rfl (gt' hb202 rfl (ld G3 J J ((sS 1 rfl hK134).take 1) rfl fin1)) (dt rfl (gt' hb202 rfl (m1 rfl fin1)) (dt rfl (gt' hb202 rfl (m1 rfl fin1)) (dt rfl (gt' hb202 rfl (sbI J J J (by omega) fin1)) (dt rfl (gt' hb202 rfl (iaP U51 Z55 J J J (by omega) (lt_of hx196) fin1)) (dt rfl (gt' hb202 rfl (fb 0 U55 J J J J Z3 fin1)) (dt rfl (gt' hb202 rfl (ld G3 J J ((sS 2 rfl hq200).take 1) rfl fin1)) (dt rfl (gt' hb202 rfl (eqI J J J fin1)) (dt rfl (gt' hb202 rfl (m1 rfl fin1)) ?_)))))))))))
          refine dt rfl (gt hb206 rfl (fb 1 U55 J J J J Z3 fin1)) (dt rfl (gt hb206 rfl (ld G3 J J (((sS 1 rfl hK134).drop 1).take 1) rfl fin1)) (dt rfl (gt hb206 rfl (m1 rfl fin1)) (dt rfl (gt hb206 rfl (m1 rfl fin1)) (dt rfl (gt hb206 rfl (sbI J J J (by omega) fin1)) (dt rfl (gt hb206 rfl (iaP U51 Z55 J J J (by omega) (lt_of hx196) fin1)) (dt rfl (gt hb206 rfl (fb 2 U55 J J J J Z3 fin1)) (dt rfl (gt hb206 rfl (ld G3 J J ((sS 2 rfl hq200).drop 2) rfl fin1)) (dt rfl (gt hb206 rfl (adI J J J hk208 fin1)) (DF.nil fun K210 hF => (gt hb206 rfl (leI J J J ?_)))))))))))
          refine gt' hb202 rfl (pt hb206 J J (gt hb193 rfl (pf hb202 J J (pt hb193 J J (on ?_)))))
          cases hr209
          intro a w hS hA
          exact ⟨hS.selH [1, 2] rfl, hA.cut ⟨rfl, rfl, rfl, tv⟩⟩
         ·have hr211 := if_n hb206 hr205
          refine drG 32 mixed (by kernel_rfl) rfl (dt rfl (m1 rfl fin1) (dt rfl (gtI J J J fin1) (dt rfl (m1 rfl fin1) (dt rfl (gt hb193 rfl (fb 0 U55 J J J J Z3 fin1)) (dt rfl (gt hb193 rfl (ld G3 J J ((sS 1 rfl hK134).take 1) rfl fin1)) (dt rfl (gt hb193 rfl (m1 rfl fin1)) (dt rfl (gt hb193 rfl (m1 rfl fin1)) (dt rfl (gt hb193 rfl (sbI J J J (by omega) fin1)) (dt rfl (gt hb193 rfl (iaP U51 Z55 J J J (by omega) (lt_of hx196) fin1)) (dt rfl (gt hb193 rfl (fb 0 U55 J J J J Z3 fin1)) (dt rfl (gt hb193 rfl (ld G3 J J ((sS 2 rfl hq200).take 1) rfl fin1)) ?_)))))))))))
          refine dt rfl (gt hb193 rfl (ltI J J J fin1)) (dt rfl (gt hb193 rfl (m1 rfl fin1)) (dt rfl (gt' hb202 rfl (fb 0 U55 J J J J Z3 fin1)) (dt rfl (gt' hb202 rfl (ld G3 J J ((sS 1 rfl hK134).take 1) rfl fin1)) (dt rfl (gt' hb202 rfl (m1 rfl fin1)) (dt rfl (gt' hb202 rfl (m1 rfl fin1)) (dt rfl (gt' hb202 rfl (sbI J J J (by omega) fin1)) (dt rfl (gt' hb202 rfl (iaP U51 Z55 J J J (by omega) (lt_of hx196) fin1)) (dt rfl (gt' hb202 rfl (fb 0 U55 J J J J Z3 fin1)) (dt rfl (gt' hb202 rfl (ld G3 J J ((sS 2 rfl hq200).take 1) rfl fin1)) (dt rfl (gt' hb202 rfl (eqI J J J fin1)) (dt rfl (gt' hb202 rfl (m1 rfl fin1)) ?_)))))))))))
          refine dt rfl (gf hb206 rfl fin1) (dt rfl (gf hb206 rfl fin1) (dt rfl (gf hb206 rfl fin1) (dt rfl (gf hb206 rfl fin1) (dt rfl (gf hb206 rfl fin1) (dt rfl (gf hb206 rfl fin1) (dt rfl (gf hb206 rfl fin1) (dt rfl (gf hb206 rfl fin1) (dt rfl (gf hb206 rfl fin1) (DF.nil fun K212 hF => (gf hb206 rfl (gt' hb202 rfl ?_)))))))))))
          refine pf hb206 J J (gt hb193 rfl (pf hb202 J J (pt hb193 J J (on ?_))))
          cases hr211
          intro a w hS hA
          exact ⟨hS.selH [1, 2] rfl, hA.cut ⟨rfl, rfl, rfl, tv⟩⟩
       ·have hr213 := if_n hb193 hx191
        refine drG 32 mixed (by kernel_rfl) rfl (dt rfl (m1 rfl fin1) (dt rfl (gtI J J J fin1) (dt rfl (m1 rfl fin1) (dt rfl (gf hb193 rfl fin1) (dt rfl (gf hb193 rfl fin1) (dt rfl (gf hb193 rfl fin1) (dt rfl (gf hb193 rfl fin1) (dt rfl (gf hb193 rfl fin1) (dt rfl (gf hb193 rfl fin1) (dt rfl (gf hb193 rfl fin1) (dt rfl (gf hb193 rfl fin1) ?_)))))))))))
        refine dt rfl (gf hb193 rfl fin1) (dt rfl (gf hb193 rfl fin1) (dt rfl (gU J J J fin1) (dt rfl (gU J J J fin1) (dt rfl (gU J J J fin1) (dt rfl (gU J J J fin1) (dt rfl (gU J J J fin1) (dt rfl (gU J J J fin1) (dt rfl (gU J J J fin1) (dt rfl (gU J J J fin1) (dt rfl (gU J J J fin1) (dt rfl (gU J J J fin1) ?_)))))))))))
        refine dt rfl (gU J J J fin1) (dt rfl (gU J J J fin1) (dt rfl (gU J J J fin1) (dt rfl (gU J J J fin1) (dt rfl (gU J J J fin1) (dt rfl (gU J J J fin1) (dt rfl (gU J J J fin1) (dt rfl (gU J J J fin1) (dt rfl (gU J J J fin1) (DF.nil fun K214 hF => (gU J J J (gU J J J ?_)))))))))))
        refine gf hb193 rfl (pf hb193 J J (on ?_))
        cases hr213
        intro a w hS hA
        exact ⟨hS.selH [1, 2] rfl, hA.cut ⟨rfl, rfl, rfl, tv⟩⟩
      ·rintro a w ⟨hS, hA⟩
       refine TG.ap ?_ hS hA
       refine cb rfl (fun hc218 => ?_) (fun hc218 => ?_)
       ·have hr219 := if_p hc218 hr192
        refine sq (rg (a1 rfl (on (rt_ ?_))))
        cases hr219
        obtain rfl := Fin.out hz64
        cases hr60
        intro a w hS hA
        refine ret1 hA J J ?_
        exact ⟨rfl, hS.ext⟩
       ·have hr220 := if_f hc218 hr192
        refine sk (rg (m1 rfl (adI J J J (by omega) (a1 rfl (on ?_)))))
        cases hr220
        intro a w hS hA
        exact ⟨_, hz64, hS.selH [1] rfl, hA.cut ⟨rfl, rfl, tv⟩⟩
   ·have hr221 := if_n hc69 hr63
    refine xt rfl ?_
    cases hr221
    obtain rfl := Fin.out hz64
    intro a w hS hA
    exact ⟨_, rfl, hS, hA.cut tv⟩
 ·rintro a w ⟨t61, rfl, hS, hA⟩
  apply TG.ap ?_ hS hA
  refine sq (rg (a1 rfl (on (rt_ ?_))))
  cases hr60
  intro a w hS hA
  refine ret1 hA J J ?_
  exact ⟨rfl, hS.ext⟩

theorem w64 {M : Prop} {W : World} {H : Hp} (hH : H.le (hp W)) {cs_h_0 : List Value} (h_0 : Heading) (h_h_0 : (RHeading) H cs_h_0 h_0) {r : Bool} (hr : m64 h_0 = some r) : Calls Tryz.prog 64 [.agg cs_h_0.toArray].toArray W (RetS M W (.bool r)) := by
 have hh_h_0 := h_h_0
 obtain ⟨ad1, cap2, ad4, cap5, ad7, cap8, rfl, hl3, hl6, hl9⟩ := h_h_0
 have := hl3.len
 have := hl6.len
 have := hl9.len
 unfold m64 at hr
 refine enterG (M := M) Tryz.func64 rfl Tryz.ntmps64 rfl hH ?_
 refine sq (rg (bI (cs := [.string (bs h_0.name), .slice ad1 h_0.variants.length cap2, .slice ad4 h_0.also.length cap5, .slice ad7 h_0.places.length cap8]) J J J fun q10 K11 hK12 => (a1 rfl (on (sq ?_)))))
 obtain ⟨t37, hx38, hr39⟩ := bd_some hr
 refine jn (fun a w => St M W H [K11, H] [] w ∧ Has [] 27 a [(2, .bool t37)]) ?_ ?_
 ·refine rg (fb 0 U53 J J J J Z9 (ld G9 J J ((sS 0 rfl hK12).take 1) rfl ?_))
  obtain ⟨r40, hx41, hr42⟩ := bd_some hx38
  refine clS C103 J J J J (fun w H hH le => w103 h_0.name hx41) (m1 rfl ?_)
  rcases Bool.eq_false_or_eq_true (r40) with hb43 | hb43
  ·have hr44 := if_p hb43 hr42
   refine gN J J (hb43) (fb 1 U53 J J J J Z50 (gN J J (hb43) (ld G50 J J (((sS 0 rfl hK12).drop 1).take 1) rfl (gN J J (hb43) ?_))))
   obtain ⟨r45, hx46, hr47⟩ := bd_some hr44
   refine clS C104 J J J J (fun w H hH le => w104 hH (hl3.mono (Flat.mono _) (le.at 1 rfl)) hx46) (pT J J (hb43) rfl (m1 rfl ?_))
   rcases Bool.eq_false_or_eq_true (r45) with hb48 | hb48
   ·have hr49 := if_p hb48 hr47
    refine gN J J (hb48) (fb 2 U53 J J J J Z50 (gN J J (hb48) (ld G50 J J (((sS 0 rfl hK12).drop 2).take 1) rfl (gN J J (hb48) ?_))))
    obtain ⟨r50, hx51, hr52⟩ := bd_some hr49
    refine clS C104 J J J J (fun w H hH le => w104 hH (hl6.mono (Flat.mono _) (le.at 1 rfl)) hx51) (pT J J (hb48) rfl (m1 rfl ?_))
    rcases Bool.eq_false_or_eq_true (r50) with hb53 | hb53
    ·have hr54 := if_p hb53 hr52
     refine gN J J (hb53) (fb 3 U53 J J J J Z51 (gN J J (hb53) (ld G51 J J ((sS 0 rfl hK12).drop 3) rfl (gN J J (hb53) (lnL U51 J J (gN J J (hb53) (leI J J J (pT J J (hb53) rfl (m1 rfl ?_)))))))))
     by_cases hb55 : (h_0.places.length : Int) ≤ 30
     ·have hr56 := if_p hb55 hr54
      refine gt hb55 rfl (fb 3 U53 J J J J Z51 (gt hb55 rfl (ld G51 J J ((sS 0 rfl hK12).drop 3) rfl (gt hb55 rfl ?_))))
      obtain ⟨r57, hx58, hr59⟩ := bd_some hr56
      refine clS C105 J J J J (fun w H hH le => w105 hH (hl9.mono (Flat.mono _) (le.at 1 rfl)) hx58) (pt hb55 J J (a1 rfl (on ?_)))
      cases hr59
      exact cu ⟨rfl, tv⟩
     ·have hr60 := if_n hb55 hr54
      refine gf hb55 rfl (gf hb55 rfl (gf hb55 rfl (pf hb55 J J (a1 rfl (on ?_)))))
      cases hr60
      exact cu ⟨rfl, tv⟩
    ·have hr61 := if_f hb53 hr52
     refine gF J J (hb53) rfl (gF J J (hb53) rfl (gF J J (hb53) rfl (gF J J (hb53) rfl (pF J J (hb53) rfl (m1 rfl (gF J J J J (gF J J J J (gF J J J J (pF J J J J (a1 rfl (on ?_)))))))))))
     cases hr61
     exact cu ⟨rfl, tv⟩
   ·have hr62 := if_f hb48 hr47
    refine gF J J (hb48) rfl (gF J J (hb48) rfl (gF J J (hb48) rfl (pF J J (hb48) rfl (m1 rfl (gF J J J J (gF J J J J (gF J J J J (gF J J J J (pF J J J J (m1 rfl (gF J J J J ?_)))))))))))
    refine gF J J J J (gF J J J J (pF J J J J (a1 rfl (on ?_))))
    cases hr62
    exact cu ⟨rfl, tv⟩
  ·have hr63 := if_f hb43 hr42
   refine gF J J (hb43) rfl (gF J J (hb43) rfl (gF J J (hb43) rfl (pF J J (hb43) rfl (m1 rfl (gF J J J J (gF J J J J (gF J J J J (pF J J J J (m1 rfl (gF J J J J (gF J J J J ?_)))))))))))
   refine gF J J J J (gF J J J J (pF J J J J (m1 rfl (gF J J J J (gF J J J J (gF J J J J (pF J J J J (a1 rfl (on ?_)))))))))
   cases hr63
   exact cu ⟨rfl, tv⟩
 ·rintro a w ⟨hS, hA⟩
  refine TG.ap ?_ hS hA
  refine rt_ ?_
  cases hr39
  intro a w hS hA
  refine ret1 hA J J ?_
  exact ⟨rfl, hS.ext⟩

theorem w36 {M : Prop} {W : World} {H : Hp} (hH : H.le (hp W)) {cs_h_0 : List Value} (h_0 : Heading) (h_h_0 : (RHeading) H cs_h_0 h_0) {r : List Bytes} (hr : m36 h_0 = some r) : Calls Tryz.prog 36 [.agg cs_h_0.toArray].toArray W (RetK M H W (fun v K => ∃ (ad0 : Option Addr) (cap0 : Nat), v = .slice ad0 r.length cap0 ∧ Sl (Flat encS) 1 K ad0 cap0 r)) := by
 have hh_h_0 := h_h_0
 obtain ⟨ad1, cap2, ad4, cap5, ad7, cap8, rfl, hl3, hl6, hl9⟩ := h_h_0
 have := hl3.len
 have := hl6.len
 have := hl9.len
 unfold m36 at hr
 refine enterG (M := M) Tryz.func36 rfl Tryz.ntmps36 rfl hH ?_
 refine sq (rg (bI (cs := [.string (bs h_0.name), .slice ad1 h_0.variants.length cap2, .slice ad4 h_0.also.length cap5, .slice ad7 h_0.places.length cap8]) J J J fun q10 K11 hK12 => (a1 rfl (on (sq (rg (fb 0 U53 J J J J Z9 (ld G9 J J ((sS 0 rfl hK12).take 1) rfl (bSL 1 encS ([h_0.name] : List Bytes) (cs := [.string (bs h_0.name)]) T11.E50 J J J J J J fun b13 => (fb 1 U53 J J J J Z50 (ld G50 J J (((sS 0 rfl hK12).drop 1).take 1) rfl ?_)))))))))))
 obtain ⟨hk14, hr15⟩ := chk_some hr
 have := lenA ([h_0.name] : List Bytes) h_0.variants
 refine apS 1 (enc := encS) (l := ([h_0.name] : List Bytes)) (m := h_0.variants) T11.E50 J J J J J J hl3 1 rfl (fun _ => rfl) (fun _ => rfl) rfl hk14 fun ad16 cap17 => (a1 rfl (on (rt_ ?_)))
 cases hr15
 intro a w hS hA
 refine ret1 hA J J ?_
 exact ⟨⟨_, _, rfl, (hS.listOut 1 rfl (fun _ => rfl))⟩, hS.ext⟩

theorem w37 {M : Prop} {W : World} {H : Hp} (hH : H.le (hp W)) {ad_l_0 : Option Addr} {cap_l_0 : Nat} {l_0 : List Bytes} (h_l_0 : Sl (Flat encS) 1 H ad_l_0 cap_l_0 l_0) (s_1 : Bytes) {r : Bool} (hr : m37 l_0 s_1 = some r) : Calls Tryz.prog 37 [.slice ad_l_0 l_0.length cap_l_0, .string (bs s_1)].toArray W (RetS M W (.bool r)) := by
 have := h_l_0.len
 unfold m37 at hr
 refine enterG (M := M) Tryz.func37 rfl Tryz.ntmps37 rfl hH ?_
 refine sq (rg (a1 rfl (on (sq (sq (rg (a1 rfl (on ?_))))))))
 obtain ⟨e16, hl17, hr18⟩ := bd_some hr
 refine jn (fun a w => ∃ t19, e16 = .inl t19 ∧ St M W H [H] [] w ∧ Has [] 18 a []) ?_ ?_
 ·refine bk ?_
  refine lp hl17 (fun s20 a w => St M W H [H] [] w ∧ Has [] 18 a [(0, .slice ad_l_0 l_0.length cap_l_0), (1, .string (bs s_1)), (5, .int .i64 (s20 : Int))]) ?_ ?_
  ·exact cu ⟨rfl, rfl, rfl, tv⟩
  ·rintro j s20 y23 hr21 hz22 a w ⟨hS, hA⟩
   refine TG.ap ?_ hS hA
   unfold m37_1 at hr21
   refine sq (sq (rg (m1 rfl (m1 rfl (lnL U50 J J (ltI J J J (on ?_)))))))
   refine ci rfl (fun hc27 => ?_) (fun hc27 => ?_)
   ·have hr28 := if_p hc27 hr21
    refine sk (sq (bk (sq (rg (m1 rfl (m1 rfl ?_))))))
    obtain ⟨x40, hx41, hr42⟩ := bd_some hr28
    obtain ⟨p43, rfl⟩ := h_l_0.adr hx41
    obtain ⟨cs44, hcs45, hq46, hr47⟩ := h_l_0.at hx41
    obtain rfl := hr47
    refine iaP U50 Z9 J J J J (lt_of hx41) (ld G9 J J (sS 0 rfl hq46) rfl (m1 rfl (eqS J J J (on ?_))))
    refine ci rfl (fun hc51 => ?_) (fun hc51 => ?_)
    ·have hr52 := if_p hc51 hr42
     refine sq (rg (a1 rfl (on (rt_ ?_))))
     cases hr52
     obtain rfl := Fin.out hz22
     cases hr18
     intro a w hS hA
     refine ret1 hA J J ?_
     exact ⟨rfl, hS.ext⟩
    ·have hr53 := if_n hc51 hr42
     refine sk (rg (m1 rfl (adI J J J (by omega) (a1 rfl (on ?_)))))
     cases hr53
     intro a w hS hA
     exact ⟨_, hz22, hS, hA.cut ⟨rfl, rfl, rfl, tv⟩⟩
   ·have hr54 := if_n hc27 hr21
    refine xt rfl ?_
    cases hr54
    obtain rfl := Fin.out hz22
    intro a w hS hA
    exact ⟨_, rfl, hS, hA.cut tv⟩
 ·rintro a w ⟨t19, rfl, hS, hA⟩
  apply TG.ap ?_ hS hA
  refine sq (rg (a1 rfl (on (rt_ ?_))))
  cases hr18
  intro a w hS hA
  refine ret1 hA J J ?_
  exact ⟨rfl, hS.ext⟩

theorem w41 {M : Prop} {W : World} {H : Hp} (hH : H.le (hp W)) {ad_l_0 : Option Addr} {cap_l_0 : Nat} {l_0 : List Heading} (h_l_0 : Sl (RHeading) 4 H ad_l_0 cap_l_0 l_0) (name : Bytes) {r : Int} (hr : m41 l_0 name = some r) : Calls Tryz.prog 41 [.slice ad_l_0 l_0.length cap_l_0, .string (bs name)].toArray W (RetS M W (.int .i64 r)) := by
 have := h_l_0.len
 unfold m41 at hr
 refine enterG (M := M) Tryz.func41 rfl Tryz.ntmps41 rfl hH ?_
 refine sq (rg (a1 rfl (on (sq (sq (rg (a1 rfl (on ?_))))))))
 obtain ⟨e36, hl37, hr38⟩ := bd_some hr
 refine jn (fun a w => ∃ t39, e36 = .inl t39 ∧ St M W H [H] [] w ∧ Has [] 20 a []) ?_ ?_
 ·refine bk ?_
  refine lp hl37 (fun s40 a w => St M W H [H] [] w ∧ Has [] 20 a [(0, .slice ad_l_0 l_0.length cap_l_0), (1, .string (bs name)), (5, .int .i64 (s40 : Int))]) ?_ ?_
  ·exact cu ⟨rfl, rfl, rfl, tv⟩
  ·rintro j s40 y43 hr41 hz42 a w ⟨hS, hA⟩
   refine TG.ap ?_ hS hA
   unfold m41_1 at hr41
   refine sq (sq (rg (m1 rfl (m1 rfl (lnL U25 J J (ltI J J J (on ?_)))))))
   refine ci rfl (fun hc47 => ?_) (fun hc47 => ?_)
   ·have hr48 := if_p hc47 hr41
    refine sk (sq (bk (sq (rg (m1 rfl (m1 rfl ?_))))))
    obtain ⟨x80, hx81, hr82⟩ := bd_some hr48
    obtain ⟨p83, rfl⟩ := h_l_0.adr hx81
    obtain ⟨cs84, hcs85, hq86, hr87⟩ := h_l_0.at hx81
    have hr88 := hr87
    obtain ⟨ad89, cap90, ad92, cap93, ad95, cap96, rfl, hl91, hl94, hl97⟩ := hr87
    have := hl91.len
    have := hl94.len
    have := hl97.len
    refine iaP U25 Z53 J J J J (lt_of hx81) (ldA G53 Z53 J J (sS 0 rfl hq86) rfl ?_)
    obtain ⟨r98, hx99, hr100⟩ := bd_some hr82
    refine clK C36 J J J J (fun w H hH le => w36 hH x80 (RHeading.mono _ _ _ _ (le.at 0 rfl) hr88) hx99) ?_
    rintro v_ K101 ⟨ad102, cap103, rfl, hl104⟩
    have := hl104.len
    refine m1 rfl ?_
    obtain ⟨r105, hx106, hr107⟩ := bd_some hr100
    refine clS C37 J J J J (fun w H hH le => w37 hH (hl104.mono (Flat.mono _) (le.at 0 rfl)) name hx106) (on ?_)
    refine cb rfl (fun hc111 => ?_) (fun hc111 => ?_)
    ·have hr112 := if_p hc111 hr107
     refine sq (rg (m1 rfl (a1 rfl (on (rt_ ?_)))))
     cases hr112
     obtain rfl := Fin.out hz42
     cases hr38
     intro a w hS hA
     refine ret1 hA J J ?_
     exact ⟨rfl, hS.ext⟩
    ·have hr113 := if_f hc111 hr107
     refine sk (rg (m1 rfl (adI J J J (by omega) (a1 rfl (on ?_)))))
     cases hr113
     intro a w hS hA
     exact ⟨_, hz42, hS.selH [1] rfl, hA.cut ⟨rfl, rfl, rfl, tv⟩⟩
   ·have hr114 := if_n hc47 hr41
    refine xt rfl ?_
    cases hr114
    obtain rfl := Fin.out hz42
    intro a w hS hA
    exact ⟨_, rfl, hS, hA.cut tv⟩
 ·rintro a w ⟨t39, rfl, hS, hA⟩
  apply TG.ap ?_ hS hA
  refine sq (rg (a1 rfl (on (rt_ ?_))))
  cases hr38
  intro a w hS hA
  refine ret1 hA J J ?_
  exact ⟨rfl, hS.ext⟩

theorem w26 {M : Prop} {W : World} {H : Hp} (hH : H.le (hp W)) {ad_l_0 : Option Addr} {cap_l_0 : Nat} {l_0 : List Heading} (h_l_0 : Sl (RHeading) 4 H ad_l_0 cap_l_0 l_0) {r : Int} (hr : m26 l_0 = some r) : Calls Tryz.prog 26 [.slice ad_l_0 l_0.length cap_l_0].toArray W (RetS M W (.int .i64 r)) := by
 have := h_l_0.len
 unfold m26 at hr
 refine enterG (M := M) Tryz.func26 rfl Tryz.ntmps26 rfl hH ?_
 refine sq (rg (a1 rfl (on (sq (sq (rg (m1 rfl (lnL U25 J J (gtI J J J (on ?_))))))))))
 refine ci rfl (fun hc4 => ?_) (fun hc4 => ?_)
 ·have hr5 := if_p hc4 hr
  refine sq (rg (a1 rfl (on (rt_ ?_))))
  cases hr5
  intro a w hS hA
  refine ret1 hA J J ?_
  exact ⟨rfl, hS.ext⟩
 ·have hr6 := if_n hc4 hr
  refine sk (sq (rg (a1 rfl (on (sq (sq (rg (a1 rfl (on ?_)))))))))
  obtain ⟨e35, hl36, hr37⟩ := bd_some hr6
  refine jn (fun a w => ∃ t38, e35 = .inl t38 ∧ St M W H [H] [] w ∧ Has [] 122 a [(0, .slice ad_l_0 l_0.length cap_l_0), (3, .slice none 0 0)]) ?_ ?_
  ·refine bk ?_
   refine lp hl36 (fun s39 a w => St M W H [H] [] w ∧ Has [] 122 a [(0, .slice ad_l_0 l_0.length cap_l_0), (3, .slice none 0 0), (4, .int .i64 (s39 : Int))]) ?_ ?_
   ·exact cu ⟨rfl, rfl, rfl, tv⟩
   ·rintro j s39 y42 hr40 hz41 a w ⟨hS, hA⟩
    refine TG.ap ?_ hS hA
    unfold m26_1 at hr40
    refine sq (sq (rg (m1 rfl (m1 rfl (lnL U25 J J (ltI J J J (on ?_)))))))
    refine ci rfl (fun hc46 => ?_) (fun hc46 => ?_)
    ·have hr47 := if_p hc46 hr40
     refine sk (sq (bk (sq (rg (m1 rfl (m1 rfl ?_))))))
     obtain ⟨x72, hx73, hr74⟩ := bd_some hr47
     obtain ⟨p75, rfl⟩ := h_l_0.adr hx73
     obtain ⟨cs76, hcs77, hq78, hr79⟩ := h_l_0.at hx73
     have hr80 := hr79
     obtain ⟨ad81, cap82, ad84, cap85, ad87, cap88, rfl, hl83, hl86, hl89⟩ := hr79
     have := hl83.len
     have := hl86.len
     have := hl89.len
     refine iaP U25 Z53 J J J J (lt_of hx73) (ldA G53 Z53 J J (sS 0 rfl hq78) rfl ?_)
     obtain ⟨r90, hx91, hr92⟩ := bd_some hr74
     refine clS C64 J J J J (fun w H hH le => w64 hH x72 (RHeading.mono _ _ _ _ (le.at 0 rfl) hr80) hx91) (nt J J (on ?_))
     refine cb rfl (fun hc96 => ?_) (fun hc96 => ?_)
     ·replace hc96 := nbt hc96
      have hr97 := if_f hc96 hr92
      refine sq (rg (a1 rfl (on (rt_ ?_))))
      cases hr97
      obtain rfl := Fin.out hz41
      cases hr37
      intro a w hS hA
      refine ret1 hA J J ?_
      exact ⟨rfl, hS.ext⟩
     ·replace hc96 := nbf hc96
      have hr98 := if_p hc96 hr92
      refine sk (rg (m1 rfl (adI J J J (by omega) (a1 rfl (on ?_)))))
      cases hr98
      intro a w hS hA
      exact ⟨_, hz41, hS, hA.cut ⟨rfl, rfl, rfl, tv⟩⟩
    ·have hr99 := if_n hc46 hr40
     refine xt rfl ?_
     cases hr99
     obtain rfl := Fin.out hz41
     intro a w hS hA
     exact ⟨_, rfl, hS, hA.cut ⟨rfl, rfl, tv⟩⟩
  ·rintro a w ⟨t38, rfl, hS, hA⟩
   apply TG.ap ?_ hS hA
   refine sq (sq (rg (a1 rfl (on (TG.nilRow 2 9 1 (TG.as 2 (z := Own.list none 0 9 1 encS ([] : List Bytes)) J J ?_))))))
   obtain ⟨e425, hl426, hr427⟩ := bd_some hr37
   refine jn (fun a w => ∃ t428, e425 = .inl t428 ∧ ∃ (ad429 : Option Addr) (cap430 : Nat), St M W H [H] [(2, Own.list ad429 cap430 9 1 encS t428)] w ∧ Has [] 122 a [(0, .slice ad_l_0 l_0.length cap_l_0)]) ?_ ?_
   ·refine bk ?_
    refine lp hl426 (fun s431 a w => ∃ (ad432 : Option Addr) (cap433 : Nat), St M W H [H] [(2, Own.list ad432 cap433 9 1 encS s431.2)] w ∧ Has [] 122 a [(0, .slice ad_l_0 l_0.length cap_l_0), (3, .slice ad432 s431.2.length cap433), (5, .int .i64 (s431.1 : Int))]) ?_ ?_
    ·intro a w hS hA
     exact ⟨none, 0, hS, hA.cut ⟨rfl, rfl, rfl, tv⟩⟩
    ·rintro j s431 y436 hr434 hz435 a w ⟨ad432, cap433, hS, hA⟩
     refine TG.ap ?_ hS hA
     unfold m26_2 at hr434
     refine sq (sq (rg (m1 rfl (m1 rfl (lnL U25 J J (ltI J J J (on ?_)))))))
     refine ci rfl (fun hc440 => ?_) (fun hc440 => ?_)
     ·have hr441 := if_p hc440 hr434
      refine sk (sq (bk (sq (rg (m1 rfl (m1 rfl ?_))))))
      obtain ⟨x544, hx545, hr546⟩ := bd_some hr441
      obtain ⟨p547, rfl⟩ := h_l_0.adr hx545
      obtain ⟨cs548, hcs549, hq550, hr551⟩ := h_l_0.at hx545
      have hr552 := hr551
      obtain ⟨ad553, cap554, ad556, cap557, ad559, cap560, rfl, hl555, hl558, hl561⟩ := hr551
      have := hl555.len
      have := hl558.len
      have := hl561.len
      refine iaP U25 Z53 J J J J (lt_of hx545) (ldA G53 Z53 J J (sS 0 rfl hq550) rfl ?_)
      obtain ⟨r562, hx563, hr564⟩ := bd_some hr546
      refine clK C36 J J J J (fun w H hH le => w36 hH x544 (RHeading.mono _ _ _ _ (le.at 0 rfl) hr552) hx563) ?_
      rintro v_ K565 ⟨ad566, cap567, rfl, hl568⟩
      have := hl568.len
      refine a1 rfl (on (sq (rg (a1 rfl (on ?_)))))
      obtain ⟨e643, hl644, hr645⟩ := bd_some hr564
      refine jn (fun a w => ∃ t646, e643 = .inl t646 ∧ ∃ (ad647 : Option Addr) (cap648 : Nat), St M W H [K565, H] [(2, Own.list ad647 cap648 9 1 encS t646)] w ∧ Has [] 122 a [(0, .slice (some p547) l_0.length cap_l_0), (3, .slice ad647 t646.length cap648), (5, .int .i64 (s431.1 : Int))]) ?_ ?_
      ·refine bk ?_
       refine lp hl644 (fun s649 a w => ∃ (ad650 : Option Addr) (cap651 : Nat), St M W H [K565, H] [(2, Own.list ad650 cap651 9 1 encS s649.2)] w ∧ Has [] 122 a [(0, .slice (some p547) l_0.length cap_l_0), (3, .slice ad650 s649.2.length cap651), (5, .int .i64 (s431.1 : Int)), (6, .slice ad566 r562.length cap567), (7, .int .i64 (s649.1 : Int))]) ?_ ?_
       ·intro a w hS hA
        exact ⟨ad432, cap433, hS, hA.cut ⟨rfl, rfl, rfl, rfl, rfl, tv⟩⟩
       ·rintro j s649 y654 hr652 hz653 a w ⟨ad650, cap651, hS, hA⟩
        refine TG.ap ?_ hS hA
        unfold m26_3 at hr652
        refine sq (sq (rg (m1 rfl (m1 rfl (lnL U50 J J (ltI J J J (on ?_)))))))
        refine ci rfl (fun hc658 => ?_) (fun hc658 => ?_)
        ·have hr659 := if_p hc658 hr652
         refine sk (sq (bk (sq (sq (rg (m1 rfl (m1 rfl (m1 rfl ?_))))))))
         obtain ⟨x679, hx680, hr681⟩ := bd_some hr659
         obtain ⟨p682, rfl⟩ := hl568.adr hx680
         obtain ⟨cs683, hcs684, hq685, hr686⟩ := hl568.at hx680
         obtain rfl := hr686
         refine iaP U50 Z9 J J J J (lt_of hx680) (ld G9 J J (sS 0 rfl hq685) rfl ?_)
         obtain ⟨r687, hx688, hr689⟩ := bd_some hr681
         refine clL C37 J J J J (fun w hS => w37 (Hp.le.refl (hp w)) (list_sl (H := hp w) (enc := encS) (size := 1) (ad := ad650) (cap := cap651) (el := 9) (l := s649.2) (fun _ => rfl) (hS.get (t := 2) rfl) (fun _ _ _ ho => ho)) x679 hx688) (on ?_)
         refine cb rfl (fun hc693 => ?_) (fun hc693 => ?_)
         ·have hr694 := if_p hc693 hr689
          refine sq (rg (a1 rfl (on (rt_ ?_))))
          cases hr694
          obtain rfl := Fin.out hz653
          cases hr645
          obtain rfl := Fin.out hz435
          cases hr427
          intro a w hS hA
          refine ret1 hA J J ?_
          exact ⟨rfl, hS.ext⟩
         ·have hr695 := if_f hc693 hr689
          refine sk (rg (m1 rfl (m1 rfl (m1 rfl (iaP U50 Z9 J J J J (lt_of hx680) (ld G9 J J (sS 0 rfl hq685) rfl ?_))))))
          obtain ⟨hk696, hr697⟩ := chk_some hr695
          have := lenA s649.2 [x679]
          have := len1 x679
          refine ap1 2 encS (l := s649.2) x679 T11.E50 J J J J J J J J J J J J hk696 fun ad698 cap699 u700 => (a1 rfl (on (rg (m1 rfl (adI J J J (by omega) (a1 rfl (on ?_)))))))
          cases hr697
          intro a w hS hA
          exact ⟨_, hz653, ad698, cap699, hS, hA.cut ⟨rfl, rfl, rfl, rfl, rfl, tv⟩⟩
        ·have hr701 := if_n hc658 hr652
         refine xt rfl ?_
         cases hr701
         obtain rfl := Fin.out hz653
         intro a w hS hA
         exact ⟨_, rfl, ad650, cap651, hS, hA.cut ⟨rfl, rfl, rfl, tv⟩⟩
      ·rintro a w ⟨t646, rfl, ad647, cap648, hS, hA⟩
       apply TG.ap ?_ hS hA
       refine rg (m1 rfl (adI J J J (by omega) (a1 rfl (on ?_))))
       cases hr645
       intro a w hS hA
       exact ⟨_, hz435, ad647, cap648, hS.selH [1] rfl, hA.cut ⟨rfl, rfl, rfl, tv⟩⟩
     ·have hr702 := if_n hc440 hr434
      refine xt rfl ?_
      cases hr702
      obtain rfl := Fin.out hz435
      intro a w hS hA
      exact ⟨_, rfl, ad432, cap433, hS, hA.cut ⟨rfl, tv⟩⟩
   ·rintro a w ⟨t428, rfl, ad429, cap430, hS, hA⟩
    apply TG.ap ?_ hS hA
    refine sq (sq (rg (a1 rfl (on ?_))))
    obtain ⟨e820, hl821, hr822⟩ := bd_some hr427
    refine jn (fun a w => ∃ t823, e820 = .inl t823 ∧ St M W H [H] [(2, Own.list ad429 cap430 9 1 encS t428)] w ∧ Has [] 122 a []) ?_ ?_
    ·refine bk ?_
     refine lp hl821 (fun s824 a w => St M W H [H] [(2, Own.list ad429 cap430 9 1 encS t428)] w ∧ Has [] 122 a [(0, .slice ad_l_0 l_0.length cap_l_0), (8, .int .i64 (s824 : Int))]) ?_ ?_
     ·exact cu ⟨rfl, rfl, tv⟩
     ·rintro j s824 y827 hr825 hz826 a w ⟨hS, hA⟩
      refine TG.ap ?_ hS hA
      unfold m26_4 at hr825
      refine sq (sq (rg (m1 rfl (m1 rfl (lnL U25 J J (ltI J J J (on ?_)))))))
      refine ci rfl (fun hc831 => ?_) (fun hc831 => ?_)
      ·have hr832 := if_p hc831 hr825
       refine sk (sq (bk (sq (sq ?_))))
       obtain ⟨t989, hx990, hr991⟩ := bd_some hr832
       refine jn (fun a w => St M W H [H] [(2, Own.list ad429 cap430 9 1 encS t428)] w ∧ Has [] 122 a [(0, .slice ad_l_0 l_0.length cap_l_0), (8, .int .i64 (s824 : Int)), (78, .bool t989)]) ?_ ?_
       ·by_cases hb992 : 0 < (s824 : Int)
        ·have hr993 := if_p hb992 hx990
         obtain ⟨x994, hx995, hr996⟩ := bd_some hr993
         obtain ⟨p997, rfl⟩ := h_l_0.adr hx995
         obtain ⟨cs998, hcs999, hq1000, hr1001⟩ := h_l_0.at hx995
         have hr1002 := hr1001
         obtain ⟨ad1003, cap1004, ad1006, cap1007, ad1009, cap1010, rfl, hl1005, hl1008, hl1011⟩ := hr1001
         have := hl1005.len
         have := hl1008.len
         have := hl1011.len
         obtain ⟨x1012, hx1013, hr1014⟩ := bd_some hr996
         obtain ⟨cs1015, hcs1016, hq1017, hr1018⟩ := h_l_0.at hx1013
         have hr1019 := hr1018
         obtain ⟨ad1020, cap1021, ad1023, cap1024, ad1026, cap1027, rfl, hl1022, hl1025, hl1028⟩ := hr1018
         have := hl1022.len
         have := hl1025.len
         have := hl1028.len
         refine drG 14 mixed (by kernel_rfl) rfl (dt rfl (m1 rfl fin1) (dt rfl (gtI J J J fin1) (dt rfl (m1 rfl fin1) (dt rfl (gt hb992 rfl (m1 rfl fin1)) (dt rfl (gt hb992 rfl (m1 rfl fin1)) (dt rfl (gt hb992 rfl (sbI J J J (by omega) fin1)) (dt rfl (gt hb992 rfl (iaP U25 Z53 J J J (by omega) (lt_of hx995) fin1)) (dt rfl (gt hb992 rfl (fb 0 U53 J J J J Z9 fin1)) (dt rfl (gt hb992 rfl (ld G9 J J ((sS 1 rfl hq1000).take 1) rfl fin1)) (dt rfl (gt hb992 rfl (m1 rfl fin1)) (dt rfl (gt hb992 rfl (m1 rfl fin1)) ?_)))))))))))
         refine dt rfl (gt hb992 rfl (iaP U25 Z53 J J J J (lt_of hx1013) fin1)) (dt rfl (gt hb992 rfl (fb 0 U53 J J J J Z9 fin1)) (dt rfl (gt hb992 rfl (ld G9 J J ((sS 1 rfl hq1017).take 1) rfl fin1)) (DF.nil fun K1029 hF => (gt hb992 rfl ?_))))
         obtain ⟨r1030, hx1031, hr1032⟩ := bd_some hr1014
         refine clS C35 J J J J (fun w H hH le => w35 x994.name x1012.name hx1031) (gt hb992 rfl (nt J J (pt hb992 J J (on ?_))))
         cases hr1032
         intro a w hS hA
         exact ⟨hS.selH [1] rfl, hA.cut ⟨rfl, rfl, rfl, tv⟩⟩
        ·have hr1033 := if_n hb992 hx990
         refine drG 14 mixed (by kernel_rfl) rfl (dt rfl (m1 rfl fin1) (dt rfl (gtI J J J fin1) (dt rfl (m1 rfl fin1) (dt rfl (gf hb992 rfl fin1) (dt rfl (gf hb992 rfl fin1) (dt rfl (gf hb992 rfl fin1) (dt rfl (gf hb992 rfl fin1) (dt rfl (gf hb992 rfl fin1) (dt rfl (gf hb992 rfl fin1) (dt rfl (gf hb992 rfl fin1) (dt rfl (gf hb992 rfl fin1) ?_)))))))))))
         refine dt rfl (gf hb992 rfl fin1) (dt rfl (gf hb992 rfl fin1) (dt rfl (gf hb992 rfl fin1) (DF.nil fun K1034 hF => (gf hb992 rfl (gf hb992 rfl (pf hb992 J J (on ?_)))))))
         cases hr1033
         intro a w hS hA
         exact ⟨hS.selH [1] rfl, hA.cut ⟨rfl, rfl, rfl, tv⟩⟩
       ·rintro a w ⟨hS, hA⟩
        refine TG.ap ?_ hS hA
        refine cb rfl (fun hc1038 => ?_) (fun hc1038 => ?_)
        ·have hr1039 := if_p hc1038 hr991
         refine sq (rg (a1 rfl (on (rt_ ?_))))
         cases hr1039
         obtain rfl := Fin.out hz826
         cases hr822
         intro a w hS hA
         refine ret1 hA J J ?_
         exact ⟨rfl, hS.ext⟩
        ·have hr1040 := if_f hc1038 hr991
         refine sk (sq (rg (a1 rfl (on ?_))))
         obtain ⟨e1106, hl1107, hr1108⟩ := bd_some hr1040
         refine jn (fun a w => ∃ t1109, e1106 = .inl t1109 ∧ St M W H [H] [(2, Own.list ad429 cap430 9 1 encS t428)] w ∧ Has [] 122 a [(0, .slice ad_l_0 l_0.length cap_l_0), (8, .int .i64 (s824 : Int))]) ?_ ?_
         ·refine bk ?_
          refine lp hl1107 (fun s1110 a w => St M W H [H] [(2, Own.list ad429 cap430 9 1 encS t428)] w ∧ Has [] 122 a [(0, .slice ad_l_0 l_0.length cap_l_0), (8, .int .i64 (s824 : Int)), (9, .int .i64 (s1110 : Int))]) ?_ ?_
          ·exact cu ⟨rfl, rfl, rfl, tv⟩
          ·rintro j s1110 y1113 hr1111 hz1112 a w ⟨hS, hA⟩
           refine TG.ap ?_ hS hA
           unfold m26_5 at hr1111
           refine sq (sq (rg (m1 rfl (m1 rfl (m1 rfl ?_)))))
           obtain ⟨x1114, hx1115, hr1116⟩ := bd_some hr1111
           obtain ⟨p1117, rfl⟩ := h_l_0.adr hx1115
           obtain ⟨cs1118, hcs1119, hq1120, hr1121⟩ := h_l_0.at hx1115
           have hr1122 := hr1121
           obtain ⟨ad1123, cap1124, ad1126, cap1127, ad1129, cap1130, rfl, hl1125, hl1128, hl1131⟩ := hr1121
           have := hl1125.len
           have := hl1128.len
           have := hl1131.len
           refine iaP U25 Z53 J J J J (lt_of hx1115) (fb 2 U53 J J J J Z50 (ld G50 J J (((sS 0 rfl hq1120).drop 2).take 1) rfl (lnL U50 J J (ltI J J J (on ?_)))))
           refine ci rfl (fun hc1135 => ?_) (fun hc1135 => ?_)
           ·have hr1136 := if_p hc1135 hr1116
            refine sk (sq (bk (sq (rg (m1 rfl (m1 rfl (m1 rfl (iaP U25 Z53 J J J J (lt_of hx1115) (fb 2 U53 J J J J Z50 (ld G50 J J (((sS 0 rfl hq1120).drop 2).take 1) rfl (m1 rfl ?_)))))))))))
            obtain ⟨x1180, hx1181, hr1182⟩ := bd_some hr1136
            obtain ⟨p1183, rfl⟩ := hl1128.adr hx1181
            obtain ⟨cs1184, hcs1185, hq1186, hr1187⟩ := hl1128.at hx1181
            obtain rfl := hr1187
            refine iaP U50 Z9 J J J J (lt_of hx1181) (ld G9 J J (sS 0 rfl hq1186) rfl ?_)
            obtain ⟨r1188, hx1189, hr1190⟩ := bd_some hr1182
            refine clS C41 J J J J (fun w H hH le => w41 hH (h_l_0.mono (RHeading.mono) (le.at 0 rfl)) x1180 hx1189) (a1 rfl (on (sq ?_)))
            obtain ⟨t1219, hx1220, hr1221⟩ := bd_some hr1190
            refine jn (fun a w => St M W H [H] [(2, Own.list ad429 cap430 9 1 encS t428)] w ∧ Has [] 122 a [(0, .slice (some p1117) l_0.length cap_l_0), (8, .int .i64 (s824 : Int)), (9, .int .i64 (s1110 : Int)), (121, .bool t1219)]) ?_ ?_
            ·by_cases hb1222 : r1188 < 0
             ·have hr1223 := if_p hb1222 hx1220
              refine drG 21 mixed (by kernel_rfl) rfl (dt rfl (m1 rfl fin1) (dt rfl (ltI J J J fin1) (dt rfl (m1 rfl fin1) (dt rfl (gf' hb1222 rfl fin1) (dt rfl (gf' hb1222 rfl fin1) (dt rfl (gf' hb1222 rfl fin1) (dt rfl (pt hb1222 J J fin1) (dt rfl (m1 rfl fin1) (dt rfl (gF J J J J fin1) (dt rfl (gF J J J J fin1) (dt rfl (gF J J J J fin1) ?_)))))))))))
              refine dt rfl (gF J J J J fin1) (dt rfl (gF J J J J fin1) (dt rfl (gF J J J J fin1) (dt rfl (gF J J J J fin1) (dt rfl (gF J J J J fin1) (dt rfl (gF J J J J fin1) (dt rfl (gF J J J J fin1) (dt rfl (gF J J J J fin1) (dt rfl (gF J J J J fin1) (dt rfl (gF J J J J fin1) (DF.nil fun K1224 hF => (gF J J J J ?_)))))))))))
              refine pT J J J J (on ?_)
              cases hr1223
              intro a w hS hA
              exact ⟨hS.selH [1] rfl, hA.cut ⟨rfl, rfl, rfl, rfl, tv⟩⟩
             ·have hr1225 := if_n hb1222 hx1220
              by_cases hb1226 : r1188 = (s824 : Int)
              ·have hr1227 := if_p hb1226 hr1225
               refine drG 21 mixed (by kernel_rfl) rfl (dt rfl (m1 rfl fin1) (dt rfl (ltI J J J fin1) (dt rfl (m1 rfl fin1) (dt rfl (gt' hb1222 rfl (m1 rfl fin1)) (dt rfl (gt' hb1222 rfl (m1 rfl fin1)) (dt rfl (gt' hb1222 rfl (eqI J J J fin1)) (dt rfl (pf hb1222 J J fin1) (dt rfl (m1 rfl fin1) (dt rfl (gf' hb1226 rfl fin1) (dt rfl (gf' hb1226 rfl fin1) (dt rfl (gf' hb1226 rfl fin1) ?_)))))))))))
               refine dt rfl (gf' hb1226 rfl fin1) (dt rfl (gf' hb1226 rfl fin1) (dt rfl (gf' hb1226 rfl fin1) (dt rfl (gf' hb1226 rfl fin1) (dt rfl (gf' hb1226 rfl fin1) (dt rfl (gf' hb1226 rfl fin1) (dt rfl (gf' hb1226 rfl fin1) (dt rfl (gf' hb1226 rfl fin1) (dt rfl (gf' hb1226 rfl fin1) (dt rfl (gf' hb1226 rfl fin1) (DF.nil fun K1228 hF => (gf' hb1226 rfl ?_)))))))))))
               refine pt hb1226 J J (on ?_)
               cases hr1227
               intro a w hS hA
               exact ⟨hS.selH [1] rfl, hA.cut ⟨rfl, rfl, rfl, rfl, tv⟩⟩
              ·have hr1229 := if_n hb1226 hr1225
               obtain ⟨hk1230, hr1231⟩ := chk_some hr1229
               obtain ⟨x1232, hx1233, hr1234⟩ := bd_some hr1231
               obtain ⟨cs1235, hcs1236, hq1237, hr1238⟩ := h_l_0.at hx1233
               have hr1239 := hr1238
               obtain ⟨ad1240, cap1241, ad1243, cap1244, ad1246, cap1247, rfl, hl1242, hl1245, hl1248⟩ := hr1238
               have := hl1242.len
               have := hl1245.len
               have := hl1248.len
               refine drG 21 mixed (by kernel_rfl) rfl (dt rfl (m1 rfl fin1) (dt rfl (ltI J J J fin1) (dt rfl (m1 rfl fin1) (dt rfl (gt' hb1222 rfl (m1 rfl fin1)) (dt rfl (gt' hb1222 rfl (m1 rfl fin1)) (dt rfl (gt' hb1222 rfl (eqI J J J fin1)) (dt rfl (pf hb1222 J J fin1) (dt rfl (m1 rfl fin1) (dt rfl (gt' hb1226 rfl (m1 rfl fin1)) (dt rfl (gt' hb1226 rfl (m1 rfl fin1)) (dt rfl (gt' hb1226 rfl (iaP U25 Z53 J J J (by omega) (lt_of hx1233) fin1)) ?_)))))))))))
               refine dt rfl (gt' hb1226 rfl (fb 0 U53 J J J J Z9 fin1)) (dt rfl (gt' hb1226 rfl (ld G9 J J ((sS 1 rfl hq1237).take 1) rfl fin1)) (dt rfl (gt' hb1226 rfl (m1 rfl fin1)) (dt rfl (gt' hb1226 rfl (m1 rfl fin1)) (dt rfl (gt' hb1226 rfl (iaP U25 Z53 J J J J (lt_of hx1115) fin1)) (dt rfl (gt' hb1226 rfl (fb 2 U53 J J J J Z50 fin1)) (dt rfl (gt' hb1226 rfl (ld G50 J J (((sS 1 rfl hq1120).drop 2).take 1) rfl fin1)) (dt rfl (gt' hb1226 rfl (m1 rfl fin1)) (dt rfl (gt' hb1226 rfl (iaP U50 Z9 J J J J (lt_of hx1181) fin1)) (dt rfl (gt' hb1226 rfl (ld G9 J J (sS 1 rfl hq1186) rfl fin1)) (DF.nil fun K1249 hF => (gt' hb1226 rfl ?_)))))))))))
               refine neS J J J (pf hb1226 J J (on ?_))
               cases hr1234
               intro a w hS hA
               exact ⟨hS.selH [1] rfl, hA.cut ⟨rfl, rfl, rfl, rfl, tv⟩⟩
            ·rintro a w ⟨hS, hA⟩
             refine TG.ap ?_ hS hA
             refine cb rfl (fun hc1253 => ?_) (fun hc1253 => ?_)
             ·have hr1254 := if_p hc1253 hr1221
              refine sq (rg (a1 rfl (on (rt_ ?_))))
              cases hr1254
              obtain rfl := Fin.out hz1112
              cases hr1108
              obtain rfl := Fin.out hz826
              cases hr822
              intro a w hS hA
              refine ret1 hA J J ?_
              exact ⟨rfl, hS.ext⟩
             ·have hr1255 := if_f hc1253 hr1221
              refine sk (rg (m1 rfl (adI J J J (by omega) (a1 rfl (on ?_)))))
              cases hr1255
              intro a w hS hA
              exact ⟨_, hz1112, hS, hA.cut ⟨rfl, rfl, rfl, tv⟩⟩
           ·have hr1256 := if_n hc1135 hr1116
            refine xt rfl ?_
            cases hr1256
            obtain rfl := Fin.out hz1112
            intro a w hS hA
            exact ⟨_, rfl, hS, hA.cut ⟨rfl, rfl, tv⟩⟩
         ·rintro a w ⟨t1109, rfl, hS, hA⟩
          apply TG.ap ?_ hS hA
          refine rg (m1 rfl (adI J J J (by omega) (a1 rfl (on ?_))))
          cases hr1108
          intro a w hS hA
          exact ⟨_, hz826, hS, hA.cut ⟨rfl, rfl, tv⟩⟩
      ·have hr1257 := if_n hc831 hr825
       refine xt rfl ?_
       cases hr1257
       obtain rfl := Fin.out hz826
       intro a w hS hA
       exact ⟨_, rfl, hS, hA.cut tv⟩
    ·rintro a w ⟨t823, rfl, hS, hA⟩
     apply TG.ap ?_ hS hA
     refine sq (rg (a1 rfl (on (rt_ ?_))))
     cases hr822
     intro a w hS hA
     refine ret1 hA J J ?_
     exact ⟨rfl, hS.ext⟩

theorem w38 {M : Prop} {W : World} {H : Hp} (hH : H.le (hp W)) {ad_l_0 : Option Addr} {cap_l_0 : Nat} {l_0 : List Bytes} (h_l_0 : Sl (Flat encS) 1 H ad_l_0 cap_l_0 l_0) {r : List Bytes} (hr : m38 l_0 = some r) : Calls Tryz.prog 38 [.slice ad_l_0 l_0.length cap_l_0].toArray W (RetK M H W (fun v K => ∃ (ad0 : Option Addr) (cap0 : Nat), v = .slice ad0 r.length cap0 ∧ Sl (Flat encS) 1 K ad0 cap0 r)) := by
 have := h_l_0.len
 unfold m38 at hr
 refine enterG (M := M) Tryz.func38 rfl Tryz.ntmps38 rfl hH ?_
 refine sq (rg (a1 rfl (on (sq (rg (a1 rfl (on (sq (sq (rg (a1 rfl ?_)))))))))))
 refine on (TG.nilRow 2 9 1 (TG.as 2 (z := Own.list none 0 9 1 encS ([] : List Bytes)) J J ?_))
 obtain ⟨e448, hl449, hr450⟩ := bd_some hr
 refine jn (fun a w => ∃ (ad451 : Option Addr) (cap452 : Nat), St M W H [H] [(2, Own.list ad451 cap452 9 1 encS e448)] w ∧ Has [] 61 a [(3, .slice ad451 e448.length cap452)]) ?_ ?_
 ·refine bk ?_
  refine lp hl449 (fun s453 a w => ∃ (ad454 : Option Addr) (cap455 : Nat), St M W H [H] [(2, Own.list ad454 cap455 9 1 encS s453.2)] w ∧ Has [] 61 a [(0, .slice ad_l_0 l_0.length cap_l_0), (3, .slice ad454 s453.2.length cap455), (4, .int .i64 (s453.1 : Int))]) ?_ ?_
  ·intro a w hS hA
   exact ⟨none, 0, hS, hA.cut ⟨rfl, rfl, rfl, tv⟩⟩
  ·rintro j s453 y458 hr456 hz457 a w ⟨ad454, cap455, hS, hA⟩
   refine TG.ap ?_ hS hA
   unfold m38_1 at hr456
   refine sq (sq (rg (m1 rfl (m1 rfl (lnL U50 J J (ltI J J J (on ?_)))))))
   refine ci rfl (fun hc462 => ?_) (fun hc462 => ?_)
   ·have hr463 := if_p hc462 hr456
    refine sk (sq ?_)
    obtain ⟨t569, hx570, hr571⟩ := bd_some hr463
    refine jn (fun a w => ∃ (ad572 : Option Addr) (cap573 : Nat), St M W H [H] [(2, Own.list ad572 cap573 9 1 encS t569)] w ∧ Has [] 61 a [(0, .slice ad_l_0 l_0.length cap_l_0), (3, .slice ad572 t569.length cap573), (4, .int .i64 (s453.1 : Int))]) ?_ ?_
    ·refine bk (sq (sq (rg (m1 rfl (m1 rfl (m1 rfl ?_))))))
     obtain ⟨x574, hx575, hr576⟩ := bd_some hx570
     obtain ⟨p577, rfl⟩ := h_l_0.adr hx575
     obtain ⟨cs578, hcs579, hq580, hr581⟩ := h_l_0.at hx575
     obtain rfl := hr581
     refine iaP U50 Z9 J J J J (lt_of hx575) (ld G9 J J (sS 0 rfl hq580) rfl ?_)
     obtain ⟨r582, hx583, hr584⟩ := bd_some hr576
     refine clL C37 J J J J (fun w hS => w37 (Hp.le.refl (hp w)) (list_sl (H := hp w) (enc := encS) (size := 1) (ad := ad454) (cap := cap455) (el := 9) (l := s453.2) (fun _ => rfl) (hS.get (t := 2) rfl) (fun _ _ _ ho => ho)) x574 hx583) (on ?_)
     refine cb rfl (fun hc588 => ?_) (fun hc588 => ?_)
     ·have hr589 := if_p hc588 hr584
      refine xt rfl ?_
      cases hr589
      intro a w hS hA
      exact ⟨ad454, cap455, hS, hA.cut ⟨rfl, rfl, rfl, tv⟩⟩
     ·have hr590 := if_f hc588 hr584
      refine sk (sq (rg (m1 rfl (m1 rfl (m1 rfl (iaP U50 Z9 J J J J (lt_of hx575) (ld G9 J J (sS 0 rfl hq580) rfl ?_)))))))
      obtain ⟨hk591, hr592⟩ := chk_some hr590
      have := lenA s453.2 [x574]
      have := len1 x574
      refine ap1 2 encS (l := s453.2) x574 T11.E50 J J J J J J J J J J J J hk591 fun ad593 cap594 u595 => (a1 rfl (on (sq (rg (m1 rfl (lnL U50 J J (sbI J J J (by omega) (a1 rfl (on ?_)))))))))
      obtain ⟨e680, hl681, hr682⟩ := bd_some hr592
      refine jn (fun a w => St M W H [H] [(2, Own.list ad593 cap594 9 1 encS e680)] w ∧ Has [] 61 a [(0, .slice (some p577) l_0.length cap_l_0), (3, .slice ad593 ((s453.2 ++ [x574]).length) cap594), (4, .int .i64 (s453.1 : Int))] ∧ e680.length = (s453.2 ++ [x574]).length) ?_ ?_
      ·refine bk ?_
       refine lp hl681 (fun s684 a w => St M W H [H] [(2, Own.list ad593 cap594 9 1 encS s684.2)] w ∧ Has [] 61 a [(0, .slice (some p577) l_0.length cap_l_0), (3, .slice ad593 ((s453.2 ++ [x574]).length) cap594), (4, .int .i64 (s453.1 : Int)), (5, .int .i64 s684.1)] ∧ s684.2.length = (s453.2 ++ [x574]).length) ?_ ?_
       ·intro a w hS hA
        exact ⟨hS, hA.cut ⟨rfl, rfl, rfl, rfl, tv⟩, rfl⟩
       ·rintro j s684 y688 hr686 hz687 a w ⟨hS, hA, hln685⟩
        refine TG.ap ?_ hS hA
        unfold m38_2 at hr686
        refine sq (sq ?_)
        obtain ⟨t706, hx707, hr708⟩ := bd_some hr686
        refine jn (fun a w => St M W H [H] [(2, Own.list ad593 cap594 9 1 encS s684.2)] w ∧ Has [] 61 a [(0, .slice (some p577) l_0.length cap_l_0), (3, .slice ad593 ((s453.2 ++ [x574]).length) cap594), (4, .int .i64 (s453.1 : Int)), (5, .int .i64 s684.1), (41, .bool t706)]) ?_ ?_
        ·by_cases hb709 : 0 < s684.1
         ·have hr710 := if_p hb709 hx707
          obtain ⟨x711, hx712, hr713⟩ := bd_some hr710
          refine TG.addr 2 rfl (lt_of0 hx712) fun b714 h => ?_; subst h
          obtain ⟨hk715, hr716⟩ := chk_some hr713
          obtain ⟨x717, hx718, hr719⟩ := bd_some hr716
          refine drG 12 mixed (by kernel_rfl) rfl (dt rfl (m1 rfl fin1) (dt rfl (gtI J J J fin1) (dt rfl (m1 rfl fin1) (dt rfl (gt hb709 rfl (m1 rfl fin1)) (dt rfl (gt hb709 rfl (m1 rfl fin1)) (dt rfl (gt hb709 rfl (iaP U50 Z9 J J J (by omega) (Nat.lt_of_lt_of_eq (lt_of hx712) hln685) fin1)) (dt rfl (gt hb709 rfl (ld G9 J J (sE 2 rfl (fun _ => rfl) hx712) rfl fin1)) (dt rfl (gt hb709 rfl (m1 rfl fin1)) (dt rfl (gt hb709 rfl (m1 rfl fin1)) (dt rfl (gt hb709 rfl (sbI J J J hk715 fin1)) (dt rfl (gt hb709 rfl (iaP U50 Z9 J J J (by omega) (Nat.lt_of_lt_of_eq (lt_of hx718) hln685) fin1)) ?_)))))))))))
          refine dt rfl (gt hb709 rfl (ld G9 J J (sE 2 rfl (fun _ => rfl) hx718) rfl fin1)) (DF.nil fun K720 hF => (gt hb709 rfl ?_))
          obtain ⟨r721, hx722, hr723⟩ := bd_some hr719
          refine clS C35 J J J J (fun w H hH le => w35 x711 x717 hx722) (pt hb709 J J (on ?_))
          cases hr723
          intro a w hS hA
          exact ⟨hS.selH [1] rfl, hA.cut ⟨rfl, rfl, rfl, rfl, rfl, tv⟩⟩
         ·have hr724 := if_n hb709 hx707
          refine drG 12 mixed (by kernel_rfl) rfl (dt rfl (m1 rfl fin1) (dt rfl (gtI J J J fin1) (dt rfl (m1 rfl fin1) (dt rfl (gf hb709 rfl fin1) (dt rfl (gf hb709 rfl fin1) (dt rfl (gf hb709 rfl fin1) (dt rfl (gf hb709 rfl fin1) (dt rfl (gf hb709 rfl fin1) (dt rfl (gf hb709 rfl fin1) (dt rfl (gf hb709 rfl fin1) (dt rfl (gf hb709 rfl fin1) ?_)))))))))))
          refine dt rfl (gf hb709 rfl fin1) (DF.nil fun K725 hF => (gf hb709 rfl (pf hb709 J J (on ?_))))
          cases hr724
          intro a w hS hA
          exact ⟨hS.selH [1] rfl, hA.cut ⟨rfl, rfl, rfl, rfl, rfl, tv⟩⟩
        ·rintro a w ⟨hS, hA⟩
         refine TG.ap ?_ hS hA
         refine cb rfl (fun hc729 => ?_) (fun hc729 => ?_)
         ·have hr730 := if_p hc729 hr708
          refine sk (sq (bk ?_))
          obtain ⟨hk750, hr751⟩ := chk_some hr730
          obtain ⟨hk752, hr753⟩ := chk_some hr751
          obtain ⟨x754, hx755, hr756⟩ := bd_some hr753
          refine TG.addr 2 rfl (lt_of0 hx755) fun b757 h => ?_; subst h
          obtain ⟨hk758, hr759⟩ := chk_some hr756
          obtain ⟨x760, hx761, hr762⟩ := bd_some hr759
          refine drG3 14 [] [(2, 46, .slice (some ⟨b757, 0, none⟩) ((s453.2 ++ [x574]).length) cap594), (3, 47, .int .i64 s684.1), (4, 48, .int .i64 (s684.1 - 1))] mixed (fun _ _ _ _ _ h => h) (by kernel_rfl) (by kernel_rfl) (by kernel_rfl) rfl (by kernel_rfl) (.cons J J J (fun _ => rfl) (by kernel_rfl) (by kernel_rfl) (fun _ _ => rfl) (mvY rfl) (.cons J J J (fun _ => rfl) (by kernel_rfl) (by kernel_rfl) (fun _ _ => rfl) (mvY rfl) (.cons J J J (fun _ => rfl) (by kernel_rfl) (by kernel_rfl) (fun _ _ => rfl) (sbIY J J hk750) (.nil)))) (dc rfl (by kernel_rfl) tv J J (m1 rfl fin1) (dc rfl (by kernel_rfl) tv J J (m1 rfl fin1) (DC.pre (.head _) rfl (DC.pre (.tail _ (.head _)) rfl (DC.pre (.tail _ (.tail _ (.head _))) rfl (dc rfl (by kernel_rfl) tv J J (m1 rfl fin1) (dc rfl (by kernel_rfl) tv J J (m1 rfl fin1) (dc rfl (by kernel_rfl) tv J J (sbI J J J hk750 fin1) (dc rfl (by kernel_rfl) tv J J (iaP U50 Z9 J J J (by omega) (Nat.lt_of_lt_of_eq (lt_of hx755) hln685) fin1) (dc rfl (by kernel_rfl) tv J J (ld G9 J J (sE 2 rfl (fun _ => rfl) hx755) rfl fin1) (dc rfl (by kernel_rfl) tv J J (m1 rfl fin1) ?_)))))))))))
          refine dc rfl (by kernel_rfl) tv J J (m1 rfl fin1) (dc rfl (by kernel_rfl) tv J J (iaP U50 Z9 J J J (by omega) (Nat.lt_of_lt_of_eq (lt_of hx761) hln685) fin1) (dc rfl (by kernel_rfl) tv J J (ld G9 J J (sE 2 rfl (fun _ => rfl) hx761) rfl fin1) (DC.nil fun K763 hF => (iaP U50 Z9 J J J (by omega) (Nat.lt_of_lt_of_eq (lt_of hx761) hln685) ?_))))
          have hln764 : (s684.2.set s684.1.toNat x754).length = (s453.2 ++ [x574]).length := (lenS _ _ _).trans hln685
          refine stE 2 x754 (q := ⟨b757, 0, none⟩) (j := s684.1.toNat) (size := 1) (cs := [.string (bs x754)]) (off := 0) Z9 J J J (fun _ => rfl) hx761 J J J J J ?_
          obtain ⟨x765, hx766, hr767⟩ := bd_some hr762
          refine iaP U50 Z9 J J J (by omega) (Nat.lt_of_lt_of_eq (lt_of hx766) hln764) ?_
          have hln768 : ((s684.2.set s684.1.toNat x754).set ((s684.1 - 1).toNat) x760).length = (s453.2 ++ [x574]).length := (lenS _ _ _).trans hln764
          refine stE 2 x760 (q := ⟨b757, 0, none⟩) (j := (s684.1 - 1).toNat) (size := 1) (cs := [.string (bs x760)]) (off := 0) Z9 J J J (fun _ => rfl) hx766 J J J J J (on (rg (m1 rfl (sbI J J J hk750 (a1 rfl (on ?_))))))
          cases hr767
          intro a w hS hA
          exact ⟨_, hz687, hS.selH [1] rfl, hA.cut ⟨rfl, rfl, rfl, rfl, tv⟩, hln768⟩
         ·have hr769 := if_f hc729 hr708
          refine xt rfl ?_
          cases hr769
          obtain rfl := Fin.out hz687
          intro a w hS hA
          exact ⟨hS, hA.cut ⟨rfl, rfl, rfl, tv⟩, hln685⟩
      ·rintro a w ⟨hS, hA, hln683⟩
       apply TG.ap ?_ hS hA
       cases hr682
       intro a w hS hA
       exact ⟨ad593, cap594, hS, hA.cut ⟨rfl, (congrArg (fun (n : Nat) => some (Value.slice ad593 n cap594)) hln683.symm), rfl, tv⟩⟩
    ·rintro a w ⟨ad572, cap573, hS, hA⟩
     refine TG.ap ?_ hS hA
     refine rg (m1 rfl (adI J J J (by omega) (a1 rfl (on ?_))))
     cases hr571
     intro a w hS hA
     exact ⟨_, hz457, ad572, cap573, hS, hA.cut ⟨rfl, rfl, rfl, tv⟩⟩
   ·have hr770 := if_n hc462 hr456
    refine xt rfl ?_
    cases hr770
    obtain rfl := Fin.out hz457
    intro a w hS hA
    exact ⟨ad454, cap455, hS, hA.cut ⟨rfl, tv⟩⟩
 ·rintro a w ⟨ad451, cap452, hS, hA⟩
  apply TG.ap ?_ hS hA
  refine sq (rg (m1 rfl (a1 rfl (on (rt_ ?_)))))
  cases hr450
  intro a w hS hA
  refine ret1 hA J J ?_
  exact ⟨⟨_, _, rfl, (hS.listOut 2 rfl (fun _ => rfl))⟩, hS.ext⟩

theorem w45 {M : Prop} {W : World} {H : Hp} (hH : H.le (hp W)) (hg : Gv M H) {ad_l_0 : Option Addr} {cap_l_0 : Nat} {l_0 : List Heading} (h_l_0 : Sl (RHeading) 4 H ad_l_0 cap_l_0 l_0) (name : Bytes) (steps : Int) {r : List Bytes × Int} (hr : m45 l_0 name steps = some r) : Calls Tryz.prog 45 [.slice ad_l_0 l_0.length cap_l_0, .string (bs name), .int .i64 steps].toArray W (RetK M H W (fun v K => ∃ (ad0 : Option Addr) (cap0 : Nat), v = .tuple [.slice ad0 r.1.length cap0, .int .i64 r.2].toArray ∧ Sl (Flat encS) 1 K ad0 cap0 r.1)) := by
 have := h_l_0.len
 unfold m45 at hr
 refine enterG (M := M) Tryz.func45 rfl Tryz.ntmps45 rfl hH ?_
 refine sq (rg (a1 rfl (a1 rfl (on (sq (rg (m1 rfl ?_)))))))
 obtain ⟨r1, hx2, hr3⟩ := bd_some hr
 refine clK C50 J J J J (fun w H hH le => w50 hH (hg.mono (le.at 0 rfl)) (h_l_0.mono (RHeading.mono) (le.at 0 rfl)) hx2) ?_
 rintro v_ K4 ⟨mp5, rfl, hm6⟩
 refine m1 rfl (ex J J J (ex J J J (a1 rfl (a1 rfl (on (sq (sq (rg (m1 rfl (neI J J J (on ?_)))))))))))
 refine ci rfl (fun hc10 => ?_) (fun hc10 => ?_)
 ·have hr11 := if_p hc10 hr3
  refine sq (rg (m1 rfl (a1 rfl (a1 rfl (on (rt_ ?_))))))
  cases hr11
  intro a w hS hA
  refine ret2 hA J J J ?_
  exact ⟨⟨_, _, rfl, (Sl.nil _ _ _ _ _ (by decide))⟩, hS.ext⟩
 ·have hr12 := if_n hc10 hr3
  refine sk (sq (sq (rg (m1 rfl ?_))))
  obtain ⟨r13, hx14, hr15⟩ := bd_some hr12
  refine clS C72 J J J J (fun w H hH le => w72 steps 0 60 hx14) (nt J J (on ?_))
  refine cb rfl (fun hc19 => ?_) (fun hc19 => ?_)
  ·replace hc19 := nbt hc19
   have hr20 := if_f hc19 hr15
   refine sq (rg (a1 rfl (a1 rfl (on (rt_ ?_)))))
   cases hr20
   intro a w hS hA
   refine ret2 hA J J J ?_
   exact ⟨⟨_, _, rfl, (Sl.nil _ _ _ _ _ (by decide))⟩, hS.ext⟩
  ·replace hc19 := nbf hc19
   have hr21 := if_p hc19 hr15
   refine sk (sq (rg (m1 rfl (m1 rfl (lk2 (ke := keS) (enc := (Value.int .i64)) name (z0 := (0 : Int)) U87 U9 Tryz.zeroValue3 J J J J (mS 0 rfl hm6) (m1 rfl (ex J J J (ex J J J (a1 rfl (a1 rfl (on ?_)))))))))))
   refine sq (sq (rg (m1 rfl (nt J J (on ?_)))))
   refine cb rfl (fun hc25 => ?_) (fun hc25 => ?_)
   ·replace hc25 := nbt hc25
    have hr26 := if_f hc25 hr21
    refine sq (rg (a1 rfl (a1 rfl (on (rt_ ?_)))))
    cases hr26
    intro a w hS hA
    refine ret2 hA J J J ?_
    exact ⟨⟨_, _, rfl, (Sl.nil _ _ _ _ _ (by decide))⟩, hS.ext⟩
   ·replace hc25 := nbf hc25
    have hr27 := if_p hc25 hr21
    refine sk (sq (rg (mkM 1 keI Value.bool rfl fun b28 => (m1 rfl (mpI 1 (ke := keI) (enc := Value.bool) ((lkp r1.1 name).getD (0 : Int)) true U124 U3 J J J J (m1 rfl (a1 rfl (on (sq (rg (m1 rfl ?_)))))))))))
    refine bS (cs := [.int .i64 ((lkp r1.1 name).getD (0 : Int))]) T11.E125 J J J J fun q29 K30 hq31 hK32 => ?_
    have hl33 : Sl (Flat (encI .i64)) 1 K30 (some q29) 1 ([((lkp r1.1 name).getD (0 : Int))] : List Int) := Sl.litR (css := [[.int .i64 ((lkp r1.1 name).getD (0 : Int))]]) (l := ([((lkp r1.1 name).getD (0 : Int))] : List Int)) ⟨⟨rfl, rfl, rfl⟩, tv⟩ hq31 hK32 rfl
    have := hl33.len
    refine a1 rfl (on (sq ?_))
    obtain ⟨e749, hl750, hr751⟩ := bd_some hr27
    refine jn (fun a w => St M W H [K30, K4, H] [(1, Own.map' keI Value.bool b28 e749)] w ∧ Has [] 105 a [(0, .slice ad_l_0 l_0.length cap_l_0), (12, .map (some b28))]) ?_ ?_
    ·refine bk ?_
     refine lp hl750 (fun s752 a w => ∃ (ad753 : Option Addr) (cap754 : Nat) (K755 : Hp), St M W H [K755, K30, K4, H] [(1, Own.map' keI Value.bool b28 s752.2.2)] w ∧ Has [] 105 a [(0, .slice ad_l_0 l_0.length cap_l_0), (2, .int .i64 s752.1), (8, mp5), (12, .map (some b28)), (13, .slice ad753 s752.2.1.length cap754)] ∧ Sl (Flat (encI .i64)) 1 K755 ad753 cap754 s752.2.1) ?_ ?_
     ·intro a w hS hA
      exact ⟨(some q29), 1, K30, hS.selH [0, 0, 1, 2] rfl, hA.cut ⟨rfl, rfl, rfl, rfl, rfl, tv⟩, hl33⟩
     ·rintro j s752 y759 hr757 hz758 a w ⟨ad753, cap754, K755, hS, hA, hl756⟩
      refine TG.ap ?_ hS hA
      unfold m45_1 at hr757
      have := hl756.len
      refine sq (sq ?_)
      obtain ⟨t763, hx764, hr765⟩ := bd_some hr757
      refine jn (fun a w => St M W H [K755, K30, K4, H] [(1, Own.map' keI Value.bool b28 s752.2.2)] w ∧ Has [] 105 a [(0, .slice ad_l_0 l_0.length cap_l_0), (2, .int .i64 s752.1), (8, mp5), (12, .map (some b28)), (13, .slice ad753 s752.2.1.length cap754), (53, .bool t763)]) ?_ ?_
      ·refine rg (m1 rfl (gtI J J J (m1 rfl ?_)))
       by_cases hb766 : 0 < s752.1
       ·have hr767 := if_p hb766 hx764
        refine gt hb766 rfl (m1 rfl (gt hb766 rfl (lnL U125 J J (gt hb766 rfl (gtI J J J (pt hb766 J J (on ?_)))))))
        cases hr767
        exact cu ⟨rfl, rfl, rfl, rfl, rfl, rfl, tv⟩
       ·have hr768 := if_n hb766 hx764
        refine gf hb766 rfl (gf hb766 rfl (gf hb766 rfl (pf hb766 J J (on ?_))))
        cases hr768
        exact cu ⟨rfl, rfl, rfl, rfl, rfl, rfl, tv⟩
      ·rintro a w ⟨hS, hA⟩
       refine TG.ap ?_ hS hA
       refine cb rfl (fun hc772 => ?_) (fun hc772 => ?_)
       ·have hr773 := if_p hc772 hr765
        refine sk (sq (bk (sq (rg (a1 rfl (on (sq (sq (rg (m1 rfl (lnL U125 J J ?_)))))))))))
        refine m1 rfl (on (TG.nilRow 3 3 1 (TG.as 3 (z := Own.list none 0 3 1 (encI .i64) ([] : List Int)) J J ?_)))
        obtain ⟨e1461, hl1462, hr1463⟩ := bd_some hr773
        refine jn (fun a w => ∃ (ad1464 : Option Addr) (cap1465 : Nat), St M W H [K755, K30, K4, H] [(3, Own.list ad1464 cap1465 3 1 (encI .i64) e1461.1), (1, Own.map' keI Value.bool b28 e1461.2)] w ∧ Has [] 105 a [(0, .slice ad_l_0 l_0.length cap_l_0), (2, .int .i64 s752.1), (8, mp5), (12, .map (some b28)), (14, .slice ad1464 e1461.1.length cap1465)]) ?_ ?_
        ·refine bk ?_
         refine lp hl1462 (fun s1466 a w => ∃ (ad1467 : Option Addr) (cap1468 : Nat), St M W H [K755, K30, K4, H] [(3, Own.list ad1467 cap1468 3 1 (encI .i64) s1466.2.1), (1, Own.map' keI Value.bool b28 s1466.2.2)] w ∧ Has [] 105 a [(0, .slice ad_l_0 l_0.length cap_l_0), (2, .int .i64 s752.1), (8, mp5), (12, .map (some b28)), (14, .slice ad1467 s1466.2.1.length cap1468), (56, .slice ad753 s752.2.1.length cap754), (57, .int .i64 (s752.2.1.length : Int)), (58, .int .i64 (s1466.1 : Int))]) ?_ ?_
         ·intro a w hS hA
          exact ⟨none, 0, hS, hA.cut ⟨rfl, rfl, rfl, rfl, rfl, rfl, rfl, rfl, tv⟩⟩
         ·rintro j s1466 y1471 hr1469 hz1470 a w ⟨ad1467, cap1468, hS, hA⟩
          refine TG.ap ?_ hS hA
          unfold m45_2 at hr1469
          refine sq (rg (ltI J J J (on (sq ?_))))
          refine ci rfl (fun hc1475 => ?_) (fun hc1475 => ?_)
          ·have hr1476 := if_p hc1475 hr1469
           refine sk (sq (bk (sq (rg ?_))))
           obtain ⟨x1582, hx1583, hr1584⟩ := bd_some hr1476
           obtain ⟨p1585, rfl⟩ := hl756.adr hx1583
           obtain ⟨cs1586, hcs1587, hq1588, hr1589⟩ := hl756.at hx1583
           obtain rfl := hr1589
           refine iaP U125 Z3 J J J J (lt_of hx1583) (ld G3 J J (sS 0 rfl hq1588) rfl (a1 rfl (on (sq (rg (m1 rfl (m1 rfl ?_)))))))
           obtain ⟨hk1590, hr1591⟩ := chk_some hr1584
           obtain ⟨x1592, hx1593, hr1594⟩ := bd_some hr1591
           obtain ⟨p1595, rfl⟩ := h_l_0.adr hx1593
           obtain ⟨cs1596, hcs1597, hq1598, hr1599⟩ := h_l_0.at hx1593
           have hr1600 := hr1599
           obtain ⟨ad1601, cap1602, ad1604, cap1605, ad1607, cap1608, rfl, hl1603, hl1606, hl1609⟩ := hr1599
           have := hl1603.len
           have := hl1606.len
           have := hl1609.len
           refine iaP U26 Z64 J J J (by omega) (lt_of hx1593) (fb 2 U64 J J J J Z50 (ld G50 J J (((sS 3 rfl hq1598).drop 2).take 1) rfl (lnL U50 J J (m1 rfl (on ?_)))))
           obtain ⟨e1684, hl1685, hr1686⟩ := bd_some hr1594
           refine jn (fun a w => ∃ (ad1687 : Option Addr) (cap1688 : Nat), St M W H [K755, K30, K4, H] [(3, Own.list ad1687 cap1688 3 1 (encI .i64) e1684.1), (1, Own.map' keI Value.bool b28 e1684.2)] w ∧ Has [] 105 a [(0, .slice (some p1595) l_0.length cap_l_0), (2, .int .i64 s752.1), (8, mp5), (12, .map (some b28)), (14, .slice ad1687 e1684.1.length cap1688), (56, .slice (some p1585) s752.2.1.length cap754), (57, .int .i64 (s752.2.1.length : Int)), (58, .int .i64 (s1466.1 : Int))]) ?_ ?_
           ·refine bk ?_
            refine lp hl1685 (fun s1689 a w => ∃ (ad1690 : Option Addr) (cap1691 : Nat), St M W H [K755, K30, K4, H] [(3, Own.list ad1690 cap1691 3 1 (encI .i64) s1689.2.1), (1, Own.map' keI Value.bool b28 s1689.2.2)] w ∧ Has [] 105 a [(0, .slice (some p1595) l_0.length cap_l_0), (2, .int .i64 s752.1), (8, mp5), (12, .map (some b28)), (14, .slice ad1690 s1689.2.1.length cap1691), (56, .slice (some p1585) s752.2.1.length cap754), (57, .int .i64 (s752.2.1.length : Int)), (58, .int .i64 (s1466.1 : Int)), (66, .slice ad1604 x1592.also.length cap1605), (67, .int .i64 (x1592.also.length : Int)), (68, .int .i64 (s1689.1 : Int))]) ?_ ?_
            ·intro a w hS hA
             exact ⟨ad1467, cap1468, hS, hA.cut ⟨rfl, rfl, rfl, rfl, rfl, rfl, rfl, rfl, rfl, rfl, rfl, tv⟩⟩
            ·rintro j s1689 y1694 hr1692 hz1693 a w ⟨ad1690, cap1691, hS, hA⟩
             refine TG.ap ?_ hS hA
             unfold m45_3 at hr1692
             refine sq (rg (ltI J J J (on (sq ?_))))
             refine ci rfl (fun hc1698 => ?_) (fun hc1698 => ?_)
             ·have hr1699 := if_p hc1698 hr1692
              refine sk (sq (bk (sq (rg ?_))))
              obtain ⟨x1719, hx1720, hr1721⟩ := bd_some hr1699
              obtain ⟨p1722, rfl⟩ := hl1606.adr hx1720
              obtain ⟨cs1723, hcs1724, hq1725, hr1726⟩ := hl1606.at hx1720
              obtain rfl := hr1726
              refine iaP U50 Z9 J J J J (lt_of hx1720) (ld G9 J J (sS 3 rfl hq1725) rfl (a1 rfl (on (sq (rg (m1 rfl (m1 rfl (lk1 (ke := keS) (enc := (Value.int .i64)) x1719 (z0 := (0 : Int)) U87 U9 Tryz.zeroValue3 J J J J (mS 2 rfl hm6) (a1 rfl (on (sq ?_)))))))))))
              refine rg (m1 rfl (m1 rfl (lk1 (ke := keI) (enc := Value.bool) ((lkp r1.1 x1719).getD (0 : Int)) (z0 := false) U124 U3 Tryz.zeroValue4 J J J J (mO 1 rfl) (nt J J (on ?_)))))
              obtain ⟨t1735, hx1736, hr1737⟩ := bd_some hr1721
              refine jn (fun a w => ∃ (ad1738 : Option Addr) (cap1739 : Nat), St M W H [K755, K30, K4, H] [(3, Own.list ad1738 cap1739 3 1 (encI .i64) t1735.1), (1, Own.map' keI Value.bool b28 t1735.2)] w ∧ Has [] 105 a [(0, .slice (some p1595) l_0.length cap_l_0), (2, .int .i64 s752.1), (8, mp5), (12, .map (some b28)), (14, .slice ad1738 t1735.1.length cap1739), (56, .slice (some p1585) s752.2.1.length cap754), (57, .int .i64 (s752.2.1.length : Int)), (58, .int .i64 (s1466.1 : Int)), (66, .slice (some p1722) x1592.also.length cap1605), (67, .int .i64 (x1592.also.length : Int)), (68, .int .i64 (s1689.1 : Int))]) ?_ ?_
              ·refine cb rfl (fun hc1740 => ?_) (fun hc1740 => ?_)
               ·replace hc1740 := nbt hc1740
                have hr1741 := if_f hc1740 hx1736
                refine sq (rg (m1 rfl (m1 rfl (mpU 1 (ke := keI) (enc := Value.bool) ((lkp r1.1 x1719).getD (0 : Int)) true U124 U3 J J J J (on (rg (m1 rfl (m1 rfl ?_))))))))
                obtain ⟨hk1742, hr1743⟩ := chk_some hr1741
                have := lenA s1689.2.1 [((lkp r1.1 x1719).getD (0 : Int))]
                have := len1 ((lkp r1.1 x1719).getD (0 : Int))
                refine ap1 3 (encI .i64) (l := s1689.2.1) ((lkp r1.1 x1719).getD (0 : Int)) T11.E125 J J J J J J J J J J J J hk1742 fun ad1744 cap1745 u1746 => (a1 rfl (on ?_))
                cases hr1743
                intro a w hS hA
                exact ⟨ad1744, cap1745, hS, hA.cut ⟨rfl, rfl, rfl, rfl, rfl, rfl, rfl, rfl, rfl, rfl, rfl, tv⟩⟩
               ·replace hc1740 := nbf hc1740
                have hr1747 := if_p hc1740 hx1736
                refine sk ?_
                cases hr1747
                intro a w hS hA
                exact ⟨ad1690, cap1691, hS, hA.cut ⟨rfl, rfl, rfl, rfl, rfl, rfl, rfl, rfl, rfl, rfl, rfl, tv⟩⟩
              ·rintro a w ⟨ad1738, cap1739, hS, hA⟩
               refine TG.ap ?_ hS hA
               refine rg (adI J J J (by omega) (m1 rfl (on ?_)))
               cases hr1737
               intro a w hS hA
               exact ⟨_, hz1693, ad1738, cap1739, hS, hA.cut ⟨rfl, rfl, rfl, rfl, rfl, rfl, rfl, rfl, rfl, rfl, rfl, tv⟩⟩
             ·have hr1748 := if_n hc1698 hr1692
              refine xt rfl ?_
              cases hr1748
              obtain rfl := Fin.out hz1693
              intro a w hS hA
              exact ⟨ad1690, cap1691, hS, hA.cut ⟨rfl, rfl, rfl, rfl, rfl, rfl, rfl, rfl, tv⟩⟩
           ·rintro a w ⟨ad1687, cap1688, hS, hA⟩
            apply TG.ap ?_ hS hA
            refine rg (adI J J J (by omega) (m1 rfl (on ?_)))
            cases hr1686
            intro a w hS hA
            exact ⟨_, hz1470, ad1687, cap1688, hS, hA.cut ⟨rfl, rfl, rfl, rfl, rfl, rfl, rfl, rfl, tv⟩⟩
          ·have hr1749 := if_n hc1475 hr1469
           refine xt rfl ?_
           cases hr1749
           obtain rfl := Fin.out hz1470
           intro a w hS hA
           exact ⟨ad1467, cap1468, hS, hA.cut ⟨rfl, rfl, rfl, rfl, rfl, tv⟩⟩
        ·rintro a w ⟨ad1464, cap1465, hS, hA⟩
         apply TG.ap ?_ hS hA
         refine rg (m1 rfl (a1 rfl (on (rg (m1 rfl ?_)))))
         obtain ⟨hk1750, hr1751⟩ := chk_some hr1463
         refine sbI J J J hk1750 (a1 rfl (on (TG.still 3 rfl (fun _ => rfl) fun K1752 hl1753 => ?_)))
         have := hl1753.len
         cases hr1751
         intro a w hS hA
         exact ⟨_, hz758, ad1464, cap1465, K1752, hS.selH [0, 2, 3, 4] rfl, hA.cut ⟨rfl, rfl, rfl, rfl, rfl, tv⟩, hl1753⟩
       ·have hr1754 := if_f hc772 hr765
        refine xt rfl ?_
        cases hr1754
        obtain rfl := Fin.out hz758
        intro a w hS hA
        exact ⟨hS.selH [1, 2, 3] rfl, hA.cut ⟨rfl, rfl, tv⟩⟩
    ·rintro a w ⟨hS, hA⟩
     apply TG.ap ?_ hS hA
     refine sq (rg (a1 rfl (on (sq (sq (rg (m1 rfl (lnL U26 J J (m1 rfl (on (TG.nilRow 6 9 1 ?_)))))))))))
     refine TG.as 6 (z := Own.list none 0 9 1 encS ([] : List Bytes)) J J ?_
     obtain ⟨e1871, hl1872, hr1873⟩ := bd_some hr751
     refine jn (fun a w => ∃ (ad1874 : Option Addr) (cap1875 : Nat), St M W H [K30, K4, H] [(6, Own.list ad1874 cap1875 9 1 encS e1871), (1, Own.map' keI Value.bool b28 e749)] w ∧ Has [] 105 a [(20, .slice ad1874 e1871.length cap1875)]) ?_ ?_
     ·refine bk ?_
      refine lp hl1872 (fun s1876 a w => ∃ (ad1877 : Option Addr) (cap1878 : Nat), St M W H [K30, K4, H] [(6, Own.list ad1877 cap1878 9 1 encS s1876.2), (1, Own.map' keI Value.bool b28 e749)] w ∧ Has [] 105 a [(12, .map (some b28)), (20, .slice ad1877 s1876.2.length cap1878), (88, .slice ad_l_0 l_0.length cap_l_0), (89, .int .i64 (l_0.length : Int)), (90, .int .i64 (s1876.1 : Int))]) ?_ ?_
      ·intro a w hS hA
       exact ⟨none, 0, hS, hA.cut ⟨rfl, rfl, rfl, rfl, rfl, tv⟩⟩
      ·rintro j s1876 y1881 hr1879 hz1880 a w ⟨ad1877, cap1878, hS, hA⟩
       refine TG.ap ?_ hS hA
       unfold m45_4 at hr1879
       refine sq (rg (ltI J J J (on (sq ?_))))
       refine ci rfl (fun hc1885 => ?_) (fun hc1885 => ?_)
       ·have hr1886 := if_p hc1885 hr1879
        refine sk (sq (bk (sq (rg (m1 rfl ?_)))))
        obtain ⟨x1917, hx1918, hr1919⟩ := bd_some hr1886
        obtain ⟨p1920, rfl⟩ := h_l_0.adr hx1918
        obtain ⟨cs1921, hcs1922, hq1923, hr1924⟩ := h_l_0.at hx1918
        have hr1925 := hr1924
        obtain ⟨ad1926, cap1927, ad1929, cap1930, ad1932, cap1933, rfl, hl1928, hl1931, hl1934⟩ := hr1924
        have := hl1928.len
        have := hl1931.len
        have := hl1934.len
        refine iaP U26 Z64 J J J J (lt_of hx1918) (ldA G64 Z64 J J (sS 2 rfl hq1923) rfl (al 4 (cs := [.string (bs []), .slice none 0 0, .slice none 0 0, .slice none 0 0]) Tryz.zeroValue64 J J fun b1935 => (a1 rfl (sto 4 (cs := [.string (bs x1917.name), .slice ad1926 x1917.variants.length cap1927, .slice ad1929 x1917.also.length cap1930, .slice ad1932 x1917.places.length cap1933]) Z64 J J J J J J J (on (sq (rg (m1 rfl (m1 rfl (lk1 (ke := keI) (enc := Value.bool) (s1876.1 : Int) (z0 := false) U124 U3 Tryz.zeroValue4 J J J J (mO 1 rfl) (on ?_)))))))))))
        obtain ⟨t1944, hx1945, hr1946⟩ := bd_some hr1919
        refine jn (fun a w => ∃ (ad1947 : Option Addr) (cap1948 : Nat), St M W H [K30, K4, H] [(4, cel b1935 64 [.string (bs x1917.name), .slice ad1926 x1917.variants.length cap1927, .slice ad1929 x1917.also.length cap1930, .slice ad1932 x1917.places.length cap1933]), (6, Own.list ad1947 cap1948 9 1 encS t1944), (1, Own.map' keI Value.bool b28 e749)] w ∧ Has [] 105 a [(12, .map (some b28)), (20, .slice ad1947 t1944.length cap1948), (88, .slice (some p1920) l_0.length cap_l_0), (89, .int .i64 (l_0.length : Int)), (90, .int .i64 (s1876.1 : Int))]) ?_ ?_
        ·refine cb rfl (fun hc1949 => ?_) (fun hc1949 => ?_)
         ·have hr1950 := if_p hc1949 hx1945
          refine rg (m1 rfl (fb 0 U64 J J J J Z9 (ld G9 J J ((sO 4 rfl).take 1) rfl ?_)))
          obtain ⟨hk1951, hr1952⟩ := chk_some hr1950
          have := lenA s1876.2 [x1917.name]
          have := len1 x1917.name
          refine ap1 6 encS (l := s1876.2) x1917.name T11.E50 J J J J J J J J J J J J hk1951 fun ad1953 cap1954 u1955 => (a1 rfl (on ?_))
          cases hr1952
          intro a w hS hA
          exact ⟨ad1953, cap1954, hS, hA.cut ⟨rfl, rfl, rfl, rfl, rfl, tv⟩⟩
         ·have hr1956 := if_f hc1949 hx1945
          refine sk ?_
          cases hr1956
          intro a w hS hA
          exact ⟨ad1877, cap1878, hS, hA.cut ⟨rfl, rfl, rfl, rfl, rfl, tv⟩⟩
        ·rintro a w ⟨ad1947, cap1948, hS, hA⟩
         refine TG.ap ?_ hS hA
         refine rg (adI J J J (by omega) (m1 rfl (on (TG.del 4 ?_))))
         cases hr1946
         intro a w hS hA
         exact ⟨_, hz1880, ad1947, cap1948, hS, hA.cut ⟨rfl, rfl, rfl, rfl, rfl, tv⟩⟩
       ·have hr1957 := if_n hc1885 hr1879
        refine xt rfl ?_
        cases hr1957
        obtain rfl := Fin.out hz1880
        intro a w hS hA
        exact ⟨ad1877, cap1878, hS, hA.cut ⟨rfl, tv⟩⟩
     ·rintro a w ⟨ad1874, cap1875, hS, hA⟩
      apply TG.ap ?_ hS hA
      refine sq (rg (m1 rfl (a1 rfl (a1 rfl (on (rt_ ?_))))))
      cases hr1873
      intro a w hS hA
      refine ret2 hA J J J ?_
      exact ⟨⟨_, _, rfl, (hS.listOut 6 rfl (fun _ => rfl))⟩, hS.ext⟩

theorem w46 {M : Prop} {W : World} {H : Hp} (hH : H.le (hp W)) {ad_l_0 : Option Addr} {cap_l_0 : Nat} {l_0 : List Heading} (h_l_0 : Sl (RHeading) 4 H ad_l_0 cap_l_0 l_0) (at_1 : Int) (steps : Int) {r : List Bytes} (hr : m46 l_0 at_1 steps = some r) : Calls Tryz.prog 46 [.slice ad_l_0 l_0.length cap_l_0, .int .i64 at_1, .int .i64 steps].toArray W (RetK M H W (fun v K => ∃ (ad0 : Option Addr) (cap0 : Nat), v = .slice ad0 r.length cap0 ∧ Sl (Flat encS) 1 K ad0 cap0 r)) := by
 have := h_l_0.len
 unfold m46 at hr
 refine enterG (M := M) Tryz.func46 rfl Tryz.ntmps46 rfl hH ?_
 refine sq (rg (a1 rfl (on (sq (rg (m1 rfl (m1 rfl ?_)))))))
 obtain ⟨hk1, hr2⟩ := chk_some hr
 obtain ⟨x3, hx4, hr5⟩ := bd_some hr2
 obtain ⟨p6, rfl⟩ := h_l_0.adr hx4
 obtain ⟨cs7, hcs8, hq9, hr10⟩ := h_l_0.at hx4
 have hr11 := hr10
 obtain ⟨ad12, cap13, ad15, cap16, ad18, cap19, rfl, hl14, hl17, hl20⟩ := hr10
 have := hl14.len
 have := hl17.len
 have := hl20.len
 refine iaP U25 Z53 J J J (by omega) (lt_of hx4) (fb 0 U53 J J J J Z9 (ld G9 J J ((sS 0 rfl hq9).take 1) rfl (bS (cs := [.string (bs x3.name)]) T11.E50 J J J J fun q21 K22 hq23 hK24 => ?_)))
 have hl25 : Sl (Flat encS) 1 K22 (some q21) 1 ([x3.name] : List Bytes) := Sl.litR (css := [[.string (bs x3.name)]]) (l := ([x3.name] : List Bytes)) ⟨⟨rfl, rfl, rfl⟩, tv⟩ hq23 hK24 rfl
 have := hl25.len
 refine a1 rfl (on (sq (sq (rg (a1 rfl (on ?_))))))
 obtain ⟨e315, hl316, hr317⟩ := bd_some hr5
 refine jn (fun a w => ∃ (ad318 : Option Addr) (cap319 : Nat) (K320 : Hp), St M W H [K320, K22, H] [] w ∧ Has [] 47 a [(7, .slice ad318 e315.length cap319)] ∧ Sl (Flat encS) 1 K320 ad318 cap319 e315) ?_ ?_
 ·refine bk ?_
  refine lp hl316 (fun s322 a w => ∃ (ad323 : Option Addr) (cap324 : Nat) (K325 : Hp), St M W H [K325, K22, H] [] w ∧ Has [] 47 a [(0, .slice (some p6) l_0.length cap_l_0), (2, .int .i64 steps), (7, .slice ad323 s322.2.length cap324), (8, .int .i64 (s322.1 : Int))] ∧ Sl (Flat encS) 1 K325 ad323 cap324 s322.2) ?_ ?_
  ·intro a w hS hA
   exact ⟨(some q21), 1, K22, hS.selH [0, 0, 1] rfl, hA.cut ⟨rfl, rfl, rfl, rfl, tv⟩, hl25⟩
  ·rintro j s322 y329 hr327 hz328 a w ⟨ad323, cap324, K325, hS, hA, hl326⟩
   refine TG.ap ?_ hS hA
   unfold m46_1 at hr327
   have := hl326.len
   refine sq (sq (rg (m1 rfl (m1 rfl (ltI J J J (on ?_))))))
   refine ci rfl (fun hc333 => ?_) (fun hc333 => ?_)
   ·have hr334 := if_p hc333 hr327
    refine sk (sq (bk (sq (rg (bSL 1 encS ([] : List Bytes) (cs := []) T11.E50 J J J J J J fun b471 => (m1 rfl ?_))))))
    obtain ⟨hk472, hr473⟩ := chk_some hr334
    have := lenA ([] : List Bytes) s322.2
    refine apS 1 (enc := encS) (l := ([] : List Bytes)) (m := s322.2) T11.E50 J J J J J J hl326 0 rfl (fun _ => rfl) (fun _ => rfl) rfl hk472 fun ad474 cap475 => (a1 rfl (on (sq (sq (rg (a1 rfl (on ?_)))))))
    obtain ⟨e595, hl596, hr597⟩ := bd_some hr473
    refine jn (fun a w => ∃ (ad598 : Option Addr) (cap599 : Nat), St M W H [K325, K22, H] [(1, Own.list ad598 cap599 9 1 encS e595)] w ∧ Has [] 47 a [(0, .slice (some p6) l_0.length cap_l_0), (2, .int .i64 steps), (8, .int .i64 (s322.1 : Int)), (9, .slice ad598 e595.length cap599)]) ?_ ?_
    ·refine bk ?_
     refine lp hl596 (fun s600 a w => ∃ (ad601 : Option Addr) (cap602 : Nat), St M W H [K325, K22, H] [(1, Own.list ad601 cap602 9 1 encS s600.2)] w ∧ Has [] 47 a [(0, .slice (some p6) l_0.length cap_l_0), (2, .int .i64 steps), (7, .slice ad323 s322.2.length cap324), (8, .int .i64 (s322.1 : Int)), (9, .slice ad601 s600.2.length cap602), (10, .int .i64 (s600.1 : Int))]) ?_ ?_
     ·intro a w hS hA
      exact ⟨ad474, cap475, hS, hA.cut ⟨rfl, rfl, rfl, rfl, rfl, rfl, tv⟩⟩
     ·rintro j s600 y605 hr603 hz604 a w ⟨ad601, cap602, hS, hA⟩
      refine TG.ap ?_ hS hA
      unfold m46_2 at hr603
      refine sq (sq (rg (m1 rfl (m1 rfl (lnL U50 J J (ltI J J J (on ?_)))))))
      refine ci rfl (fun hc609 => ?_) (fun hc609 => ?_)
      ·have hr610 := if_p hc609 hr603
       refine sk (sq (bk (rg (m1 rfl (m1 rfl (m1 rfl (m1 rfl (m1 rfl ?_))))))))
       obtain ⟨x645, hx646, hr647⟩ := bd_some hr610
       obtain ⟨p648, rfl⟩ := hl326.adr hx646
       obtain ⟨cs649, hcs650, hq651, hr652⟩ := hl326.at hx646
       obtain rfl := hr652
       refine iaP U50 Z9 J J J J (lt_of hx646) (ld G9 J J (sS 0 rfl hq651) rfl ?_)
       obtain ⟨r653, hx654, hr655⟩ := bd_some hr647
       refine clS C41 J J J J (fun w H hH le => w41 hH (h_l_0.mono (RHeading.mono) (le.at 2 rfl)) x645 hx654) ?_
       obtain ⟨hk656, hr657⟩ := chk_some hr655
       obtain ⟨x658, hx659, hr660⟩ := bd_some hr657
       obtain ⟨cs661, hcs662, hq663, hr664⟩ := h_l_0.at hx659
       have hr665 := hr664
       obtain ⟨ad666, cap667, ad669, cap670, ad672, cap673, rfl, hl668, hl671, hl674⟩ := hr664
       have := hl668.len
       have := hl671.len
       have := hl674.len
       refine iaP U25 Z53 J J J (by omega) (lt_of hx659) (fb 2 U53 J J J J Z50 (ld G50 J J (((sS 2 rfl hq663).drop 2).take 1) rfl ?_))
       obtain ⟨hk675, hr676⟩ := chk_some hr660
       have := lenA s600.2 x658.also
       refine apS 1 (enc := encS) (l := s600.2) (m := x658.also) T11.E50 J J J J J J hl671 2 rfl (fun _ => rfl) (fun _ => rfl) rfl hk675 fun ad677 cap678 => (a1 rfl (on (rg (m1 rfl (adI J J J (by omega) (a1 rfl (on ?_)))))))
       cases hr676
       intro a w hS hA
       exact ⟨_, hz604, ad677, cap678, hS, hA.cut ⟨rfl, rfl, rfl, rfl, rfl, rfl, tv⟩⟩
      ·have hr679 := if_n hc609 hr603
       refine xt rfl ?_
       cases hr679
       obtain rfl := Fin.out hz604
       intro a w hS hA
       exact ⟨ad601, cap602, hS, hA.cut ⟨rfl, rfl, rfl, rfl, tv⟩⟩
    ·rintro a w ⟨ad598, cap599, hS, hA⟩
     apply TG.ap ?_ hS hA
     refine rg (m1 rfl (TG.still 1 rfl (fun _ => rfl) fun K680 hl681 => ?_))
     have := hl681.len
     obtain ⟨r682, hx683, hr684⟩ := bd_some hr597
     refine clK C38 J J J J (fun w H hH le => w38 hH (hl681.mono (Flat.mono _) (le.at 0 rfl)) hx683) ?_
     rintro v_ K685 ⟨ad686, cap687, rfl, hl688⟩
     have := hl688.len
     refine a1 rfl (on (rg (m1 rfl ?_)))
     obtain ⟨hk689, hr690⟩ := chk_some hr684
     refine adI J J J hk689 (a1 rfl (on ?_))
     cases hr690
     intro a w hS hA
     exact ⟨_, hz328, ad686, cap687, K685, hS.selH [0, 3, 4] rfl, hA.cut ⟨rfl, rfl, rfl, rfl, tv⟩, hl688⟩
   ·have hr691 := if_n hc333 hr327
    refine xt rfl ?_
    cases hr691
    obtain rfl := Fin.out hz328
    intro a w hS hA
    exact ⟨ad323, cap324, K325, hS, hA.cut ⟨rfl, tv⟩, hl326⟩
 ·rintro a w ⟨ad318, cap319, K320, hS, hA, hl321⟩
  apply TG.ap ?_ hS hA
  have := hl321.len
  refine sq (rg (m1 rfl ?_))
  obtain ⟨r692, hx693, hr694⟩ := bd_some hr317
  refine clK C38 J J J J (fun w H hH le => w38 hH (hl321.mono (Flat.mono _) (le.at 0 rfl)) hx693) ?_
  rintro v_ K695 ⟨ad696, cap697, rfl, hl698⟩
  have := hl698.len
  refine a1 rfl (on (rt_ ?_))
  cases hr694
  intro a w hS hA
  refine ret1 hA J J ?_
  exact ⟨⟨_, _, rfl, (hl698.mono (Flat.mono _) (hS.grow 0 rfl))⟩, hS.ext⟩

theorem w13 {M : Prop} {W : World} {H : Hp} (hH : H.le (hp W)) (hg : Gv M H) {ad_l_0 : Option Addr} {cap_l_0 : Nat} {l_0 : List Heading} (h_l_0 : Sl (RHeading) 4 H ad_l_0 cap_l_0 l_0) (name : Bytes) (steps : Int) {r : Bool} (hr : m13 l_0 name steps = some r) : Calls Tryz.prog 13 [.slice ad_l_0 l_0.length cap_l_0, .string (bs name), .int .i64 steps].toArray W (RetS M W (.bool r)) := by
 have := h_l_0.len
 unfold m13 at hr
 refine enterG (M := M) Tryz.func13 rfl Tryz.ntmps13 rfl hH ?_
 refine sq (rg (a1 rfl (on (sq (sq ?_)))))
 obtain ⟨t7, hx8, hr9⟩ := bd_some hr
 refine jn (fun a w => St M W H [H] [] w ∧ Has [] 72 a [(0, .slice ad_l_0 l_0.length cap_l_0), (1, .string (bs name)), (2, .int .i64 steps), (17, .bool t7)]) ?_ ?_
 ·refine rg (m1 rfl ?_)
  obtain ⟨r10, hx11, hr12⟩ := bd_some hx8
  refine clS C17 J J J J (fun w H hH le => w17 hH (h_l_0.mono (RHeading.mono) (le.at 0 rfl)) hx11) (nt J J (m1 rfl ?_))
  rcases Bool.eq_false_or_eq_true (r10) with hb13 | hb13
  ·have hr14 := if_p hb13 hr12
   refine gN J J (congrArg not (hb13)) (m1 rfl (gN J J (congrArg not (hb13)) (lnS U9 J J (gN J J (congrArg not (hb13)) (gtI J J J (pF J J (congrArg not (hb13)) rfl (on ?_)))))))
   cases hr14
   exact cu ⟨rfl, rfl, rfl, rfl, tv⟩
  ·have hr15 := if_f hb13 hr12
   refine gF J J (congrArg not (hb13)) rfl (gF J J (congrArg not (hb13)) rfl (gF J J (congrArg not (hb13)) rfl (pT J J (congrArg not (hb13)) rfl (on ?_))))
   cases hr15
   exact cu ⟨rfl, rfl, rfl, rfl, tv⟩
 ·rintro a w ⟨hS, hA⟩
  refine TG.ap ?_ hS hA
  refine cb rfl (fun hc22 => ?_) (fun hc22 => ?_)
  ·have hr23 := if_p hc22 hr9
   refine sq (rg ?_)
   obtain ⟨r24, hx25, hr26⟩ := bd_some hr23
   refine clS C16 J J J J (fun w H hH le => w16 hH (hg.mono (le.at 0 rfl))  hx25) (a1 rfl (on (rt_ ?_)))
   cases hr26
   intro a w hS hA
   refine ret1 hA J J ?_
   exact ⟨rfl, hS.ext⟩
  ·have hr27 := if_f hc22 hr9
   refine sk (sq (rg (m1 rfl ?_)))
   obtain ⟨r28, hx29, hr30⟩ := bd_some hr27
   refine clK C24 J J J J (fun w H hH le => w24 hH (h_l_0.mono (RHeading.mono) (le.at 0 rfl)) hx29) ?_
   rintro v_ K31 ⟨ad32, cap33, rfl, hl34⟩
   have := hl34.len
   refine m1 rfl (m1 rfl ?_)
   obtain ⟨r35, hx36, hr37⟩ := bd_some hr30
   refine clK C45 J J J J (fun w H hH le => w45 hH (hg.mono (le.at 1 rfl)) (hl34.mono (RHeading.mono) (le.at 0 rfl)) name steps hx36) ?_
   rintro v_ K38 ⟨ad39, cap40, rfl, hl41⟩
   have := hl41.len
   refine m1 rfl (ex J J J (ex J J J (a1 rfl (a1 rfl (on (sq (rg (m1 rfl ?_))))))))
   obtain ⟨r42, hx43, hr44⟩ := bd_some hr37
   refine clS C26 J J J J (fun w H hH le => w26 hH (h_l_0.mono (RHeading.mono) (le.at 2 rfl)) hx43) (a1 rfl (on (sq (sq ?_))))
   obtain ⟨t51, hx52, hr53⟩ := bd_some hr44
   refine jn (fun a w => St M W H [K38, K31, H] [] w ∧ Has [] 72 a [(0, .slice ad_l_0 l_0.length cap_l_0), (1, .string (bs name)), (2, .int .i64 steps), (7, .slice ad39 r35.1.length cap40), (8, .int .i64 r35.2), (9, .int .i64 r42), (35, .bool t51)]) ?_ ?_
   ·refine rg (m1 rfl (eqI J J J (m1 rfl ?_)))
    by_cases hb54 : r42 = 0
    ·have hr55 := if_p hb54 hx52
     refine gt hb54 rfl (m1 rfl (gt hb54 rfl ?_))
     obtain ⟨r56, hx57, hr58⟩ := bd_some hr55
     refine clS C42 J J J J (fun w H hH le => w42 steps 0 60 hx57) (gt hb54 rfl (nt J J (pt hb54 J J (on ?_))))
     cases hr58
     exact cu ⟨rfl, rfl, rfl, rfl, rfl, rfl, rfl, tv⟩
    ·have hr59 := if_n hb54 hx52
     refine gf hb54 rfl (gf hb54 rfl (gf hb54 rfl (pf hb54 J J (on ?_))))
     cases hr59
     exact cu ⟨rfl, rfl, rfl, rfl, rfl, rfl, rfl, tv⟩
   ·rintro a w ⟨hS, hA⟩
    refine TG.ap ?_ hS hA
    obtain ⟨t63, hx64, hr65⟩ := bd_some hr53
    refine jn (fun a w => St M W H [K38, K31, H] [] w ∧ Has [] 72 a [(0, .slice ad_l_0 l_0.length cap_l_0), (1, .string (bs name)), (2, .int .i64 steps), (7, .slice ad39 r35.1.length cap40), (8, .int .i64 r35.2), (9, .int .i64 t63)]) ?_ ?_
    ·refine cb rfl (fun hc66 => ?_) (fun hc66 => ?_)
     ·have hr67 := if_p hc66 hx64
      refine rg (a1 rfl (on ?_))
      cases hr67
      exact cu ⟨rfl, rfl, rfl, rfl, rfl, rfl, tv⟩
     ·have hr68 := if_f hc66 hx64
      refine sk ?_
      cases hr68
      exact cu ⟨rfl, rfl, rfl, rfl, rfl, rfl, tv⟩
    ·rintro a w ⟨hS, hA⟩
     refine TG.ap ?_ hS hA
     refine sq (sq ?_)
     obtain ⟨t75, hx76, hr77⟩ := bd_some hr65
     refine jn (fun a w => St M W H [K38, K31, H] [] w ∧ Has [] 72 a [(0, .slice ad_l_0 l_0.length cap_l_0), (1, .string (bs name)), (2, .int .i64 steps), (7, .slice ad39 r35.1.length cap40), (8, .int .i64 r35.2), (9, .int .i64 t63), (43, .bool t75)]) ?_ ?_
     ·refine rg (m1 rfl (eqI J J J (m1 rfl ?_)))
      by_cases hb78 : t63 = 0
      ·have hr79 := if_p hb78 hx76
       refine gt hb78 rfl (m1 rfl (gt hb78 rfl (m1 rfl (gt hb78 rfl ?_))))
       obtain ⟨r80, hx81, hr82⟩ := bd_some hr79
       refine clS C41 J J J J (fun w H hH le => w41 hH (h_l_0.mono (RHeading.mono) (le.at 2 rfl)) name hx81) (gt hb78 rfl (ltI J J J (pt hb78 J J (on ?_))))
       cases hr82
       exact cu ⟨rfl, rfl, rfl, rfl, rfl, rfl, rfl, tv⟩
      ·have hr83 := if_n hb78 hx76
       refine gf hb78 rfl (gf hb78 rfl (gf hb78 rfl (gf hb78 rfl (pf hb78 J J (on ?_)))))
       cases hr83
       exact cu ⟨rfl, rfl, rfl, rfl, rfl, rfl, rfl, tv⟩
     ·rintro a w ⟨hS, hA⟩
      refine TG.ap ?_ hS hA
      obtain ⟨t87, hx88, hr89⟩ := bd_some hr77
      refine jn (fun a w => St M W H [K38, K31, H] [] w ∧ Has [] 72 a [(0, .slice ad_l_0 l_0.length cap_l_0), (1, .string (bs name)), (2, .int .i64 steps), (7, .slice ad39 r35.1.length cap40), (8, .int .i64 r35.2), (9, .int .i64 t87)]) ?_ ?_
      ·refine cb rfl (fun hc90 => ?_) (fun hc90 => ?_)
       ·have hr91 := if_p hc90 hx88
        refine rg (a1 rfl (on ?_))
        cases hr91
        exact cu ⟨rfl, rfl, rfl, rfl, rfl, rfl, tv⟩
       ·have hr92 := if_f hc90 hx88
        refine sk ?_
        cases hr92
        exact cu ⟨rfl, rfl, rfl, rfl, rfl, rfl, tv⟩
      ·rintro a w ⟨hS, hA⟩
       refine TG.ap ?_ hS hA
       refine sq (sq (rg (m1 rfl (neI J J J (on ?_)))))
       refine ci rfl (fun hc106 => ?_) (fun hc106 => ?_)
       ·have hr107 := if_p hc106 hr89
        refine sq ?_
        obtain ⟨t117, hx118, hr119⟩ := bd_some hr107
        refine jn (fun a w => St M W H [K38, K31, H] [] w ∧ Has [] 72 a [(6, .bool t117)]) ?_ ?_
        ·refine rg (m1 rfl (m1 rfl (eqI J J J (m1 rfl ?_))))
         by_cases hb120 : r35.2 = t87
         ·have hr121 := if_p hb120 hx118
          refine gt hb120 rfl (m1 rfl (gt hb120 rfl (lnL U50 J J (gt hb120 rfl (eqI J J J (pt hb120 J J (m1 rfl ?_)))))))
          by_cases hb122 : (r35.1.length : Int) = 0
          ·have hr123 := if_p hb122 hr121
           refine gt hb122 rfl ?_
           obtain ⟨r124, hx125, hr126⟩ := bd_some hr123
           refine clS C16 J J J J (fun w H hH le => w16 hH (hg.mono (le.at 2 rfl))  hx125) (pt hb122 J J (a1 rfl (on ?_)))
           cases hr126
           exact cu ⟨rfl, tv⟩
          ·have hr127 := if_n hb122 hr121
           refine gf hb122 rfl (pf hb122 J J (a1 rfl (on ?_)))
           cases hr127
           exact cu ⟨rfl, tv⟩
         ·have hr128 := if_n hb120 hx118
          refine gf hb120 rfl (gf hb120 rfl (gf hb120 rfl (pf hb120 J J (m1 rfl (gF J J J J (pF J J J J (a1 rfl (on ?_))))))))
          cases hr128
          exact cu ⟨rfl, tv⟩
        ·rintro a w ⟨hS, hA⟩
         refine TG.ap ?_ hS hA
         refine rt_ ?_
         cases hr119
         intro a w hS hA
         refine ret1 hA J J ?_
         exact ⟨rfl, hS.ext⟩
       ·have hr129 := if_n hc106 hr89
        refine sk (sq ?_)
        obtain ⟨t152, hx153, hr154⟩ := bd_some hr129
        refine jn (fun a w => St M W H [K38, K31, H] [] w ∧ Has [] 72 a [(6, .bool t152)]) ?_ ?_
        ·refine rg (m1 rfl (eqI J J J (m1 rfl ?_)))
         by_cases hb155 : r35.2 = 0
         ·have hr156 := if_p hb155 hx153
          refine gt hb155 rfl (m1 rfl (gt hb155 rfl (m1 rfl (gt hb155 rfl (m1 rfl (gt hb155 rfl (m1 rfl (gt hb155 rfl ?_))))))))
          obtain ⟨r157, hx158, hr159⟩ := bd_some hr156
          refine clS C41 J J J J (fun w H hH le => w41 hH (h_l_0.mono (RHeading.mono) (le.at 2 rfl)) name hx158) (gt hb155 rfl (m1 rfl (gt hb155 rfl ?_)))
          obtain ⟨r160, hx161, hr162⟩ := bd_some hr159
          refine clK C46 J J J J (fun w H hH le => w46 hH (h_l_0.mono (RHeading.mono) (le.at 2 rfl)) r157 steps hx161) ?_
          rintro v_ K163 ⟨ad164, cap165, rfl, hl166⟩
          have := hl166.len
          refine gt hb155 rfl ?_
          obtain ⟨r167, hx168, hr169⟩ := bd_some hr162
          refine clS C44 J J J J (fun w H hH le => w44 hH (hl41.mono (Flat.mono _) (le.at 1 rfl)) (hl166.mono (Flat.mono _) (le.at 0 rfl)) hx168) (pt hb155 J J (m1 rfl ?_))
          rcases Bool.eq_false_or_eq_true (r167) with hb170 | hb170
          ·have hr171 := if_p hb170 hr169
           refine gN J J (hb170) ?_
           obtain ⟨r172, hx173, hr174⟩ := bd_some hr171
           refine clS C16 J J J J (fun w H hH le => w16 hH (hg.mono (le.at 3 rfl))  hx173) (pT J J (hb170) rfl (a1 rfl (on ?_)))
           cases hr174
           intro a w hS hA
           exact ⟨hS.selH [1, 2, 3] rfl, hA.cut ⟨rfl, tv⟩⟩
          ·have hr175 := if_f hb170 hr169
           refine gF J J (hb170) rfl (pF J J (hb170) rfl (a1 rfl (on ?_)))
           cases hr175
           intro a w hS hA
           exact ⟨hS.selH [1, 2, 3] rfl, hA.cut ⟨rfl, tv⟩⟩
         ·have hr176 := if_n hb155 hx153
          refine gf hb155 rfl (gf hb155 rfl (gf hb155 rfl (gf hb155 rfl (gf hb155 rfl (gf hb155 rfl (gf hb155 rfl (gf hb155 rfl (pf hb155 J J (m1 rfl (gF J J J J (pF J J J J ?_)))))))))))
          refine a1 rfl (on ?_)
          cases hr176
          exact cu ⟨rfl, tv⟩
        ·rintro a w ⟨hS, hA⟩
         refine TG.ap ?_ hS hA
         refine rt_ ?_
         cases hr154
         intro a w hS hA
         refine ret1 hA J J ?_
         exact ⟨rfl, hS.ext⟩

end T11
