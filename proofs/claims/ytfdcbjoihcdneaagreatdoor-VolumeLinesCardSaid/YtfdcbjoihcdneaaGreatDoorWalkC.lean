/-
 Walks of functions of layer 10: each call comes to what the model says. Printed by a program of ours.
-/
import Derived.Test.YtfdcbjoihcdneaaGreatDoorWalkB
set_option linter.all false
set_option maxHeartbeats 4000000
namespace T10
open Go Go.Proofs Pk
theorem w22 {M : Prop} {W : World} {H : Hp} (hH : H.le (hp W)) {cs_v_0 : List Value} (v_0 : Volume) (h_v_0 : (RVolume) H cs_v_0 v_0) {ad_errata : Option Addr} {cap_errata : Nat} {errata : List Erratum} (h_errata : Sl (Flat encErratum) 6 H ad_errata cap_errata errata) {r : List Place × List Int × List Int} (hr : m22 v_0 errata = some r) : Calls Tryz.prog 22 [.agg cs_v_0.toArray, .slice ad_errata errata.length cap_errata].toArray W (RetK M H W (fun v K => ∃ (ad0 : Option Addr) (cap0 : Nat) (ad1 : Option Addr) (cap1 : Nat) (ad2 : Option Addr) (cap2 : Nat), v = .tuple [.slice ad0 r.1.length cap0, .slice ad1 r.2.1.length cap1, .slice ad2 r.2.2.length cap2].toArray ∧ Sl (Flat encPlace) 4 K ad0 cap0 r.1 ∧ Sl (Flat (encI .i64)) 1 K ad1 cap1 r.2.1 ∧ Sl (Flat (encI .i64)) 1 K ad2 cap2 r.2.2)) := by
 have hh_v_0 := h_v_0
 obtain ⟨ad1, cap2, rfl, hl3⟩ := h_v_0
 have := hl3.len
 have := h_errata.len
 unfold m22 at hr
 refine enterG (M := M) Tryz.func22 rfl Tryz.ntmps22 rfl hH ?_
 refine sq (rg (bI (cs := [.int .i64 v_0.number, .int .i64 v_0.bound, .int .i64 v_0.height, .int .i64 v_0.width, .slice ad1 v_0.parts.length cap2]) rfl rfl rfl fun q4 K5 hK6 => (a1 rfl (a1 rfl (a1 rfl (on (sq (rg (a1 rfl (on (sq ?_)))))))))))
 refine rg (a1 rfl (a1 rfl (on (sq (rg (ldA G24 Z24 rfl rfl (sS 0 rfl hK6) rfl (m1 rfl (fb 1 U24 rfl rfl rfl rfl Z3 (ld G3 rfl rfl (((sS 0 rfl hK6).drop 1).take 1) rfl ?_)))))))))
 obtain ⟨r7, hx8, hr9⟩ := bd_some hr
 refine clK C19 rfl rfl rfl rfl (fun w H hH le => w19 hH v_0 (RVolume.mono _ _ _ _ (le.at 1 rfl) hh_v_0) (h_errata.mono (Flat.mono _) (le.at 1 rfl)) v_0.bound hx8) ?_
 rintro v_ K10 ⟨ad11, cap12, rfl, hl13⟩
 have := hl13.len
 refine a1 rfl (on (sq (rg (a1 rfl (on (sq (sq (rg (a1 rfl (on (TG.nilRow 5 110 4 ?_)))))))))))
 refine TG.nilRow 6 3 1 (TG.nilRow 7 3 1 (TG.as 7 (z := Own.list none 0 3 1 (encI .i64) ([] : List Int)) rfl rfl (TG.as 6 (z := Own.list none 0 3 1 (encI .i64) ([] : List Int)) rfl rfl (TG.as 5 (z := Own.list none 0 110 4 encPlace ([] : List Place)) rfl rfl ?_))))
 obtain ⟨e1426, hl1427, hr1428⟩ := bd_some hr9
 refine jn (fun a w => ∃ (ad1429 : Option Addr) (cap1430 : Nat) (ad1431 : Option Addr) (cap1432 : Nat) (ad1433 : Option Addr) (cap1434 : Nat), St M W H [K10, K5, H] [(7, Own.list ad1429 cap1430 3 1 (encI .i64) e1426.1), (6, Own.list ad1431 cap1432 3 1 (encI .i64) e1426.2.1), (5, Own.list ad1433 cap1434 110 4 encPlace e1426.2.2)] w ∧ Has [] 114 a [(7, .slice ad1433 e1426.2.2.length cap1434), (8, .slice ad1431 e1426.2.1.length cap1432), (9, .slice ad1429 e1426.1.length cap1430)]) ?_ ?_
 ·refine bk ?_
  refine lp hl1427 (fun s1435 a w => ∃ (ad1436 : Option Addr) (cap1437 : Nat) (ad1438 : Option Addr) (cap1439 : Nat) (ad1440 : Option Addr) (cap1441 : Nat), St M W H [K10, K5, H] [(7, Own.list ad1436 cap1437 3 1 (encI .i64) s1435.2.2.1), (6, Own.list ad1438 cap1439 3 1 (encI .i64) s1435.2.2.2.1), (5, Own.list ad1440 cap1441 110 4 encPlace s1435.2.2.2.2)] w ∧ Has [] 114 a [(2, .pointer (some q4)), (7, .slice ad1440 s1435.2.2.2.2.length cap1441), (8, .slice ad1438 s1435.2.2.2.1.length cap1439), (9, .slice ad1436 s1435.2.2.1.length cap1437), (10, .slice ad11 r7.length cap12), (11, .int .i64 (s1435.1 : Int)), (12, .int .i64 (s1435.2.1 : Int))]) ?_ ?_
  ·intro a w hS hA
   exact ⟨none, 0, none, 0, none, 0, hS, hA.cut ⟨rfl, rfl, rfl, rfl, rfl, rfl, rfl, tv⟩⟩
  ·rintro j s1435 y1444 hr1442 hz1443 a w ⟨ad1436, cap1437, ad1438, cap1439, ad1440, cap1441, hS, hA⟩
   refine TG.ap ?_ hS hA
   unfold m22_1 at hr1442
   refine sq (sq (rg (m1 rfl (fb 4 U24 rfl rfl rfl rfl Z22 (ld G22 rfl rfl ((sS 1 rfl hK6).drop 4) rfl (lnL U22 rfl rfl (ltI rfl rfl rfl (on ?_))))))))
   refine ci rfl (fun hc1448 => ?_) (fun hc1448 => ?_)
   ·have hr1449 := if_p hc1448 hr1442
    refine sk (sq (bk (sq (rg (fb 2 U24 rfl rfl rfl rfl Z3 (ld G3 rfl rfl (((sS 1 rfl hK6).drop 2).take 1) rfl (a1 rfl (a1 rfl (on (sq (rg ?_)))))))))))
    refine a1 rfl (on ?_)
    obtain ⟨e2267, hl2268, hr2269⟩ := bd_some hr1449
    refine jn (fun a w => ∃ (ad2270 : Option Addr) (cap2271 : Nat) (ad2272 : Option Addr) (cap2273 : Nat) (ad2274 : Option Addr) (cap2275 : Nat), St M W H [K10, K5, H] [(7, Own.list ad2270 cap2271 3 1 (encI .i64) e2267.2.1), (6, Own.list ad2272 cap2273 3 1 (encI .i64) e2267.2.2.1), (5, Own.list ad2274 cap2275 110 4 encPlace e2267.2.2.2)] w ∧ Has [] 114 a [(2, .pointer (some q4)), (7, .slice ad2274 e2267.2.2.2.length cap2275), (8, .slice ad2272 e2267.2.2.1.length cap2273), (9, .slice ad2270 e2267.2.1.length cap2271), (10, .slice ad11 r7.length cap12), (11, .int .i64 (e2267.1 : Int)), (12, .int .i64 (s1435.2.1 : Int))]) ?_ ?_
    ·refine bk ?_
     refine lp hl2268 (fun s2276 a w => ∃ (ad2277 : Option Addr) (cap2278 : Nat) (ad2279 : Option Addr) (cap2280 : Nat) (ad2281 : Option Addr) (cap2282 : Nat), St M W H [K10, K5, H] [(7, Own.list ad2277 cap2278 3 1 (encI .i64) s2276.2.2.2.2.1), (6, Own.list ad2279 cap2280 3 1 (encI .i64) s2276.2.2.2.2.2.1), (5, Own.list ad2281 cap2282 110 4 encPlace s2276.2.2.2.2.2.2)] w ∧ Has [] 114 a [(2, .pointer (some q4)), (7, .slice ad2281 s2276.2.2.2.2.2.2.length cap2282), (8, .slice ad2279 s2276.2.2.2.2.2.1.length cap2280), (9, .slice ad2277 s2276.2.2.2.2.1.length cap2278), (10, .slice ad11 r7.length cap12), (11, .int .i64 (s2276.1 : Int)), (12, .int .i64 (s1435.2.1 : Int)), (13, .int .i64 s2276.2.2.2.1), (14, .int .i64 (s2276.2.1 : Int)), (15, .int .i64 (s2276.2.2.1 : Int))]) ?_ ?_
     ·intro a w hS hA
      exact ⟨ad1436, cap1437, ad1438, cap1439, ad1440, cap1441, hS, hA.cut ⟨rfl, rfl, rfl, rfl, rfl, rfl, rfl, rfl, rfl, rfl, tv⟩⟩
     ·rintro j s2276 y2285 hr2283 hz2284 a w ⟨ad2277, cap2278, ad2279, cap2280, ad2281, cap2282, hS, hA⟩
      refine TG.ap ?_ hS hA
      unfold m22_2 at hr2283
      refine sq (sq (rg (m1 rfl (m1 rfl (lnL U47 rfl rfl (ltI rfl rfl rfl (on ?_)))))))
      refine ci rfl (fun hc2289 => ?_) (fun hc2289 => ?_)
      ·have hr2290 := if_p hc2289 hr2283
       refine sk (sq ?_)
       obtain ⟨t2410, hx2411, hr2412⟩ := bd_some hr2290
       refine jn (fun a w => ∃ (ad2413 : Option Addr) (cap2414 : Nat) (ad2415 : Option Addr) (cap2416 : Nat) (ad2417 : Option Addr) (cap2418 : Nat), St M W H [K10, K5, H] [(7, Own.list ad2413 cap2414 3 1 (encI .i64) t2410.2.2.2.1), (6, Own.list ad2415 cap2416 3 1 (encI .i64) t2410.2.2.2.2.1), (5, Own.list ad2417 cap2418 110 4 encPlace t2410.2.2.2.2.2)] w ∧ Has [] 114 a [(2, .pointer (some q4)), (7, .slice ad2417 t2410.2.2.2.2.2.length cap2418), (8, .slice ad2415 t2410.2.2.2.2.1.length cap2416), (9, .slice ad2413 t2410.2.2.2.1.length cap2414), (10, .slice ad11 r7.length cap12), (11, .int .i64 (t2410.1 : Int)), (12, .int .i64 (s1435.2.1 : Int)), (13, .int .i64 t2410.2.2.1), (14, .int .i64 (t2410.2.1 : Int)), (15, .int .i64 (s2276.2.2.1 : Int))]) ?_ ?_
       ·refine bk (sq (sq ?_))
        obtain ⟨t2430, hx2431, hr2432⟩ := bd_some hx2411
        refine jn (fun a w => St M W H [K10, K5, H] [(7, Own.list ad2277 cap2278 3 1 (encI .i64) s2276.2.2.2.2.1), (6, Own.list ad2279 cap2280 3 1 (encI .i64) s2276.2.2.2.2.2.1), (5, Own.list ad2281 cap2282 110 4 encPlace s2276.2.2.2.2.2.2)] w ∧ Has [] 114 a [(2, .pointer (some q4)), (7, .slice ad2281 s2276.2.2.2.2.2.2.length cap2282), (8, .slice ad2279 s2276.2.2.2.2.2.1.length cap2280), (9, .slice ad2277 s2276.2.2.2.2.1.length cap2278), (10, .slice ad11 r7.length cap12), (11, .int .i64 (s2276.1 : Int)), (12, .int .i64 (s1435.2.1 : Int)), (13, .int .i64 s2276.2.2.2.1), (14, .int .i64 (s2276.2.1 : Int)), (15, .int .i64 (s2276.2.2.1 : Int)), (52, .bool t2430)]) ?_ ?_
        ·refine rg (m1 rfl (m1 rfl ?_))
         obtain ⟨x2433, hx2434, hr2435⟩ := bd_some hx2431
         obtain ⟨p2436, rfl⟩ := hl13.adr hx2434
         obtain ⟨cs2437, hcs2438, hq2439, hr2440⟩ := hl13.at hx2434
         obtain rfl := hr2440
         refine iaP U47 Z52 rfl rfl rfl rfl (lt_of hx2434) (fb 2 U52 rfl rfl rfl rfl Z3 (ld G3 rfl rfl (((sS 0 rfl hq2439).drop 2).take 1) rfl (m1 rfl (neI rfl rfl rfl (m1 rfl ?_)))))
         by_cases hb2441 : x2433.part ≠ (s1435.2.1 : Int)
         ·have hr2442 := if_p hb2441 hr2435
          refine gf' hb2441 rfl (gf' hb2441 rfl (gf' hb2441 rfl (gf' hb2441 rfl (gf' hb2441 rfl (pt hb2441 rfl rfl (on ?_))))))
          cases hr2442
          exact cu ⟨rfl, rfl, rfl, rfl, rfl, rfl, rfl, rfl, rfl, rfl, rfl, tv⟩
         ·have hr2443 := if_n hb2441 hr2435
          refine gt' hb2441 rfl (m1 rfl (gt' hb2441 rfl (m1 rfl (gt' hb2441 rfl (iaP U47 Z52 rfl rfl rfl rfl (lt_of hx2434) (gt' hb2441 rfl (fb 3 U52 rfl rfl rfl rfl Z4 (gt' hb2441 rfl (ld G4 rfl rfl ((sS 0 rfl hq2439).drop 3) rfl (pf hb2441 rfl rfl (on ?_)))))))))))
          cases hr2443
          exact cu ⟨rfl, rfl, rfl, rfl, rfl, rfl, rfl, rfl, rfl, rfl, rfl, tv⟩
        ·rintro a w ⟨hS, hA⟩
         refine TG.ap ?_ hS hA
         refine cb rfl (fun hc2447 => ?_) (fun hc2447 => ?_)
         ·have hr2448 := if_p hc2447 hr2432
          refine xt rfl ?_
          cases hr2448
          intro a w hS hA
          exact ⟨ad2277, cap2278, ad2279, cap2280, ad2281, cap2282, hS, hA.cut ⟨rfl, rfl, rfl, rfl, rfl, rfl, rfl, rfl, rfl, rfl, tv⟩⟩
         ·have hr2449 := if_f hc2447 hr2432
          refine sk (sq (rg (m1 rfl ?_)))
          obtain ⟨hk2450, hr2451⟩ := chk_some hr2449
          refine adI rfl rfl rfl hk2450 (a1 rfl (on (sq ?_)))
          obtain ⟨x2452, hx2453, hr2454⟩ := bd_some hr2451
          obtain ⟨p2455, rfl⟩ := hl13.adr hx2453
          obtain ⟨cs2456, hcs2457, hq2458, hr2459⟩ := hl13.at hx2453
          obtain rfl := hr2459
          obtain ⟨hk2460, hr2461⟩ := chk_some hr2454
          obtain ⟨hk2462, hr2463⟩ := chk_some hr2461
          refine drG 13 mixed (by kernel_rfl) rfl (dt rfl (m1 rfl fin1) (dt rfl (m1 rfl fin1) (dt rfl (iaP U47 Z52 rfl rfl rfl rfl (lt_of hx2453) fin1) (dt rfl (fb 0 U52 rfl rfl rfl rfl Z50 fin1) (dt rfl (fb 1 U50 rfl rfl rfl rfl Z9 fin1) (dt rfl (ld G9 rfl rfl (((sS 1 rfl hq2458).drop 1).take 1) rfl fin1) (dt rfl (lnS U9 rfl rfl fin1) (dt rfl (fb 3 U24 rfl rfl rfl rfl Z3 fin1) (dt rfl (ld G3 rfl rfl (((sS 2 rfl hK6).drop 3).take 1) rfl fin1) (dt rfl (adI rfl rfl rfl hk2460 fin1) (dt rfl (sbI rfl rfl rfl hk2462 fin1) ?_)))))))))))
          refine dt rfl (fb 3 U24 rfl rfl rfl rfl Z3 fin1) (dt rfl (ld G3 rfl rfl (((sS 2 rfl hK6).drop 3).take 1) rfl fin1) (DF.nil fun K2464 hF => ?_))
          obtain ⟨hk2465, hr2466⟩ := chk_some hr2463
          refine quI rfl rfl rfl hk2465 (a1 rfl (on (sq (rg (al 1 (cs := [.int .i64 0, .int .i64 0, .int .i64 0, .int .i64 0]) Tryz.zeroValue110 rfl rfl fun b2467 => (on (sq (sq (rg (a1 rfl (on ?_)))))))))))
          obtain ⟨e2504, hl2505, hr2506⟩ := bd_some hr2466
          refine jn (fun a w => St M W H [K2464, K10, K5, H] [(1, cel b2467 110 [.int .i64 e2504.2.2.2.1, .int .i64 (e2504.2.1 : Int), .int .i64 e2504.2.2.2.2.1, .int .i64 e2504.2.2.2.2.2]), (7, Own.list ad2277 cap2278 3 1 (encI .i64) s2276.2.2.2.2.1), (6, Own.list ad2279 cap2280 3 1 (encI .i64) s2276.2.2.2.2.2.1), (5, Own.list ad2281 cap2282 110 4 encPlace s2276.2.2.2.2.2.2)] w ∧ Has [] 114 a [(2, .pointer (some q4)), (7, .slice ad2281 s2276.2.2.2.2.2.2.length cap2282), (8, .slice ad2279 s2276.2.2.2.2.2.1.length cap2280), (9, .slice ad2277 s2276.2.2.2.2.1.length cap2278), (10, .slice (some p2455) r7.length cap12), (11, .int .i64 (e2504.1 : Int)), (12, .int .i64 (s1435.2.1 : Int)), (13, .int .i64 e2504.2.2.1), (14, .int .i64 ((s2276.2.1 : Int) + 1)), (15, .int .i64 (s2276.2.2.1 : Int)), (17, .pointer (some (⟨b2467, 0, none⟩)))]) ?_ ?_
          ·refine bk ?_
           refine lp hl2505 (fun s2507 a w => St M W H [K2464, K10, K5, H] [(1, cel b2467 110 [.int .i64 s2507.2.2.2.2.1, .int .i64 (s2507.2.2.1 : Int), .int .i64 s2507.2.2.2.2.2.1, .int .i64 s2507.2.2.2.2.2.2]), (7, Own.list ad2277 cap2278 3 1 (encI .i64) s2276.2.2.2.2.1), (6, Own.list ad2279 cap2280 3 1 (encI .i64) s2276.2.2.2.2.2.1), (5, Own.list ad2281 cap2282 110 4 encPlace s2276.2.2.2.2.2.2)] w ∧ Has [] 114 a [(2, .pointer (some q4)), (7, .slice ad2281 s2276.2.2.2.2.2.2.length cap2282), (8, .slice ad2279 s2276.2.2.2.2.2.1.length cap2280), (9, .slice ad2277 s2276.2.2.2.2.1.length cap2278), (10, .slice (some p2455) r7.length cap12), (11, .int .i64 (s2507.1 : Int)), (12, .int .i64 (s1435.2.1 : Int)), (13, .int .i64 s2507.2.2.2.1), (14, .int .i64 ((s2276.2.1 : Int) + 1)), (15, .int .i64 (s2276.2.2.1 : Int)), (16, .int .i64 ((((x2452.paragraph.text.length : Int) + v_0.width) - 1) / v_0.width)), (17, .pointer (some (⟨b2467, 0, none⟩))), (18, .int .i64 (s2507.2.1 : Int))]) ?_ ?_
           ·exact cu ⟨rfl, rfl, rfl, rfl, rfl, rfl, rfl, rfl, rfl, rfl, rfl, rfl, rfl, tv⟩
           ·rintro j s2507 y2510 hr2508 hz2509 a w ⟨hS, hA⟩
            refine TG.ap ?_ hS hA
            unfold m22_3 at hr2508
            refine sq (sq (rg (m1 rfl (m1 rfl (ltI rfl rfl rfl (on ?_))))))
            refine ci rfl (fun hc2514 => ?_) (fun hc2514 => ?_)
            ·have hr2515 := if_p hc2514 hr2508
             refine sk (sq (bk (sq (sq (rg (m1 rfl (fb 2 U24 rfl rfl rfl rfl Z3 (ld G3 rfl rfl (((sS 2 rfl hK6).drop 2).take 1) rfl (eqI rfl rfl rfl (on ?_))))))))))
             obtain ⟨t2533, hx2534, hr2535⟩ := bd_some hr2515
             refine jn (fun a w => St M W H [K2464, K10, K5, H] [(1, cel b2467 110 [.int .i64 s2507.2.2.2.2.1, .int .i64 (s2507.2.2.1 : Int), .int .i64 s2507.2.2.2.2.2.1, .int .i64 s2507.2.2.2.2.2.2]), (7, Own.list ad2277 cap2278 3 1 (encI .i64) s2276.2.2.2.2.1), (6, Own.list ad2279 cap2280 3 1 (encI .i64) s2276.2.2.2.2.2.1), (5, Own.list ad2281 cap2282 110 4 encPlace s2276.2.2.2.2.2.2)] w ∧ Has [] 114 a [(2, .pointer (some q4)), (7, .slice ad2281 s2276.2.2.2.2.2.2.length cap2282), (8, .slice ad2279 s2276.2.2.2.2.2.1.length cap2280), (9, .slice ad2277 s2276.2.2.2.2.1.length cap2278), (10, .slice (some p2455) r7.length cap12), (11, .int .i64 (t2533.1 : Int)), (12, .int .i64 (s1435.2.1 : Int)), (13, .int .i64 t2533.2), (14, .int .i64 ((s2276.2.1 : Int) + 1)), (15, .int .i64 (s2276.2.2.1 : Int)), (16, .int .i64 ((((x2452.paragraph.text.length : Int) + v_0.width) - 1) / v_0.width)), (17, .pointer (some (⟨b2467, 0, none⟩))), (18, .int .i64 (s2507.2.1 : Int))]) ?_ ?_
             ·refine ci rfl (fun hc2536 => ?_) (fun hc2536 => ?_)
              ·have hr2537 := if_p hc2536 hx2534
               refine rg (m1 rfl ?_)
               obtain ⟨hk2538, hr2539⟩ := chk_some hr2537
               refine adI rfl rfl rfl hk2538 (a1 rfl (a1 rfl (on ?_)))
               cases hr2539
               exact cu ⟨rfl, rfl, rfl, rfl, rfl, rfl, rfl, rfl, rfl, rfl, rfl, rfl, rfl, tv⟩
              ·have hr2540 := if_n hc2536 hx2534
               refine sk ?_
               cases hr2540
               exact cu ⟨rfl, rfl, rfl, rfl, rfl, rfl, rfl, rfl, rfl, rfl, rfl, rfl, rfl, tv⟩
             ·rintro a w ⟨hS, hA⟩
              refine TG.ap ?_ hS hA
              refine sq (rg (m1 rfl ?_))
              obtain ⟨hk2541, hr2542⟩ := chk_some hr2535
              refine adI rfl rfl rfl hk2541 (a1 rfl (on (sq (rg (m1 rfl (eqI rfl rfl rfl (on ?_)))))))
              obtain ⟨t2546, hx2547, hr2548⟩ := bd_some hr2542
              refine jn (fun a w => St M W H [K2464, K10, K5, H] [(1, cel b2467 110 [.int .i64 t2546.2.1, .int .i64 (t2546.1 : Int), .int .i64 t2546.2.2.1, .int .i64 t2546.2.2.2]), (7, Own.list ad2277 cap2278 3 1 (encI .i64) s2276.2.2.2.2.1), (6, Own.list ad2279 cap2280 3 1 (encI .i64) s2276.2.2.2.2.2.1), (5, Own.list ad2281 cap2282 110 4 encPlace s2276.2.2.2.2.2.2)] w ∧ Has [] 114 a [(2, .pointer (some q4)), (7, .slice ad2281 s2276.2.2.2.2.2.2.length cap2282), (8, .slice ad2279 s2276.2.2.2.2.2.1.length cap2280), (9, .slice ad2277 s2276.2.2.2.2.1.length cap2278), (10, .slice (some p2455) r7.length cap12), (11, .int .i64 (t2533.1 : Int)), (12, .int .i64 (s1435.2.1 : Int)), (13, .int .i64 (t2533.2 + 1)), (14, .int .i64 ((s2276.2.1 : Int) + 1)), (15, .int .i64 (s2276.2.2.1 : Int)), (16, .int .i64 ((((x2452.paragraph.text.length : Int) + v_0.width) - 1) / v_0.width)), (17, .pointer (some (⟨b2467, 0, none⟩))), (18, .int .i64 (s2507.2.1 : Int))]) ?_ ?_
              ·refine ci rfl (fun hc2549 => ?_) (fun hc2549 => ?_)
               ·have hr2550 := if_p hc2549 hx2547
                refine rg (m1 rfl (m1 rfl (iaP U47 Z52 rfl rfl rfl rfl (lt_of hx2453) (fb 0 U52 rfl rfl rfl rfl Z50 (fb 0 U50 rfl rfl rfl rfl Z3 (ld G3 rfl rfl ((sS 1 rfl hq2458).take 1) rfl (m1 rfl (m1 rfl (m1 rfl (bu (cs := [.int .i64 x2452.paragraph.anchor, .int .i64 (t2533.1 : Int), .int .i64 (t2533.2 + 1), .int .i64 ((((x2452.paragraph.text.length : Int) + v_0.width) - 1) / v_0.width)]) T10.B110 rfl rfl rfl (sto 1 (cs := [.int .i64 x2452.paragraph.anchor, .int .i64 (t2533.1 : Int), .int .i64 (t2533.2 + 1), .int .i64 ((((x2452.paragraph.text.length : Int) + v_0.width) - 1) / v_0.width)]) Z110 rfl rfl rfl rfl rfl rfl rfl ?_)))))))))))
                refine on ?_
                cases hr2550
                exact cu ⟨rfl, rfl, rfl, rfl, rfl, rfl, rfl, rfl, rfl, rfl, rfl, rfl, rfl, tv⟩
               ·have hr2551 := if_n hc2549 hx2547
                refine sk ?_
                cases hr2551
                exact cu ⟨rfl, rfl, rfl, rfl, rfl, rfl, rfl, rfl, rfl, rfl, rfl, rfl, rfl, tv⟩
              ·rintro a w ⟨hS, hA⟩
               refine TG.ap ?_ hS hA
               refine rg (m1 rfl ?_)
               obtain ⟨hk2552, hr2553⟩ := chk_some hr2548
               refine adI rfl rfl rfl hk2552 (a1 rfl (on ?_))
               cases hr2553
               intro a w hS hA
               exact ⟨_, hz2509, hS, hA.cut ⟨rfl, rfl, rfl, rfl, rfl, rfl, rfl, rfl, rfl, rfl, rfl, rfl, rfl, tv⟩⟩
            ·have hr2554 := if_n hc2514 hr2508
             refine xt rfl ?_
             cases hr2554
             obtain rfl := Fin.out hz2509
             exact cu ⟨rfl, rfl, rfl, rfl, rfl, rfl, rfl, rfl, rfl, rfl, rfl, tv⟩
          ·rintro a w ⟨hS, hA⟩
           refine TG.ap ?_ hS hA
           obtain ⟨hk2563, hr2564⟩ := chk_some hr2506
           have := lenA s2276.2.2.2.2.2.2 ([(⟨e2504.2.2.2.1, (e2504.2.1 : Int), e2504.2.2.2.2.1, e2504.2.2.2.2.2⟩ : Place)] : List Place)
           obtain ⟨x2567, hx2568, hr2569⟩ := bd_some hr2564
           obtain ⟨p2570, rfl⟩ := hl3.adr hx2568
           obtain ⟨cs2571, hcs2572, hq2573, hr2574⟩ := hl3.at hx2568
           have hr2575 := hr2574
           obtain ⟨ad2576, cap2577, rfl, hl2578⟩ := hr2574
           have := hl2578.len
           obtain ⟨hk2587, hr2588⟩ := chk_some hr2569
           have := lenA s2276.2.2.2.2.2.1 ([x2567.day] : List Int)
           refine drG3 16 [3, 12] [] mixed (fun _ _ _ _ _ h => h) (by kernel_rfl) (by kernel_rfl) (by kernel_rfl) rfl (by kernel_rfl) (.nil) (dc rfl (by kernel_rfl) tv rfl rfl (m1 rfl fin1) (dc rfl (by kernel_rfl) tv rfl rfl (ldA G110 Z110 rfl rfl (sO 1 rfl) rfl fin1) ?_))
           refine DC.und (α := Option Addr × Nat) (none, 0) (fun q => .slice q.1 1 q.2) (fun (q : Option Addr × Nat) K => Sl (Flat encPlace) 4 K q.1 q.2 ([(⟨e2504.2.2.2.1, (e2504.2.1 : Int), e2504.2.2.2.2.1, e2504.2.2.2.2.2⟩ : Place)] : List Place)) (fun τ => τ = [(1, cel b2467 110 [.int .i64 e2504.2.2.2.1, .int .i64 (e2504.2.1 : Int), .int .i64 e2504.2.2.2.2.1, .int .i64 e2504.2.2.2.2.2]), (7, Own.list ad2277 cap2278 3 1 (encI .i64) s2276.2.2.2.2.1), (6, Own.list ad2279 cap2280 3 1 (encI .i64) s2276.2.2.2.2.2.1), (5, Own.list ad2281 cap2282 110 4 encPlace s2276.2.2.2.2.2.2)]) rfl rfl (by kernel_rfl) tv (fun _ _ _ h x => x.mono (Flat.mono _) h) (by kernel_rfl) rfl rfl (fun τ hτ a w K hS hA hF => by subst hτ <;> exact TG.pa hS hA (bS (cs := [.int .i64 e2504.2.2.2.1, .int .i64 (e2504.2.1 : Int), .int .i64 e2504.2.2.2.2.1, .int .i64 e2504.2.2.2.2.2]) T10.E58 rfl rfl rfl rfl fun q2555 K2556 hq2557 hK2558 => by
             have hl2559 : Sl (Flat encPlace) 4 K2556 (some q2555) 1 ([(⟨e2504.2.2.2.1, (e2504.2.1 : Int), e2504.2.2.2.2.1, e2504.2.2.2.2.2⟩ : Place)] : List Place) := Sl.litR (css := [[.int .i64 e2504.2.2.2.1, .int .i64 (e2504.2.1 : Int), .int .i64 e2504.2.2.2.2.1, .int .i64 e2504.2.2.2.2.2]]) (l := ([(⟨e2504.2.2.2.1, (e2504.2.1 : Int), e2504.2.2.2.2.1, e2504.2.2.2.2.2⟩ : Place)] : List Place)) ⟨⟨rfl, rfl, rfl⟩, tv⟩ hq2557 hK2558 rfl
             have := hl2559.len
             exact finU (f := fun q => .slice q.1 1 q.2) (G := (fun (q : Option Addr × Nat) K => Sl (Flat encPlace) 4 K q.1 q.2 ([(⟨e2504.2.2.2.1, (e2504.2.1 : Int), e2504.2.2.2.2.1, e2504.2.2.2.2.2⟩ : Place)] : List Place))) (_, _) (fun _ _ _ h x => x.mono (Flat.mono _) h) hl2559)) ?_
           rintro ⟨ad2561, cap2562⟩
           refine DC.turn (α := Option Addr × Nat) (none, 0) (fun q => .slice q.1 ((s2276.2.2.2.2.2.2 ++ ([(⟨e2504.2.2.2.1, (e2504.2.1 : Int), e2504.2.2.2.2.1, e2504.2.2.2.2.2⟩ : Place)] : List Place)).length) q.2) (fun _ _ => True) (fun q => [(1, cel b2467 110 [.int .i64 e2504.2.2.2.1, .int .i64 (e2504.2.1 : Int), .int .i64 e2504.2.2.2.2.1, .int .i64 e2504.2.2.2.2.2]), (7, Own.list ad2277 cap2278 3 1 (encI .i64) s2276.2.2.2.2.1), (6, Own.list ad2279 cap2280 3 1 (encI .i64) s2276.2.2.2.2.2.1), (5, Own.list q.1 q.2 110 4 encPlace (s2276.2.2.2.2.2.2 ++ ([(⟨e2504.2.2.2.1, (e2504.2.1 : Int), e2504.2.2.2.2.1, e2504.2.2.2.2.2⟩ : Place)] : List Place)))]) rfl (fun _ _ _ _ h => h) (by kernel_rfl) rfl rfl (fun a w K hS hA hF => TG.pa hS hA (apS 5 (enc := encPlace) (l := s2276.2.2.2.2.2.2) (m := ([(⟨e2504.2.2.2.1, (e2504.2.1 : Int), e2504.2.2.2.2.1, e2504.2.2.2.2.2⟩ : Place)] : List Place)) T10.E58 rfl rfl rfl rfl rfl rfl (hF.1 rfl) 0 rfl (fun _ => rfl) (fun _ => rfl) rfl hk2563 fun ad2565 cap2566 => finT (f := fun q => .slice q.1 ((s2276.2.2.2.2.2.2 ++ ([(⟨e2504.2.2.2.1, (e2504.2.1 : Int), e2504.2.2.2.2.1, e2504.2.2.2.2.2⟩ : Place)] : List Place)).length) q.2) (G := fun _ _ => True) (σ1 := fun q => [(1, cel b2467 110 [.int .i64 e2504.2.2.2.1, .int .i64 (e2504.2.1 : Int), .int .i64 e2504.2.2.2.2.1, .int .i64 e2504.2.2.2.2.2]), (7, Own.list ad2277 cap2278 3 1 (encI .i64) s2276.2.2.2.2.1), (6, Own.list ad2279 cap2280 3 1 (encI .i64) s2276.2.2.2.2.2.1), (5, Own.list q.1 q.2 110 4 encPlace (s2276.2.2.2.2.2.2 ++ ([(⟨e2504.2.2.2.1, (e2504.2.1 : Int), e2504.2.2.2.2.1, e2504.2.2.2.2.2⟩ : Place)] : List Place)))]) (_, _) tv)) ?_
           rintro ⟨ad2565, cap2566⟩
           refine DC.det (fun τ => τ = [(1, cel b2467 110 [.int .i64 e2504.2.2.2.1, .int .i64 (e2504.2.1 : Int), .int .i64 e2504.2.2.2.2.1, .int .i64 e2504.2.2.2.2.2]), (7, Own.list ad2277 cap2278 3 1 (encI .i64) s2276.2.2.2.2.1), (6, Own.list ad2279 cap2280 3 1 (encI .i64) s2276.2.2.2.2.2.1), (5, Own.list ad2565 cap2566 110 4 encPlace (s2276.2.2.2.2.2.2 ++ ([(⟨e2504.2.2.2.1, (e2504.2.1 : Int), e2504.2.2.2.2.1, e2504.2.2.2.2.2⟩ : Place)] : List Place)))] ∨ τ = [(1, cel b2467 110 [.int .i64 e2504.2.2.2.1, .int .i64 (e2504.2.1 : Int), .int .i64 e2504.2.2.2.2.1, .int .i64 e2504.2.2.2.2.2]), (7, Own.list ad2277 cap2278 3 1 (encI .i64) s2276.2.2.2.2.1), (6, Own.list ad2279 cap2280 3 1 (encI .i64) s2276.2.2.2.2.2.1), (5, Own.list ad2281 cap2282 110 4 encPlace s2276.2.2.2.2.2.2)]) rfl (.inl rfl) (by kernel_rfl) ⟨.inl (.inr (rfl)), tv⟩ rfl rfl (fun τ hτ a w K hS hA hF => by rcases hτ with rfl | rfl <;> exact TG.pa hS hA (m1 rfl fin1)) (DC.det (fun τ => τ = [(1, cel b2467 110 [.int .i64 e2504.2.2.2.1, .int .i64 (e2504.2.1 : Int), .int .i64 e2504.2.2.2.2.1, .int .i64 e2504.2.2.2.2.2]), (7, Own.list ad2277 cap2278 3 1 (encI .i64) s2276.2.2.2.2.1), (6, Own.list ad2279 cap2280 3 1 (encI .i64) s2276.2.2.2.2.2.1), (5, Own.list ad2565 cap2566 110 4 encPlace (s2276.2.2.2.2.2.2 ++ ([(⟨e2504.2.2.2.1, (e2504.2.1 : Int), e2504.2.2.2.2.1, e2504.2.2.2.2.2⟩ : Place)] : List Place)))] ∨ τ = [(1, cel b2467 110 [.int .i64 e2504.2.2.2.1, .int .i64 (e2504.2.1 : Int), .int .i64 e2504.2.2.2.2.1, .int .i64 e2504.2.2.2.2.2]), (7, Own.list ad2277 cap2278 3 1 (encI .i64) s2276.2.2.2.2.1), (6, Own.list ad2279 cap2280 3 1 (encI .i64) s2276.2.2.2.2.2.1), (5, Own.list ad2281 cap2282 110 4 encPlace s2276.2.2.2.2.2.2)]) rfl (.inl rfl) (by kernel_rfl) ⟨.inl (.inr (rfl)), tv⟩ rfl rfl (fun τ hτ a w K hS hA hF => by rcases hτ with rfl | rfl <;> exact TG.pa hS hA (fb 4 U24 rfl rfl rfl rfl Z22 fin1)) (DC.det (fun τ => τ = [(1, cel b2467 110 [.int .i64 e2504.2.2.2.1, .int .i64 (e2504.2.1 : Int), .int .i64 e2504.2.2.2.2.1, .int .i64 e2504.2.2.2.2.2]), (7, Own.list ad2277 cap2278 3 1 (encI .i64) s2276.2.2.2.2.1), (6, Own.list ad2279 cap2280 3 1 (encI .i64) s2276.2.2.2.2.2.1), (5, Own.list ad2565 cap2566 110 4 encPlace (s2276.2.2.2.2.2.2 ++ ([(⟨e2504.2.2.2.1, (e2504.2.1 : Int), e2504.2.2.2.2.1, e2504.2.2.2.2.2⟩ : Place)] : List Place)))] ∨ τ = [(1, cel b2467 110 [.int .i64 e2504.2.2.2.1, .int .i64 (e2504.2.1 : Int), .int .i64 e2504.2.2.2.2.1, .int .i64 e2504.2.2.2.2.2]), (7, Own.list ad2277 cap2278 3 1 (encI .i64) s2276.2.2.2.2.1), (6, Own.list ad2279 cap2280 3 1 (encI .i64) s2276.2.2.2.2.2.1), (5, Own.list ad2281 cap2282 110 4 encPlace s2276.2.2.2.2.2.2)]) rfl (.inl rfl) (by kernel_rfl) ⟨.inl (.inr (rfl)), tv⟩ rfl rfl (fun τ hτ a w K hS hA hF => by rcases hτ with rfl | rfl <;> exact TG.pa hS hA (ld G22 rfl rfl ((sS 3 rfl hK6).drop 4) rfl fin1)) (DC.det (fun τ => τ = [(1, cel b2467 110 [.int .i64 e2504.2.2.2.1, .int .i64 (e2504.2.1 : Int), .int .i64 e2504.2.2.2.2.1, .int .i64 e2504.2.2.2.2.2]), (7, Own.list ad2277 cap2278 3 1 (encI .i64) s2276.2.2.2.2.1), (6, Own.list ad2279 cap2280 3 1 (encI .i64) s2276.2.2.2.2.2.1), (5, Own.list ad2565 cap2566 110 4 encPlace (s2276.2.2.2.2.2.2 ++ ([(⟨e2504.2.2.2.1, (e2504.2.1 : Int), e2504.2.2.2.2.1, e2504.2.2.2.2.2⟩ : Place)] : List Place)))] ∨ τ = [(1, cel b2467 110 [.int .i64 e2504.2.2.2.1, .int .i64 (e2504.2.1 : Int), .int .i64 e2504.2.2.2.2.1, .int .i64 e2504.2.2.2.2.2]), (7, Own.list ad2277 cap2278 3 1 (encI .i64) s2276.2.2.2.2.1), (6, Own.list ad2279 cap2280 3 1 (encI .i64) s2276.2.2.2.2.2.1), (5, Own.list ad2281 cap2282 110 4 encPlace s2276.2.2.2.2.2.2)]) rfl (.inl rfl) (by kernel_rfl) ⟨.inl (.inr (rfl)), tv⟩ rfl rfl (fun τ hτ a w K hS hA hF => by rcases hτ with rfl | rfl <;> exact TG.pa hS hA (m1 rfl fin1)) (DC.det (fun τ => τ = [(1, cel b2467 110 [.int .i64 e2504.2.2.2.1, .int .i64 (e2504.2.1 : Int), .int .i64 e2504.2.2.2.2.1, .int .i64 e2504.2.2.2.2.2]), (7, Own.list ad2277 cap2278 3 1 (encI .i64) s2276.2.2.2.2.1), (6, Own.list ad2279 cap2280 3 1 (encI .i64) s2276.2.2.2.2.2.1), (5, Own.list ad2565 cap2566 110 4 encPlace (s2276.2.2.2.2.2.2 ++ ([(⟨e2504.2.2.2.1, (e2504.2.1 : Int), e2504.2.2.2.2.1, e2504.2.2.2.2.2⟩ : Place)] : List Place)))] ∨ τ = [(1, cel b2467 110 [.int .i64 e2504.2.2.2.1, .int .i64 (e2504.2.1 : Int), .int .i64 e2504.2.2.2.2.1, .int .i64 e2504.2.2.2.2.2]), (7, Own.list ad2277 cap2278 3 1 (encI .i64) s2276.2.2.2.2.1), (6, Own.list ad2279 cap2280 3 1 (encI .i64) s2276.2.2.2.2.2.1), (5, Own.list ad2281 cap2282 110 4 encPlace s2276.2.2.2.2.2.2)]) rfl (.inl rfl) (by kernel_rfl) ⟨.inl (.inr (rfl)), tv⟩ rfl rfl (fun τ hτ a w K hS hA hF => by rcases hτ with rfl | rfl <;> exact TG.pa hS hA (iaP U22 Z98 rfl rfl rfl rfl (lt_of hx2568) fin1)) (DC.det (fun τ => τ = [(1, cel b2467 110 [.int .i64 e2504.2.2.2.1, .int .i64 (e2504.2.1 : Int), .int .i64 e2504.2.2.2.2.1, .int .i64 e2504.2.2.2.2.2]), (7, Own.list ad2277 cap2278 3 1 (encI .i64) s2276.2.2.2.2.1), (6, Own.list ad2279 cap2280 3 1 (encI .i64) s2276.2.2.2.2.2.1), (5, Own.list ad2565 cap2566 110 4 encPlace (s2276.2.2.2.2.2.2 ++ ([(⟨e2504.2.2.2.1, (e2504.2.1 : Int), e2504.2.2.2.2.1, e2504.2.2.2.2.2⟩ : Place)] : List Place)))] ∨ τ = [(1, cel b2467 110 [.int .i64 e2504.2.2.2.1, .int .i64 (e2504.2.1 : Int), .int .i64 e2504.2.2.2.2.1, .int .i64 e2504.2.2.2.2.2]), (7, Own.list ad2277 cap2278 3 1 (encI .i64) s2276.2.2.2.2.1), (6, Own.list ad2279 cap2280 3 1 (encI .i64) s2276.2.2.2.2.2.1), (5, Own.list ad2281 cap2282 110 4 encPlace s2276.2.2.2.2.2.2)]) rfl (.inl rfl) (by kernel_rfl) ⟨.inl (.inr (rfl)), tv⟩ rfl rfl (fun τ hτ a w K hS hA hF => by rcases hτ with rfl | rfl <;> exact TG.pa hS hA (fb 0 U98 rfl rfl rfl rfl Z3 fin1)) (DC.det (fun τ => τ = [(1, cel b2467 110 [.int .i64 e2504.2.2.2.1, .int .i64 (e2504.2.1 : Int), .int .i64 e2504.2.2.2.2.1, .int .i64 e2504.2.2.2.2.2]), (7, Own.list ad2277 cap2278 3 1 (encI .i64) s2276.2.2.2.2.1), (6, Own.list ad2279 cap2280 3 1 (encI .i64) s2276.2.2.2.2.2.1), (5, Own.list ad2565 cap2566 110 4 encPlace (s2276.2.2.2.2.2.2 ++ ([(⟨e2504.2.2.2.1, (e2504.2.1 : Int), e2504.2.2.2.2.1, e2504.2.2.2.2.2⟩ : Place)] : List Place)))] ∨ τ = [(1, cel b2467 110 [.int .i64 e2504.2.2.2.1, .int .i64 (e2504.2.1 : Int), .int .i64 e2504.2.2.2.2.1, .int .i64 e2504.2.2.2.2.2]), (7, Own.list ad2277 cap2278 3 1 (encI .i64) s2276.2.2.2.2.1), (6, Own.list ad2279 cap2280 3 1 (encI .i64) s2276.2.2.2.2.2.1), (5, Own.list ad2281 cap2282 110 4 encPlace s2276.2.2.2.2.2.2)]) rfl (.inl rfl) (by kernel_rfl) ⟨.inl (.inr (rfl)), tv⟩ rfl rfl (fun τ hτ a w K hS hA hF => by rcases hτ with rfl | rfl <;> exact TG.pa hS hA (ld G3 rfl rfl ((sS 4 rfl hq2573).take 1) rfl fin1)) ?_))))))
           refine DC.und (α := Option Addr × Nat) (none, 0) (fun q => .slice q.1 1 q.2) (fun (q : Option Addr × Nat) K => Sl (Flat (encI .i64)) 1 K q.1 q.2 ([x2567.day] : List Int)) (fun τ => τ = [(1, cel b2467 110 [.int .i64 e2504.2.2.2.1, .int .i64 (e2504.2.1 : Int), .int .i64 e2504.2.2.2.2.1, .int .i64 e2504.2.2.2.2.2]), (7, Own.list ad2277 cap2278 3 1 (encI .i64) s2276.2.2.2.2.1), (6, Own.list ad2279 cap2280 3 1 (encI .i64) s2276.2.2.2.2.2.1), (5, Own.list ad2565 cap2566 110 4 encPlace (s2276.2.2.2.2.2.2 ++ ([(⟨e2504.2.2.2.1, (e2504.2.1 : Int), e2504.2.2.2.2.1, e2504.2.2.2.2.2⟩ : Place)] : List Place)))] ∨ τ = [(1, cel b2467 110 [.int .i64 e2504.2.2.2.1, .int .i64 (e2504.2.1 : Int), .int .i64 e2504.2.2.2.2.1, .int .i64 e2504.2.2.2.2.2]), (7, Own.list ad2277 cap2278 3 1 (encI .i64) s2276.2.2.2.2.1), (6, Own.list ad2279 cap2280 3 1 (encI .i64) s2276.2.2.2.2.2.1), (5, Own.list ad2281 cap2282 110 4 encPlace s2276.2.2.2.2.2.2)]) rfl (.inl rfl) (by kernel_rfl) ⟨.inl (.inr (rfl)), tv⟩ (fun _ _ _ h x => x.mono (Flat.mono _) h) (by kernel_rfl) rfl rfl (fun τ hτ a w K hS hA hF => by rcases hτ with rfl | rfl <;> exact TG.pa hS hA (bS (cs := [.int .i64 x2567.day]) T10.E59 rfl rfl rfl rfl fun q2579 K2580 hq2581 hK2582 => by
             have hl2583 : Sl (Flat (encI .i64)) 1 K2580 (some q2579) 1 ([x2567.day] : List Int) := Sl.litR (css := [[.int .i64 x2567.day]]) (l := ([x2567.day] : List Int)) ⟨⟨rfl, rfl, rfl⟩, tv⟩ hq2581 hK2582 rfl
             have := hl2583.len
             exact finU (f := fun q => .slice q.1 1 q.2) (G := (fun (q : Option Addr × Nat) K => Sl (Flat (encI .i64)) 1 K q.1 q.2 ([x2567.day] : List Int))) (_, _) (fun _ _ _ h x => x.mono (Flat.mono _) h) hl2583)) ?_
           rintro ⟨ad2585, cap2586⟩
           refine DC.turn (α := Option Addr × Nat) (none, 0) (fun q => .slice q.1 ((s2276.2.2.2.2.2.1 ++ ([x2567.day] : List Int)).length) q.2) (fun _ _ => True) (fun q => [(1, cel b2467 110 [.int .i64 e2504.2.2.2.1, .int .i64 (e2504.2.1 : Int), .int .i64 e2504.2.2.2.2.1, .int .i64 e2504.2.2.2.2.2]), (7, Own.list ad2277 cap2278 3 1 (encI .i64) s2276.2.2.2.2.1), (6, Own.list q.1 q.2 3 1 (encI .i64) (s2276.2.2.2.2.2.1 ++ ([x2567.day] : List Int))), (5, Own.list ad2565 cap2566 110 4 encPlace (s2276.2.2.2.2.2.2 ++ ([(⟨e2504.2.2.2.1, (e2504.2.1 : Int), e2504.2.2.2.2.1, e2504.2.2.2.2.2⟩ : Place)] : List Place)))]) rfl (fun _ _ _ _ h => h) (by kernel_rfl) rfl rfl (fun a w K hS hA hF => TG.pa hS hA (apS 6 (enc := encI .i64) (l := s2276.2.2.2.2.2.1) (m := ([x2567.day] : List Int)) T10.E59 rfl rfl rfl rfl rfl rfl (hF.1 rfl) 0 rfl (fun _ => rfl) (fun _ => rfl) rfl hk2587 fun ad2589 cap2590 => finT (f := fun q => .slice q.1 ((s2276.2.2.2.2.2.1 ++ ([x2567.day] : List Int)).length) q.2) (G := fun _ _ => True) (σ1 := fun q => [(1, cel b2467 110 [.int .i64 e2504.2.2.2.1, .int .i64 (e2504.2.1 : Int), .int .i64 e2504.2.2.2.2.1, .int .i64 e2504.2.2.2.2.2]), (7, Own.list ad2277 cap2278 3 1 (encI .i64) s2276.2.2.2.2.1), (6, Own.list q.1 q.2 3 1 (encI .i64) (s2276.2.2.2.2.2.1 ++ ([x2567.day] : List Int))), (5, Own.list ad2565 cap2566 110 4 encPlace (s2276.2.2.2.2.2.2 ++ ([(⟨e2504.2.2.2.1, (e2504.2.1 : Int), e2504.2.2.2.2.1, e2504.2.2.2.2.2⟩ : Place)] : List Place)))]) (_, _) tv)) ?_
           rintro ⟨ad2589, cap2590⟩
           refine DC.det (fun τ => τ = [(1, cel b2467 110 [.int .i64 e2504.2.2.2.1, .int .i64 (e2504.2.1 : Int), .int .i64 e2504.2.2.2.2.1, .int .i64 e2504.2.2.2.2.2]), (7, Own.list ad2277 cap2278 3 1 (encI .i64) s2276.2.2.2.2.1), (6, Own.list ad2589 cap2590 3 1 (encI .i64) (s2276.2.2.2.2.2.1 ++ ([x2567.day] : List Int))), (5, Own.list ad2565 cap2566 110 4 encPlace (s2276.2.2.2.2.2.2 ++ ([(⟨e2504.2.2.2.1, (e2504.2.1 : Int), e2504.2.2.2.2.1, e2504.2.2.2.2.2⟩ : Place)] : List Place)))] ∨ τ = [(1, cel b2467 110 [.int .i64 e2504.2.2.2.1, .int .i64 (e2504.2.1 : Int), .int .i64 e2504.2.2.2.2.1, .int .i64 e2504.2.2.2.2.2]), (7, Own.list ad2277 cap2278 3 1 (encI .i64) s2276.2.2.2.2.1), (6, Own.list ad2279 cap2280 3 1 (encI .i64) s2276.2.2.2.2.2.1), (5, Own.list ad2281 cap2282 110 4 encPlace s2276.2.2.2.2.2.2)] ∨ τ = [(1, cel b2467 110 [.int .i64 e2504.2.2.2.1, .int .i64 (e2504.2.1 : Int), .int .i64 e2504.2.2.2.2.1, .int .i64 e2504.2.2.2.2.2]), (7, Own.list ad2277 cap2278 3 1 (encI .i64) s2276.2.2.2.2.1), (6, Own.list ad2279 cap2280 3 1 (encI .i64) s2276.2.2.2.2.2.1), (5, Own.list ad2565 cap2566 110 4 encPlace (s2276.2.2.2.2.2.2 ++ ([(⟨e2504.2.2.2.1, (e2504.2.1 : Int), e2504.2.2.2.2.1, e2504.2.2.2.2.2⟩ : Place)] : List Place)))]) rfl (.inl rfl) (by kernel_rfl) ⟨.inl (.inr (.inr (rfl))), .inl (.inr (.inl rfl)), tv⟩ rfl rfl (fun τ hτ a w K hS hA hF => by rcases hτ with rfl | rfl | rfl <;> exact TG.pa hS hA (m1 rfl fin1)) (DC.det (fun τ => τ = [(1, cel b2467 110 [.int .i64 e2504.2.2.2.1, .int .i64 (e2504.2.1 : Int), .int .i64 e2504.2.2.2.2.1, .int .i64 e2504.2.2.2.2.2]), (7, Own.list ad2277 cap2278 3 1 (encI .i64) s2276.2.2.2.2.1), (6, Own.list ad2589 cap2590 3 1 (encI .i64) (s2276.2.2.2.2.2.1 ++ ([x2567.day] : List Int))), (5, Own.list ad2565 cap2566 110 4 encPlace (s2276.2.2.2.2.2.2 ++ ([(⟨e2504.2.2.2.1, (e2504.2.1 : Int), e2504.2.2.2.2.1, e2504.2.2.2.2.2⟩ : Place)] : List Place)))] ∨ τ = [(1, cel b2467 110 [.int .i64 e2504.2.2.2.1, .int .i64 (e2504.2.1 : Int), .int .i64 e2504.2.2.2.2.1, .int .i64 e2504.2.2.2.2.2]), (7, Own.list ad2277 cap2278 3 1 (encI .i64) s2276.2.2.2.2.1), (6, Own.list ad2279 cap2280 3 1 (encI .i64) s2276.2.2.2.2.2.1), (5, Own.list ad2281 cap2282 110 4 encPlace s2276.2.2.2.2.2.2)] ∨ τ = [(1, cel b2467 110 [.int .i64 e2504.2.2.2.1, .int .i64 (e2504.2.1 : Int), .int .i64 e2504.2.2.2.2.1, .int .i64 e2504.2.2.2.2.2]), (7, Own.list ad2277 cap2278 3 1 (encI .i64) s2276.2.2.2.2.1), (6, Own.list ad2279 cap2280 3 1 (encI .i64) s2276.2.2.2.2.2.1), (5, Own.list ad2565 cap2566 110 4 encPlace (s2276.2.2.2.2.2.2 ++ ([(⟨e2504.2.2.2.1, (e2504.2.1 : Int), e2504.2.2.2.2.1, e2504.2.2.2.2.2⟩ : Place)] : List Place)))]) rfl (.inl rfl) (by kernel_rfl) ⟨.inl (.inr (.inr (rfl))), .inl (.inr (.inl rfl)), tv⟩ rfl rfl (fun τ hτ a w K hS hA hF => by rcases hτ with rfl | rfl | rfl <;> exact TG.pa hS hA (m1 rfl fin1)) ?_)
           refine DC.und (α := Option Addr × Nat) (none, 0) (fun q => .slice q.1 1 q.2) (fun (q : Option Addr × Nat) K => Sl (Flat (encI .i64)) 1 K q.1 q.2 ([((s2276.2.1 : Int) + 1)] : List Int)) (fun τ => τ = [(1, cel b2467 110 [.int .i64 e2504.2.2.2.1, .int .i64 (e2504.2.1 : Int), .int .i64 e2504.2.2.2.2.1, .int .i64 e2504.2.2.2.2.2]), (7, Own.list ad2277 cap2278 3 1 (encI .i64) s2276.2.2.2.2.1), (6, Own.list ad2589 cap2590 3 1 (encI .i64) (s2276.2.2.2.2.2.1 ++ ([x2567.day] : List Int))), (5, Own.list ad2565 cap2566 110 4 encPlace (s2276.2.2.2.2.2.2 ++ ([(⟨e2504.2.2.2.1, (e2504.2.1 : Int), e2504.2.2.2.2.1, e2504.2.2.2.2.2⟩ : Place)] : List Place)))] ∨ τ = [(1, cel b2467 110 [.int .i64 e2504.2.2.2.1, .int .i64 (e2504.2.1 : Int), .int .i64 e2504.2.2.2.2.1, .int .i64 e2504.2.2.2.2.2]), (7, Own.list ad2277 cap2278 3 1 (encI .i64) s2276.2.2.2.2.1), (6, Own.list ad2279 cap2280 3 1 (encI .i64) s2276.2.2.2.2.2.1), (5, Own.list ad2281 cap2282 110 4 encPlace s2276.2.2.2.2.2.2)] ∨ τ = [(1, cel b2467 110 [.int .i64 e2504.2.2.2.1, .int .i64 (e2504.2.1 : Int), .int .i64 e2504.2.2.2.2.1, .int .i64 e2504.2.2.2.2.2]), (7, Own.list ad2277 cap2278 3 1 (encI .i64) s2276.2.2.2.2.1), (6, Own.list ad2279 cap2280 3 1 (encI .i64) s2276.2.2.2.2.2.1), (5, Own.list ad2565 cap2566 110 4 encPlace (s2276.2.2.2.2.2.2 ++ ([(⟨e2504.2.2.2.1, (e2504.2.1 : Int), e2504.2.2.2.2.1, e2504.2.2.2.2.2⟩ : Place)] : List Place)))]) rfl (.inl rfl) (by kernel_rfl) ⟨.inl (.inr (.inr (rfl))), .inl (.inr (.inl rfl)), tv⟩ (fun _ _ _ h x => x.mono (Flat.mono _) h) (by kernel_rfl) rfl rfl (fun τ hτ a w K hS hA hF => by rcases hτ with rfl | rfl | rfl <;> exact TG.pa hS hA (bS (cs := [.int .i64 ((s2276.2.1 : Int) + 1)]) T10.E59 rfl rfl rfl rfl fun q2591 K2592 hq2593 hK2594 => by
             have hl2595 : Sl (Flat (encI .i64)) 1 K2592 (some q2591) 1 ([((s2276.2.1 : Int) + 1)] : List Int) := Sl.litR (css := [[.int .i64 ((s2276.2.1 : Int) + 1)]]) (l := ([((s2276.2.1 : Int) + 1)] : List Int)) ⟨⟨rfl, rfl, rfl⟩, tv⟩ hq2593 hK2594 rfl
             have := hl2595.len
             exact finU (f := fun q => .slice q.1 1 q.2) (G := (fun (q : Option Addr × Nat) K => Sl (Flat (encI .i64)) 1 K q.1 q.2 ([((s2276.2.1 : Int) + 1)] : List Int))) (_, _) (fun _ _ _ h x => x.mono (Flat.mono _) h) hl2595)) ?_
           rintro ⟨ad2597, cap2598⟩
           refine DC.nil fun K2599 hF => ?_
           obtain ⟨hu2596, _, hu2584, _, hu2560, _⟩ := hF
           have := hu2560.len
           have := hu2584.len
           have := hu2596.len
           obtain ⟨hk2600, hr2601⟩ := chk_some hr2588
           have := lenA s2276.2.2.2.2.1 ([((s2276.2.1 : Int) + 1)] : List Int)
           refine apS 7 (enc := encI .i64) (l := s2276.2.2.2.2.1) (m := ([((s2276.2.1 : Int) + 1)] : List Int)) T10.E59 rfl rfl rfl rfl rfl rfl hu2596 0 rfl (fun _ => rfl) (fun _ => rfl) rfl hk2600 fun ad2602 cap2603 => (a1 rfl (a1 rfl (a1 rfl (on (TG.del 1 ?_)))))
           cases hr2601
           intro a w hS hA
           exact ⟨ad2602, cap2603, ad2589, cap2590, ad2565, cap2566, hS.selH [2, 3, 4] rfl, hA.cut ⟨rfl, rfl, rfl, rfl, rfl, rfl, rfl, rfl, rfl, rfl, tv⟩⟩
       ·rintro a w ⟨ad2413, cap2414, ad2415, cap2416, ad2417, cap2418, hS, hA⟩
        refine TG.ap ?_ hS hA
        refine rg (m1 rfl (adI rfl rfl rfl (by omega) (a1 rfl (on ?_))))
        cases hr2412
        intro a w hS hA
        exact ⟨_, hz2284, ad2413, cap2414, ad2415, cap2416, ad2417, cap2418, hS, hA.cut ⟨rfl, rfl, rfl, rfl, rfl, rfl, rfl, rfl, rfl, rfl, tv⟩⟩
      ·have hr2604 := if_n hc2289 hr2283
       refine xt rfl ?_
       cases hr2604
       obtain rfl := Fin.out hz2284
       intro a w hS hA
       exact ⟨ad2277, cap2278, ad2279, cap2280, ad2281, cap2282, hS, hA.cut ⟨rfl, rfl, rfl, rfl, rfl, rfl, rfl, tv⟩⟩
    ·rintro a w ⟨ad2270, cap2271, ad2272, cap2273, ad2274, cap2275, hS, hA⟩
     refine TG.ap ?_ hS hA
     refine rg (m1 rfl (adI rfl rfl rfl (by omega) (a1 rfl (on ?_))))
     cases hr2269
     intro a w hS hA
     exact ⟨_, hz1443, ad2270, cap2271, ad2272, cap2273, ad2274, cap2275, hS, hA.cut ⟨rfl, rfl, rfl, rfl, rfl, rfl, rfl, tv⟩⟩
   ·have hr2605 := if_n hc1448 hr1442
    refine xt rfl ?_
    cases hr2605
    obtain rfl := Fin.out hz1443
    intro a w hS hA
    exact ⟨ad1436, cap1437, ad1438, cap1439, ad1440, cap1441, hS, hA.cut ⟨rfl, rfl, rfl, tv⟩⟩
 ·rintro a w ⟨ad1429, cap1430, ad1431, cap1432, ad1433, cap1434, hS, hA⟩
  refine TG.ap ?_ hS hA
  refine sq (rg (m1 rfl (m1 rfl (m1 rfl (a1 rfl (a1 rfl (a1 rfl (on (rt_ ?_)))))))))
  cases hr1428
  intro a w hS hA
  refine ret3 hA rfl rfl rfl rfl ?_
  exact ⟨⟨_, _, _, _, _, _, rfl, (hS.listOut 5 rfl (fun _ => rfl)), (hS.listOut 6 rfl (fun _ => rfl)), (hS.listOut 7 rfl (fun _ => rfl))⟩, hS.ext⟩

theorem w5 {M : Prop} {W : World} {H : Hp} (hH : H.le (hp W)) (hg : Gv M H) {cs_v_0 : List Value} (v_0 : Volume) (h_v_0 : (RVolume) H cs_v_0 v_0) {ad_errata : Option Addr} {cap_errata : Nat} {errata : List Erratum} (h_errata : Sl (Flat encErratum) 6 H ad_errata cap_errata errata) {r : Bool} (hr : m5 v_0 errata = some r) : Calls Tryz.prog 5 [.agg cs_v_0.toArray, .slice ad_errata errata.length cap_errata].toArray W (RetS M W (.bool r)) := by
 have hh_v_0 := h_v_0
 obtain ⟨ad1, cap2, rfl, hl3⟩ := h_v_0
 have := hl3.len
 have := h_errata.len
 unfold m5 at hr
 refine enterG (M := M) Tryz.func5 rfl Tryz.ntmps5 rfl hH ?_
 refine sq (rg (bI (cs := [.int .i64 v_0.number, .int .i64 v_0.bound, .int .i64 v_0.height, .int .i64 v_0.width, .slice ad1 v_0.parts.length cap2]) rfl rfl rfl fun q4 K5 hK6 => (a1 rfl (on (sq (sq (rg (ldA G24 Z24 rfl rfl (sS 0 rfl hK6) rfl (m1 rfl ?_)))))))))
 obtain ⟨r7, hx8, hr9⟩ := bd_some hr
 refine clS C11 rfl rfl rfl rfl (fun w H hH le => w11 hH v_0 (RVolume.mono _ _ _ _ (le.at 1 rfl) hh_v_0) (h_errata.mono (Flat.mono _) (le.at 1 rfl)) hx8) (nt rfl rfl (on ?_))
 refine cb rfl (fun hc16 => ?_) (fun hc16 => ?_)
 ·replace hc16 := nbt hc16
  have hr17 := if_f hc16 hr9
  refine sq (rg ?_)
  obtain ⟨r18, hx19, hr20⟩ := bd_some hr17
  refine clS C12 rfl rfl rfl rfl (fun w H hH le => w12 hH (hg.mono (le.at 1 rfl))  hx19) (a1 rfl (on (rt_ ?_)))
  cases hr20
  intro a w hS hA
  refine ret1 hA rfl rfl ?_
  exact ⟨rfl, hS.ext⟩
 ·replace hc16 := nbf hc16
  have hr21 := if_p hc16 hr9
  refine sk (sq (rg (ldA G24 Z24 rfl rfl (sS 0 rfl hK6) rfl ?_)))
  obtain ⟨r22, hx23, hr24⟩ := bd_some hr21
  refine clK C14 rfl rfl rfl rfl (fun w H hH le => w14 hH v_0 (RVolume.mono _ _ _ _ (le.at 1 rfl) hh_v_0) hx23) ?_
  rintro v_ K25 ⟨cs26, rfl, hr27⟩
  have hr28 := hr27
  obtain ⟨ad29, cap30, rfl, hl31⟩ := hr27
  have := hl31.len
  refine m1 rfl ?_
  obtain ⟨r32, hx33, hr34⟩ := bd_some hr24
  refine clK C15 rfl rfl rfl rfl (fun w H hH le => w15 hH (h_errata.mono (Flat.mono _) (le.at 2 rfl)) hx33) ?_
  rintro v_ K35 ⟨ad36, cap37, rfl, hl38⟩
  have := hl38.len
  obtain ⟨r39, hx40, hr41⟩ := bd_some hr34
  refine clK C17 rfl rfl rfl rfl (fun w H hH le => w17 hH r22 (RVolume.mono _ _ _ _ (le.at 1 rfl) hr28) (hl38.mono (Flat.mono _) (le.at 0 rfl)) hx40) ?_
  rintro v_ K42 ⟨ad43, cap44, rfl, hl45⟩
  have := hl45.len
  refine m1 rfl (ex rfl rfl rfl (ex rfl rfl rfl (a1 rfl (a1 rfl (on (sq (sq (rg (m1 rfl (neI rfl rfl rfl (on ?_)))))))))))
  refine ci rfl (fun hc49 => ?_) (fun hc49 => ?_)
  ·have hr50 := if_p hc49 hr41
   refine sq (rg (a1 rfl (on (rt_ ?_))))
   cases hr50
   intro a w hS hA
   refine ret1 hA rfl rfl ?_
   exact ⟨rfl, hS.ext⟩
  ·have hr51 := if_n hc49 hr41
   refine sk (sq (rg (ldA G24 Z24 rfl rfl (sS 3 rfl hK6) rfl (m1 rfl ?_))))
   obtain ⟨r52, hx53, hr54⟩ := bd_some hr51
   refine clK C22 rfl rfl rfl rfl (fun w H hH le => w22 hH v_0 (RVolume.mono _ _ _ _ (le.at 4 rfl) hh_v_0) (h_errata.mono (Flat.mono _) (le.at 4 rfl)) hx53) ?_
   rintro v_ K55 ⟨ad56, cap57, ad59, cap60, ad62, cap63, rfl, hl58, hl61, hl64⟩
   have := hl58.len
   have := hl61.len
   have := hl64.len
   refine m1 rfl (ex rfl rfl rfl (ex rfl rfl rfl (ex rfl rfl rfl (a1 rfl (a1 rfl (a1 rfl (on (sq (sq (rg (m1 rfl ?_)))))))))))
   refine lnL U59 rfl rfl (m1 rfl (lnL U42 rfl rfl (neI rfl rfl rfl (on ?_))))
   refine ci rfl (fun hc68 => ?_) (fun hc68 => ?_)
   ·have hr69 := if_p hc68 hr54
    refine sq (rg (a1 rfl (on (rt_ ?_))))
    cases hr69
    intro a w hS hA
    refine ret1 hA rfl rfl ?_
    exact ⟨rfl, hS.ext⟩
   ·have hr70 := if_n hc68 hr54
    refine sk (sq (rg (a1 rfl (on (sq (sq (rg (a1 rfl (on ?_)))))))))
    obtain ⟨e253, hl254, hr255⟩ := bd_some hr70
    refine jn (fun a w => ∃ t256, e253 = .inl t256 ∧ St M W H [K55, K42, K35, K25, K5, H] [] w ∧ Has [] 132 a []) ?_ ?_
    ·refine bk ?_
     refine lp hl254 (fun s257 a w => St M W H [K55, K42, K35, K25, K5, H] [] w ∧ Has [] 132 a [(2, .pointer (some q4)), (5, .slice ad43 r39.1.length cap44), (8, .slice ad59 r52.2.1.length cap60), (10, .int .i64 s257.2), (11, .int .i64 (s257.1 : Int))]) ?_ ?_
     ·exact cu ⟨rfl, rfl, rfl, rfl, rfl, tv⟩
     ·rintro j s257 y260 hr258 hz259 a w ⟨hS, hA⟩
      refine TG.ap ?_ hS hA
      unfold m5_1 at hr258
      refine sq (sq (rg (m1 rfl (m1 rfl (lnL U42 rfl rfl (ltI rfl rfl rfl (on ?_)))))))
      refine ci rfl (fun hc264 => ?_) (fun hc264 => ?_)
      ·have hr265 := if_p hc264 hr258
       refine sk (sq (bk (sq (sq ?_))))
       obtain ⟨t378, hx379, hr380⟩ := bd_some hr265
       refine jn (fun a w => St M W H [K55, K42, K35, K25, K5, H] [] w ∧ Has [] 132 a [(2, .pointer (some q4)), (5, .slice ad43 r39.1.length cap44), (8, .slice ad59 r52.2.1.length cap60), (10, .int .i64 s257.2), (11, .int .i64 (s257.1 : Int)), (84, .bool t378)]) ?_ ?_
       ·obtain ⟨x381, hx382, hr383⟩ := bd_some hx379
        obtain ⟨p384, rfl⟩ := hl45.adr hx382
        obtain ⟨cs385, hcs386, hq387, hr388⟩ := hl45.at hx382
        obtain rfl := hr388
        by_cases hb389 : x381.line < 1
        ·have hr390 := if_p hb389 hr383
         refine drG 35 mixed (by kernel_rfl) rfl (dt rfl (m1 rfl fin1) (dt rfl (m1 rfl fin1) (dt rfl (iaP U42 Z63 rfl rfl rfl rfl (lt_of hx382) fin1) (dt rfl (fb 2 U63 rfl rfl rfl rfl Z3 fin1) (dt rfl (ld G3 rfl rfl (((sS 2 rfl hq387).drop 2).take 1) rfl fin1) (dt rfl (ltI rfl rfl rfl fin1) (dt rfl (m1 rfl fin1) (dt rfl (gf' hb389 rfl fin1) (dt rfl (gf' hb389 rfl fin1) (dt rfl (gf' hb389 rfl fin1) (dt rfl (gf' hb389 rfl fin1) ?_)))))))))))
         refine dt rfl (gf' hb389 rfl fin1) (dt rfl (gf' hb389 rfl fin1) (dt rfl (gf' hb389 rfl fin1) (dt rfl (gf' hb389 rfl fin1) (dt rfl (pt hb389 rfl rfl fin1) (dt rfl (m1 rfl fin1) (dt rfl (gF rfl rfl rfl rfl fin1) (dt rfl (gF rfl rfl rfl rfl fin1) (dt rfl (gF rfl rfl rfl rfl fin1) (dt rfl (gF rfl rfl rfl rfl fin1) (dt rfl (gF rfl rfl rfl rfl fin1) (dt rfl (gF rfl rfl rfl rfl fin1) ?_)))))))))))
         refine dt rfl (pT rfl rfl rfl rfl fin1) (dt rfl (m1 rfl fin1) (dt rfl (gF rfl rfl rfl rfl fin1) (dt rfl (gF rfl rfl rfl rfl fin1) (dt rfl (gF rfl rfl rfl rfl fin1) (dt rfl (gF rfl rfl rfl rfl fin1) (dt rfl (gF rfl rfl rfl rfl fin1) (dt rfl (gF rfl rfl rfl rfl fin1) (dt rfl (pT rfl rfl rfl rfl fin1) (dt rfl (m1 rfl fin1) (dt rfl (gF rfl rfl rfl rfl fin1) (dt rfl (gF rfl rfl rfl rfl fin1) ?_)))))))))))
         refine DF.nil fun K391 hF => (gF rfl rfl rfl rfl (gF rfl rfl rfl rfl (gF rfl rfl rfl rfl (gF rfl rfl rfl rfl (pT rfl rfl rfl rfl (on ?_))))))
         cases hr390
         intro a w hS hA
         exact ⟨hS.selH [1, 2, 3, 4, 5, 6] rfl, hA.cut ⟨rfl, rfl, rfl, rfl, rfl, rfl, tv⟩⟩
        ·have hr392 := if_n hb389 hr383
         by_cases hb393 : v_0.height < x381.line
         ·have hr394 := if_p hb393 hr392
          refine drG 35 mixed (by kernel_rfl) rfl (dt rfl (m1 rfl fin1) (dt rfl (m1 rfl fin1) (dt rfl (iaP U42 Z63 rfl rfl rfl rfl (lt_of hx382) fin1) (dt rfl (fb 2 U63 rfl rfl rfl rfl Z3 fin1) (dt rfl (ld G3 rfl rfl (((sS 2 rfl hq387).drop 2).take 1) rfl fin1) (dt rfl (ltI rfl rfl rfl fin1) (dt rfl (m1 rfl fin1) (dt rfl (gt' hb389 rfl (m1 rfl fin1)) (dt rfl (gt' hb389 rfl (m1 rfl fin1)) (dt rfl (gt' hb389 rfl (iaP U42 Z63 rfl rfl rfl rfl (lt_of hx382) fin1)) (dt rfl (gt' hb389 rfl (fb 2 U63 rfl rfl rfl rfl Z3 fin1)) ?_)))))))))))
          refine dt rfl (gt' hb389 rfl (ld G3 rfl rfl (((sS 2 rfl hq387).drop 2).take 1) rfl fin1)) (dt rfl (gt' hb389 rfl (fb 2 U24 rfl rfl rfl rfl Z3 fin1)) (dt rfl (gt' hb389 rfl (ld G3 rfl rfl (((sS 5 rfl hK6).drop 2).take 1) rfl fin1)) (dt rfl (gt' hb389 rfl (gtI rfl rfl rfl fin1)) (dt rfl (pf hb389 rfl rfl fin1) (dt rfl (m1 rfl fin1) (dt rfl (gf' hb393 rfl fin1) (dt rfl (gf' hb393 rfl fin1) (dt rfl (gf' hb393 rfl fin1) (dt rfl (gf' hb393 rfl fin1) (dt rfl (gf' hb393 rfl fin1) (dt rfl (gf' hb393 rfl fin1) ?_)))))))))))
          refine dt rfl (pt hb393 rfl rfl fin1) (dt rfl (m1 rfl fin1) (dt rfl (gF rfl rfl rfl rfl fin1) (dt rfl (gF rfl rfl rfl rfl fin1) (dt rfl (gF rfl rfl rfl rfl fin1) (dt rfl (gF rfl rfl rfl rfl fin1) (dt rfl (gF rfl rfl rfl rfl fin1) (dt rfl (gF rfl rfl rfl rfl fin1) (dt rfl (pT rfl rfl rfl rfl fin1) (dt rfl (m1 rfl fin1) (dt rfl (gF rfl rfl rfl rfl fin1) (dt rfl (gF rfl rfl rfl rfl fin1) ?_)))))))))))
          refine DF.nil fun K395 hF => (gF rfl rfl rfl rfl (gF rfl rfl rfl rfl (gF rfl rfl rfl rfl (gF rfl rfl rfl rfl (pT rfl rfl rfl rfl (on ?_))))))
          cases hr394
          intro a w hS hA
          exact ⟨hS.selH [1, 2, 3, 4, 5, 6] rfl, hA.cut ⟨rfl, rfl, rfl, rfl, rfl, rfl, tv⟩⟩
         ·have hr396 := if_n hb393 hr392
          by_cases hb397 : x381.lines < 1
          ·have hr398 := if_p hb397 hr396
           refine drG 35 mixed (by kernel_rfl) rfl (dt rfl (m1 rfl fin1) (dt rfl (m1 rfl fin1) (dt rfl (iaP U42 Z63 rfl rfl rfl rfl (lt_of hx382) fin1) (dt rfl (fb 2 U63 rfl rfl rfl rfl Z3 fin1) (dt rfl (ld G3 rfl rfl (((sS 2 rfl hq387).drop 2).take 1) rfl fin1) (dt rfl (ltI rfl rfl rfl fin1) (dt rfl (m1 rfl fin1) (dt rfl (gt' hb389 rfl (m1 rfl fin1)) (dt rfl (gt' hb389 rfl (m1 rfl fin1)) (dt rfl (gt' hb389 rfl (iaP U42 Z63 rfl rfl rfl rfl (lt_of hx382) fin1)) (dt rfl (gt' hb389 rfl (fb 2 U63 rfl rfl rfl rfl Z3 fin1)) ?_)))))))))))
           refine dt rfl (gt' hb389 rfl (ld G3 rfl rfl (((sS 2 rfl hq387).drop 2).take 1) rfl fin1)) (dt rfl (gt' hb389 rfl (fb 2 U24 rfl rfl rfl rfl Z3 fin1)) (dt rfl (gt' hb389 rfl (ld G3 rfl rfl (((sS 5 rfl hK6).drop 2).take 1) rfl fin1)) (dt rfl (gt' hb389 rfl (gtI rfl rfl rfl fin1)) (dt rfl (pf hb389 rfl rfl fin1) (dt rfl (m1 rfl fin1) (dt rfl (gt' hb393 rfl (m1 rfl fin1)) (dt rfl (gt' hb393 rfl (m1 rfl fin1)) (dt rfl (gt' hb393 rfl (iaP U42 Z63 rfl rfl rfl rfl (lt_of hx382) fin1)) (dt rfl (gt' hb393 rfl (fb 3 U63 rfl rfl rfl rfl Z3 fin1)) (dt rfl (gt' hb393 rfl (ld G3 rfl rfl ((sS 2 rfl hq387).drop 3) rfl fin1)) (dt rfl (gt' hb393 rfl (ltI rfl rfl rfl fin1)) ?_)))))))))))
           refine dt rfl (pf hb393 rfl rfl fin1) (dt rfl (m1 rfl fin1) (dt rfl (gf' hb397 rfl fin1) (dt rfl (gf' hb397 rfl fin1) (dt rfl (gf' hb397 rfl fin1) (dt rfl (gf' hb397 rfl fin1) (dt rfl (gf' hb397 rfl fin1) (dt rfl (gf' hb397 rfl fin1) (dt rfl (pt hb397 rfl rfl fin1) (dt rfl (m1 rfl fin1) (dt rfl (gF rfl rfl rfl rfl fin1) (dt rfl (gF rfl rfl rfl rfl fin1) ?_)))))))))))
           refine DF.nil fun K399 hF => (gF rfl rfl rfl rfl (gF rfl rfl rfl rfl (gF rfl rfl rfl rfl (gF rfl rfl rfl rfl (pT rfl rfl rfl rfl (on ?_))))))
           cases hr398
           intro a w hS hA
           exact ⟨hS.selH [1, 2, 3, 4, 5, 6] rfl, hA.cut ⟨rfl, rfl, rfl, rfl, rfl, rfl, tv⟩⟩
          ·have hr400 := if_n hb397 hr396
           by_cases hb401 : 20 < x381.lines
           ·have hr402 := if_p hb401 hr400
            refine drG 35 mixed (by kernel_rfl) rfl (dt rfl (m1 rfl fin1) (dt rfl (m1 rfl fin1) (dt rfl (iaP U42 Z63 rfl rfl rfl rfl (lt_of hx382) fin1) (dt rfl (fb 2 U63 rfl rfl rfl rfl Z3 fin1) (dt rfl (ld G3 rfl rfl (((sS 2 rfl hq387).drop 2).take 1) rfl fin1) (dt rfl (ltI rfl rfl rfl fin1) (dt rfl (m1 rfl fin1) (dt rfl (gt' hb389 rfl (m1 rfl fin1)) (dt rfl (gt' hb389 rfl (m1 rfl fin1)) (dt rfl (gt' hb389 rfl (iaP U42 Z63 rfl rfl rfl rfl (lt_of hx382) fin1)) (dt rfl (gt' hb389 rfl (fb 2 U63 rfl rfl rfl rfl Z3 fin1)) ?_)))))))))))
            refine dt rfl (gt' hb389 rfl (ld G3 rfl rfl (((sS 2 rfl hq387).drop 2).take 1) rfl fin1)) (dt rfl (gt' hb389 rfl (fb 2 U24 rfl rfl rfl rfl Z3 fin1)) (dt rfl (gt' hb389 rfl (ld G3 rfl rfl (((sS 5 rfl hK6).drop 2).take 1) rfl fin1)) (dt rfl (gt' hb389 rfl (gtI rfl rfl rfl fin1)) (dt rfl (pf hb389 rfl rfl fin1) (dt rfl (m1 rfl fin1) (dt rfl (gt' hb393 rfl (m1 rfl fin1)) (dt rfl (gt' hb393 rfl (m1 rfl fin1)) (dt rfl (gt' hb393 rfl (iaP U42 Z63 rfl rfl rfl rfl (lt_of hx382) fin1)) (dt rfl (gt' hb393 rfl (fb 3 U63 rfl rfl rfl rfl Z3 fin1)) (dt rfl (gt' hb393 rfl (ld G3 rfl rfl ((sS 2 rfl hq387).drop 3) rfl fin1)) (dt rfl (gt' hb393 rfl (ltI rfl rfl rfl fin1)) ?_)))))))))))
            refine dt rfl (pf hb393 rfl rfl fin1) (dt rfl (m1 rfl fin1) (dt rfl (gt' hb397 rfl (m1 rfl fin1)) (dt rfl (gt' hb397 rfl (m1 rfl fin1)) (dt rfl (gt' hb397 rfl (iaP U42 Z63 rfl rfl rfl rfl (lt_of hx382) fin1)) (dt rfl (gt' hb397 rfl (fb 3 U63 rfl rfl rfl rfl Z3 fin1)) (dt rfl (gt' hb397 rfl (ld G3 rfl rfl ((sS 2 rfl hq387).drop 3) rfl fin1)) (dt rfl (gt' hb397 rfl (gtI rfl rfl rfl fin1)) (dt rfl (pf hb397 rfl rfl fin1) (dt rfl (m1 rfl fin1) (dt rfl (gf' hb401 rfl fin1) (dt rfl (gf' hb401 rfl fin1) ?_)))))))))))
            refine DF.nil fun K403 hF => (gf' hb401 rfl (gf' hb401 rfl (gf' hb401 rfl (gf' hb401 rfl (pt hb401 rfl rfl (on ?_))))))
            cases hr402
            intro a w hS hA
            exact ⟨hS.selH [1, 2, 3, 4, 5, 6] rfl, hA.cut ⟨rfl, rfl, rfl, rfl, rfl, rfl, tv⟩⟩
           ·have hr404 := if_n hb401 hr400
            refine drG 35 mixed (by kernel_rfl) rfl (dt rfl (m1 rfl fin1) (dt rfl (m1 rfl fin1) (dt rfl (iaP U42 Z63 rfl rfl rfl rfl (lt_of hx382) fin1) (dt rfl (fb 2 U63 rfl rfl rfl rfl Z3 fin1) (dt rfl (ld G3 rfl rfl (((sS 2 rfl hq387).drop 2).take 1) rfl fin1) (dt rfl (ltI rfl rfl rfl fin1) (dt rfl (m1 rfl fin1) (dt rfl (gt' hb389 rfl (m1 rfl fin1)) (dt rfl (gt' hb389 rfl (m1 rfl fin1)) (dt rfl (gt' hb389 rfl (iaP U42 Z63 rfl rfl rfl rfl (lt_of hx382) fin1)) (dt rfl (gt' hb389 rfl (fb 2 U63 rfl rfl rfl rfl Z3 fin1)) ?_)))))))))))
            refine dt rfl (gt' hb389 rfl (ld G3 rfl rfl (((sS 2 rfl hq387).drop 2).take 1) rfl fin1)) (dt rfl (gt' hb389 rfl (fb 2 U24 rfl rfl rfl rfl Z3 fin1)) (dt rfl (gt' hb389 rfl (ld G3 rfl rfl (((sS 5 rfl hK6).drop 2).take 1) rfl fin1)) (dt rfl (gt' hb389 rfl (gtI rfl rfl rfl fin1)) (dt rfl (pf hb389 rfl rfl fin1) (dt rfl (m1 rfl fin1) (dt rfl (gt' hb393 rfl (m1 rfl fin1)) (dt rfl (gt' hb393 rfl (m1 rfl fin1)) (dt rfl (gt' hb393 rfl (iaP U42 Z63 rfl rfl rfl rfl (lt_of hx382) fin1)) (dt rfl (gt' hb393 rfl (fb 3 U63 rfl rfl rfl rfl Z3 fin1)) (dt rfl (gt' hb393 rfl (ld G3 rfl rfl ((sS 2 rfl hq387).drop 3) rfl fin1)) (dt rfl (gt' hb393 rfl (ltI rfl rfl rfl fin1)) ?_)))))))))))
            refine dt rfl (pf hb393 rfl rfl fin1) (dt rfl (m1 rfl fin1) (dt rfl (gt' hb397 rfl (m1 rfl fin1)) (dt rfl (gt' hb397 rfl (m1 rfl fin1)) (dt rfl (gt' hb397 rfl (iaP U42 Z63 rfl rfl rfl rfl (lt_of hx382) fin1)) (dt rfl (gt' hb397 rfl (fb 3 U63 rfl rfl rfl rfl Z3 fin1)) (dt rfl (gt' hb397 rfl (ld G3 rfl rfl ((sS 2 rfl hq387).drop 3) rfl fin1)) (dt rfl (gt' hb397 rfl (gtI rfl rfl rfl fin1)) (dt rfl (pf hb397 rfl rfl fin1) (dt rfl (m1 rfl fin1) (dt rfl (gt' hb401 rfl (m1 rfl fin1)) (dt rfl (gt' hb401 rfl (m1 rfl fin1)) ?_)))))))))))
            refine DF.nil fun K405 hF => (gt' hb401 rfl (iaP U42 Z63 rfl rfl rfl rfl (lt_of hx382) (gt' hb401 rfl (fb 1 U63 rfl rfl rfl rfl Z3 (gt' hb401 rfl (ld G3 rfl rfl (((sS 2 rfl hq387).drop 1).take 1) rfl (gt' hb401 rfl (ltI rfl rfl rfl (pf hb401 rfl rfl (on ?_))))))))))
            cases hr404
            intro a w hS hA
            exact ⟨hS.selH [1, 2, 3, 4, 5, 6] rfl, hA.cut ⟨rfl, rfl, rfl, rfl, rfl, rfl, tv⟩⟩
       ·rintro a w ⟨hS, hA⟩
        refine TG.ap ?_ hS hA
        refine cb rfl (fun hc409 => ?_) (fun hc409 => ?_)
        ·have hr410 := if_p hc409 hr380
         refine sq (rg (a1 rfl (on (rt_ ?_))))
         cases hr410
         obtain rfl := Fin.out hz259
         cases hr255
         intro a w hS hA
         refine ret1 hA rfl rfl ?_
         exact ⟨rfl, hS.ext⟩
        ·have hr411 := if_f hc409 hr380
         refine sk (sq (sq ?_))
         obtain ⟨t434, hx435, hr436⟩ := bd_some hr411
         refine jn (fun a w => St M W H [K55, K42, K35, K25, K5, H] [] w ∧ Has [] 132 a [(2, .pointer (some q4)), (5, .slice ad43 r39.1.length cap44), (8, .slice ad59 r52.2.1.length cap60), (10, .int .i64 s257.2), (11, .int .i64 (s257.1 : Int)), (98, .bool t434)]) ?_ ?_
         ·by_cases hb437 : (s257.1 : Int) = 0
          ·have hr438 := if_p hb437 hx435
           refine drG 12 mixed (by kernel_rfl) rfl (dt rfl (m1 rfl fin1) (dt rfl (eqI rfl rfl rfl fin1) (dt rfl (m1 rfl fin1) (dt rfl (gf' hb437 rfl fin1) (dt rfl (gf' hb437 rfl fin1) (dt rfl (gf' hb437 rfl fin1) (dt rfl (gf' hb437 rfl fin1) (dt rfl (gf' hb437 rfl fin1) (dt rfl (gf' hb437 rfl fin1) (dt rfl (gf' hb437 rfl fin1) (dt rfl (gf' hb437 rfl fin1) ?_)))))))))))
           refine dt rfl (gf' hb437 rfl fin1) (DF.nil fun K439 hF => (gf' hb437 rfl (pt hb437 rfl rfl (on ?_))))
           cases hr438
           intro a w hS hA
           exact ⟨hS.selH [1, 2, 3, 4, 5, 6] rfl, hA.cut ⟨rfl, rfl, rfl, rfl, rfl, rfl, tv⟩⟩
          ·have hr440 := if_n hb437 hx435
           obtain ⟨x441, hx442, hr443⟩ := bd_some hr440
           obtain ⟨p444, rfl⟩ := hl61.adr hx442
           obtain ⟨cs445, hcs446, hq447, hr448⟩ := hl61.at hx442
           obtain rfl := hr448
           obtain ⟨hk449, hr450⟩ := chk_some hr443
           obtain ⟨x451, hx452, hr453⟩ := bd_some hr450
           obtain ⟨cs454, hcs455, hq456, hr457⟩ := hl61.at hx452
           obtain rfl := hr457
           refine drG 12 mixed (by kernel_rfl) rfl (dt rfl (m1 rfl fin1) (dt rfl (eqI rfl rfl rfl fin1) (dt rfl (m1 rfl fin1) (dt rfl (gt' hb437 rfl (m1 rfl fin1)) (dt rfl (gt' hb437 rfl (m1 rfl fin1)) (dt rfl (gt' hb437 rfl (iaP U59 Z3 rfl rfl rfl rfl (lt_of hx442) fin1)) (dt rfl (gt' hb437 rfl (ld G3 rfl rfl (sS 1 rfl hq447) rfl fin1)) (dt rfl (gt' hb437 rfl (m1 rfl fin1)) (dt rfl (gt' hb437 rfl (m1 rfl fin1)) (dt rfl (gt' hb437 rfl (sbI rfl rfl rfl (by omega) fin1)) (dt rfl (gt' hb437 rfl (iaP U59 Z3 rfl rfl rfl (by omega) (lt_of hx452) fin1)) ?_)))))))))))
           refine dt rfl (gt' hb437 rfl (ld G3 rfl rfl (sS 1 rfl hq456) rfl fin1)) (DF.nil fun K458 hF => (gt' hb437 rfl (neI rfl rfl rfl (pf hb437 rfl rfl (on ?_)))))
           cases hr453
           intro a w hS hA
           exact ⟨hS.selH [1, 2, 3, 4, 5, 6] rfl, hA.cut ⟨rfl, rfl, rfl, rfl, rfl, rfl, tv⟩⟩
         ·rintro a w ⟨hS, hA⟩
          refine TG.ap ?_ hS hA
          obtain ⟨t471, hx472, hr473⟩ := bd_some hr436
          refine jn (fun a w => St M W H [K55, K42, K35, K25, K5, H] [] w ∧ Has [] 132 a [(2, .pointer (some q4)), (5, .slice ad43 r39.1.length cap44), (8, .slice ad59 r52.2.1.length cap60), (10, .int .i64 t471), (11, .int .i64 (s257.1 : Int))]) ?_ ?_
          ·refine cb rfl (fun hc474 => ?_) (fun hc474 => ?_)
           ·have hr475 := if_p hc474 hx472
            obtain ⟨e484, hl485, hr486⟩ := bd_some hr475
            refine jn (fun a w => St M W H [K55, K42, K35, K25, K5, H] [] w ∧ Has [] 132 a [(2, .pointer (some q4)), (5, .slice ad43 r39.1.length cap44), (8, .slice ad59 r52.2.1.length cap60), (10, .int .i64 e484), (11, .int .i64 (s257.1 : Int))]) ?_ ?_
            ·refine bk ?_
             refine lp hl485 (fun s487 a w => St M W H [K55, K42, K35, K25, K5, H] [] w ∧ Has [] 132 a [(2, .pointer (some q4)), (5, .slice ad43 r39.1.length cap44), (8, .slice ad59 r52.2.1.length cap60), (10, .int .i64 s487), (11, .int .i64 (s257.1 : Int))]) ?_ ?_
             ·exact cu ⟨rfl, rfl, rfl, rfl, rfl, tv⟩
             ·rintro j s487 y490 hr488 hz489 a w ⟨hS, hA⟩
              refine TG.ap ?_ hS hA
              unfold m5_2 at hr488
              refine sq (sq (rg (m1 rfl (fb 2 U24 rfl rfl rfl rfl Z3 (ld G3 rfl rfl (((sS 4 rfl hK6).drop 2).take 1) rfl ?_)))))
              obtain ⟨hk491, hr492⟩ := chk_some hr488
              have : 0 ≤ (s487 % v_0.height) ∧ (s487 % v_0.height) < v_0.height := have h := (hk491 : 0 ≤ s487 ∧ 0 < v_0.height); ⟨Int.emod_nonneg _ (by omega), Int.emod_lt_of_pos _ h.2⟩
              refine rmI rfl rfl rfl hk491 (neI rfl rfl rfl (on ?_))
              refine ci rfl (fun hc496 => ?_) (fun hc496 => ?_)
              ·have hr497 := if_p hc496 hr492
               refine sk (bk (rg (m1 rfl ?_)))
               obtain ⟨hk500, hr501⟩ := chk_some hr497
               refine adI rfl rfl rfl hk500 (a1 rfl (on ?_))
               cases hr501
               intro a w hS hA
               exact ⟨_, hz489, hS, hA.cut ⟨rfl, rfl, rfl, rfl, rfl, tv⟩⟩
              ·have hr502 := if_n hc496 hr492
               refine xt rfl ?_
               cases hr502
               obtain rfl := Fin.out hz489
               exact cu ⟨rfl, rfl, rfl, rfl, rfl, tv⟩
            ·rintro a w ⟨hS, hA⟩
             refine TG.apJ ?_ hS hA
             cases hr486
             exact cu ⟨rfl, rfl, rfl, rfl, rfl, tv⟩
           ·have hr503 := if_f hc474 hx472
            refine sk ?_
            cases hr503
            exact cu ⟨rfl, rfl, rfl, rfl, rfl, tv⟩
          ·rintro a w ⟨hS, hA⟩
           refine TG.ap ?_ hS hA
           refine sq (sq ?_)
           obtain ⟨x504, hx505, hr506⟩ := bd_some hr473
           obtain ⟨p507, rfl⟩ := hl45.adr hx505
           obtain ⟨cs508, hcs509, hq510, hr511⟩ := hl45.at hx505
           obtain rfl := hr511
           obtain ⟨hk512, hr513⟩ := chk_some hr506
           obtain ⟨hk514, hr515⟩ := chk_some hr513
           obtain ⟨hk516, hr517⟩ := chk_some hr515
           obtain ⟨hk518, hr519⟩ := chk_some hr517
           refine drG 17 mixed (by kernel_rfl) rfl (dt rfl (m1 rfl fin1) (dt rfl (m1 rfl fin1) (dt rfl (iaP U42 Z63 rfl rfl rfl rfl (lt_of hx505) fin1) (dt rfl (fb 1 U63 rfl rfl rfl rfl Z3 fin1) (dt rfl (ld G3 rfl rfl (((sS 2 rfl hq510).drop 1).take 1) rfl fin1) (dt rfl (sbI rfl rfl rfl hk512 fin1) (dt rfl (fb 2 U24 rfl rfl rfl rfl Z3 fin1) (dt rfl (ld G3 rfl rfl (((sS 5 rfl hK6).drop 2).take 1) rfl fin1) (dt rfl (mlI rfl rfl rfl hk514 fin1) (dt rfl (m1 rfl fin1) (dt rfl (m1 rfl fin1) ?_)))))))))))
           refine dt rfl (iaP U42 Z63 rfl rfl rfl rfl (lt_of hx505) fin1) (dt rfl (fb 2 U63 rfl rfl rfl rfl Z3 fin1) (dt rfl (ld G3 rfl rfl (((sS 2 rfl hq510).drop 2).take 1) rfl fin1) (dt rfl (adI rfl rfl rfl hk516 fin1) (dt rfl (sbI rfl rfl rfl hk518 fin1) (dt rfl (m1 rfl fin1) (DF.nil fun K520 hF => (neI rfl rfl rfl (on ?_))))))))
           refine ci rfl (fun hc524 => ?_) (fun hc524 => ?_)
           ·have hr525 := if_p hc524 hr519
            refine sq (rg (a1 rfl (on (rt_ ?_))))
            cases hr525
            obtain rfl := Fin.out hz259
            cases hr255
            intro a w hS hA
            refine ret1 hA rfl rfl ?_
            exact ⟨rfl, hS.ext⟩
           ·have hr526 := if_n hc524 hr519
            refine sk (rg (m1 rfl (m1 rfl (m1 rfl (iaP U42 Z63 rfl rfl rfl rfl (lt_of hx505) (fb 3 U63 rfl rfl rfl rfl Z3 (ld G3 rfl rfl ((sS 2 rfl hq510).drop 3) rfl ?_)))))))
            obtain ⟨hk527, hr528⟩ := chk_some hr526
            refine adI rfl rfl rfl hk527 (a1 rfl (on (rg (m1 rfl (adI rfl rfl rfl (by omega) (a1 rfl (on ?_)))))))
            cases hr528
            intro a w hS hA
            exact ⟨_, hz259, hS.selH [1, 2, 3, 4, 5, 6] rfl, hA.cut ⟨rfl, rfl, rfl, rfl, rfl, tv⟩⟩
      ·have hr529 := if_n hc264 hr258
       refine xt rfl ?_
       cases hr529
       obtain rfl := Fin.out hz259
       intro a w hS hA
       exact ⟨_, rfl, hS, hA.cut tv⟩
    ·rintro a w ⟨t256, rfl, hS, hA⟩
     refine TG.ap ?_ hS hA
     refine sq (rg ?_)
     obtain ⟨r530, hx531, hr532⟩ := bd_some hr255
     refine clS C12 rfl rfl rfl rfl (fun w H hH le => w12 hH (hg.mono (le.at 5 rfl))  hx531) (a1 rfl (on (rt_ ?_)))
     cases hr532
     intro a w hS hA
     refine ret1 hA rfl rfl ?_
     exact ⟨rfl, hS.ext⟩

end T10
