/-
  For every input DeskHides answers true,and each argument reads afterwards as it did;the listed package variables are tied to the program text.
-/
import Derived.Test.YtehbdldbihhleaaGreatDoorWalkD
import Derived.Test.YtehbdldbihhleaaGreatDoorPlain
import Derived.Test.YtehbdldbihhleaaGreatDoorRows
import Derived.Test.YtehbdldbihhleaaGreatDoorCards
import Derived.Test.YtehbdldbihhleaaGreatDoorTie
import Derived.SevenTiedAt
import Derived.Lay
set_option linter.all false
set_option maxHeartbeats 4000000
namespace T12
open Go Go.Proofs Pk Go.RowKit Go.ChangeShapes Go.WideShapes
end T12
namespace Go.Proofs.YtehbdldbihhleaaGreatDoor
open Go Pk T12 Go.RowKit Go.ChangeShapes Go.WideShapes Go.ChangeAt Go.WideMaps Go.WideElems
theorem aLv:ownKnob Tryz.prog.godebug=none:=by kernel_rfl
theorem IH:laidOutB Tryz.prog=true:=by kernel_rfl
def rC:List (String×DataW Unit):=Rows.deskHidesRow.laid
theorem aAy {W:World} (h:laidMetH Tryz.prog rC W) (hs:W.ShapedOpen Tryz.prog):Gv False (hp W):=by
 refine ⟨?_,?_⟩
 ·rw [MakeChecks.laidMetH_plain _ _ _ (by kernel_rfl)] at h;obtain ⟨ps,⟨g0,t0,cs0,f0,p0,q0,hg0,ht0,hv0,hd0,⟨g1,t1,cs1,f1,p1,q1,hg1,ht1,hv1,hd1,⟨g2,t2,cs2,f2,p2,q2,hg2,ht2,hv2,hd2,⟨g3,t3,cs3,f3,p3,q3,hg3,ht3,hv3,hd3,⟨g4,t4,cs4,f4,p4,q4,hg4,ht4,hv4,hd4,_,_⟩,_⟩,_⟩,_⟩,_⟩,_,_⟩:=h;obtain rfl:=Option.some.inj (hg2.symm.trans (show _=some 0 by kernel_rfl));obtain rfl:=Option.some.inj (hg3.symm.trans (show _=some 3 by kernel_rfl));obtain rfl:=Option.some.inj (hg4.symm.trans (show _=some 2 by kernel_rfl));obtain rfl:=Option.some.inj (ht2.symm.trans (show _=some 255 by kernel_rfl));obtain rfl:=Option.some.inj (ht3.symm.trans (show _=some 175 by kernel_rfl));obtain rfl:=Option.some.inj (ht4.symm.trans (show _=some 175 by kernel_rfl));obtain ⟨vR,hR,iR⟩:=uR Tryz.underlying175 hd3;obtain ⟨vS,hS,iS⟩:=uR Tryz.underlying175 hd4;have hT:=QK (zs:=Lib.pow10Tab) Tryz.underlying255 Tryz.underlying202 (by kernel_rfl) (by kernel_rfl) (hd2.trans (show _=some (DataW.agg (Lib.pow10Tab.map fun z=>.lit (.int .u64 z)),p2) by kernel_rfl));exact WJ hg4 hv4 hS iS hg3 hv3 hR iR hg2 hv2 hT
 obtain ⟨m,hm⟩:=cell_of_shapedOpen_int (P:=Tryz.prog) (g:=1) (t:=3) (zero:=#[.int .i64 0]) hs (of_decide_eq_true (by kernel_rfl)) (by kernel_rfl) rfl (by kernel_rfl) (by kernel_rfl) Tryz.underlying3;exact ⟨m,AR hm⟩
theorem aLw (os:Os):laidMetH Tryz.prog rC ((World.laidAll Tryz.prog os rC).forCall (fun _ _=>0) ⟨#[],#[.slice none 0 0,.int .u16 0,.slice none 0 0],[]⟩).memory:=by
 rw [MakeChecks.laidMetH_plain _ _ _ (by kernel_rfl)];exact laidMet_laidAll _ (by kernel_rfl) (by kernel_rfl)
set_option maxRecDepth 100000 in
theorem NU (os:Os) (started:os.Started) (H:Type) (enc:TypeId×Value→H) :
  ReturnsInHanded {} Tryz.checked os 4 .any (fun w args=>(Rows.deskHidesSpec.pre enc Tryz.prog Tryz.f4 [] false w args∧laidMetH Tryz.prog rC w)∧sizedMet enc Tryz.prog Tryz.f4 (OpenSpec.ofChange Rows.deskHidesSpec) false w args)
   (Rows.deskHidesSpec.post enc Tryz.prog Tryz.f4 false true false false):=by
 refine aCm (C:=Tryz.checked) (X:=fun w=>laidMetH Tryz.prog rC w) (fun _ _ hh h=>h.of_heap hh) aLv started (by kernel_rfl) Tryz.func4
  (ChangeSpec.witness_shaped (enc:=enc) (C:=Tryz.checked) (os:=os) (X:=fun w _=>laidMetH Tryz.prog rC w) false (World.laidAll Tryz.prog os rC) #[.slice none 0 0,.int .u16 0,.slice none 0 0] 8 (World.laidAll_os _ _ _) (World.shaped_of_ZipB (by kernel_rfl) (by kernel_rfl)) (by kernel_rfl) (by kernel_rfl) (by kernel_rfl) (aLw os)) ?_
 intro W base args ds gs before hval0 hW hwt hL hsh;have hval:∀ (j:Nat) t v,Tryz.f4.params[j]?=some t→args[j]?=some v→Value.okWide Tryz.prog W .any base t v:=hval0;have hW1:=hW;obtain ⟨p,q,hA0,hV,rfl,hfz,hnd⟩:=hW;have hA:DataW.TrodAll enc Tryz.prog W 0 (fun _=>true) true Tryz.f4.params.toList args.toList ds p:=hA0;rw [Tryz.params4] at hA hval;obtain ⟨v0,vs0,d0,ds0,p0,p0_,e0,rfl,rfl,h0,hA0⟩:=trodAll_cons hA;obtain ⟨v1,vs1,d1,ds1,p1,p1_,e1,rfl,rfl,h1,hA1⟩:=trodAll_cons hA0;subst e1;obtain ⟨v2,vs2,d2,ds2,p2,p2_,e2,rfl,rfl,h2,hA2⟩:=trodAll_cons hA1;subst e2;obtain ⟨en,rfl,rfl⟩:=trodAll_nil hA2;subst en;obtain rfl:args = #[v0,v1,v2]:=by cases args;simp_all
 obtain ⟨x0,⟨ad0,cap0,e0,r0⟩,o0⟩:=wV (R:=(tX (aD bY) 1)) (ok:=(okL ((fun s:aE=>s.length≤maxLen)))) (uQ Tryz.underlying22 (by kernel_rfl) (by decide) (AP Tryz.underlying9 (by kernel_rfl))) (hval 0 22 _ rfl rfl) (nsl Tryz.underlying22 (hval 0 22 _ rfl rfl)) h0;cases e0;obtain ⟨x1,e1,o1⟩:=wV (R:=(aD (Pk.bP .u16))) (ok:=(DG .u16)) (DI Tryz.underlying55 (by kernel_rfl)) (hval 1 55 _ rfl rfl) (aCj Tryz.underlying55 (hval 1 55 _ rfl rfl)) h1;cases e1;obtain ⟨x2,⟨OJ,cap2,e2,r2⟩,o2⟩:=wV (R:=(tX (aD (Pk.bP .i64)) 1)) (ok:=(okL (DG .i64))) (uQ Tryz.underlying33 (by kernel_rfl) (by decide) (DI Tryz.underlying3 (by kernel_rfl))) (hval 2 33 _ rfl rfl) (nsl Tryz.underlying33 (hval 2 33 _ rfl rfl)) h2;cases e2;have hm:m4 x0 x1 x2=some true:=aAx awk x0 x1 x2 o1 o0;refine (w4 (M:=False) (Hp.le.refl (hp W)) (aAy hL hsh) r0 x1 r2 hm).mono fun e W2 he=>?_
 cases e with
 | returned u =>
  obtain ⟨rfl,hE⟩:=he;exact ⟨_,rfl,DJ hW1 rfl IH (by rw [Tryz.params4];decide +kernel) rfl rfl Tryz.underlying4 hE⟩
 | panicked c=>exact he.elim
 | outgrown=>exact he.elim
theorem said4:Rows.DeskHidesSaid :=
 OpenClaim.holds_of_wide 4 Tryz.f4 rfl rfl rfl rfl rfl rfl rfl ⟨rfl,rfl,rfl,rfl,rfl⟩ rfl rfl rfl rfl rfl (by as_aux_lemma=>kernel_rfl) Tryz.func4 (by unfold joinedFacts;(repeat' (with_reducible refine Pk.WM ?_ ?_));all_goals (as_aux_lemma=>kernel_rfl))
  (of_decide_eq_true (by kernel_rfl)) (by unfold Func.isWrapper;first | (rw [if_pos (by decide +kernel)];kernel_rfl) | (rw [if_neg (by decide +kernel)];exact ⟨rfl,rfl⟩))
  (fun os started H enc _=>NU os started H enc)
theorem card4:Rows.DeskHidesCardSaid :=
 Claim7.holds_tied_plain_at .later [] [.data, .data, .data, .sentinel, .sentinel] true (true, "ad9b27f75a583ef4314fcfb4e27015c8a463eb301d6a54869bf4bcda2b2276e1") true
  said4 (fun _ h=>by cases h) (by as_aux_lemma=>kernel_rfl) (fun _ h=>by cases h) deskHides_row_tie rfl ⟨rfl,rfl⟩ (by as_aux_lemma=>kernel_rfl) rfl
  (fun f fn hf hfn=>by
   obtain rfl:f=4:=Option.some.inj ((show Tryz.prog.funcNamed Tryz.f4.name=some 4 by as_aux_lemma=>kernel_rfl).symm.trans hf) |>.symm;obtain rfl:fn=Tryz.f4:=(Option.some.inj (Tryz.func4.symm.trans hfn)).symm
   exact ⟨by as_aux_lemma=>kernel_rfl,fun j t ht=>by
    rw [Tryz.params4] at ht;have hm:t∈[22,55,33]:=by simpa using Array.mem_of_getElem? ht
    have hall:([22,55,33].all fun u=>!Tryz.prog.wantsStandIn u)=true:=by kernel_rfl
    exact (show Tryz.prog.wantsStandIn t=false by simpa using List.all_eq_true.1 hall t hm)⟩)
  (by as_aux_lemma=>kernel_rfl)
#print axioms card4
end Go.Proofs.YtehbdldbihhleaaGreatDoor
