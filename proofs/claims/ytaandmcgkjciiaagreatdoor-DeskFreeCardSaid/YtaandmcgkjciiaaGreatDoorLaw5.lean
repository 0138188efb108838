/-
  For every input DeskFree answers true,and each argument reads afterwards as it did;the listed package variables are tied to the program text.
-/
import Derived.Test.YtaandmcgkjciiaaGreatDoorWalkD
import Derived.Test.YtaandmcgkjciiaaGreatDoorPlain
import Derived.Test.YtaandmcgkjciiaaGreatDoorRows
import Derived.Test.YtaandmcgkjciiaaGreatDoorCards
import Derived.Test.YtaandmcgkjciiaaGreatDoorTie
import Derived.SevenTiedAt
import Derived.Lay
set_option linter.all false
set_option maxHeartbeats 4000000
namespace T12
open Go Go.Proofs Pk Go.RowKit Go.ChangeShapes Go.WideShapes
end T12
namespace Go.Proofs.YtaandmcgkjciiaaGreatDoor
open Go Pk T12 Go.RowKit Go.ChangeShapes Go.WideShapes Go.ChangeAt Go.WideMaps Go.WideElems
theorem aGf:ownKnob Tryz.prog.godebug=none:=by kernel_rfl
theorem GQ:laidOutB Tryz.prog=true:=by kernel_rfl
def pJ:List (String×DataW Unit):=Rows.deskFreeRow.laid
theorem VU {W:World} (h:laidMetH Tryz.prog pJ W) (hs:W.ShapedOpen Tryz.prog):Gv False (hp W):=by
 refine ⟨?_,?_⟩
 ·rw [MakeChecks.laidMetH_plain _ _ _ (by kernel_rfl)] at h;obtain ⟨ps,⟨g0,t0,cs0,f0,p0,q0,hg0,ht0,hv0,hd0,⟨g1,t1,cs1,f1,p1,q1,hg1,ht1,hv1,hd1,⟨g2,t2,cs2,f2,p2,q2,hg2,ht2,hv2,hd2,⟨g3,t3,cs3,f3,p3,q3,hg3,ht3,hv3,hd3,⟨g4,t4,cs4,f4,p4,q4,hg4,ht4,hv4,hd4,_,_⟩,_⟩,_⟩,_⟩,_⟩,_,_⟩:=h;obtain rfl:=Option.some.inj (hg2.symm.trans (show _=some 3 by kernel_rfl));obtain rfl:=Option.some.inj (hg3.symm.trans (show _=some 2 by kernel_rfl));obtain rfl:=Option.some.inj (hg4.symm.trans (show _=some 1 by kernel_rfl));obtain rfl:=Option.some.inj (ht2.symm.trans (show _=some 336 by kernel_rfl));obtain rfl:=Option.some.inj (ht3.symm.trans (show _=some 190 by kernel_rfl));obtain rfl:=Option.some.inj (ht4.symm.trans (show _=some 190 by kernel_rfl));obtain ⟨vR,hR,iR⟩:=sP Tryz.underlying190 hd3;obtain ⟨vS,hS,iS⟩:=sP Tryz.underlying190 hd4;have hT:=MU (zs:=Lib.pow10Tab) Tryz.underlying336 Tryz.underlying178 (by kernel_rfl) (by kernel_rfl) (hd2.trans (show _=some (DataW.agg (Lib.pow10Tab.map fun z=>.lit (.int .u64 z)),p2) by kernel_rfl));exact RV hg4 hv4 hS iS hg3 hv3 hR iR hg2 hv2 hT
 obtain ⟨m,hm⟩:=cell_of_shapedOpen_int (P:=Tryz.prog) (g:=0) (t:=3) (zero:=#[.int .i64 0]) hs (of_decide_eq_true (by kernel_rfl)) (by kernel_rfl) rfl (by kernel_rfl) (by kernel_rfl) Tryz.underlying3;exact ⟨m,zM hm⟩
theorem aGg (os:Os):laidMetH Tryz.prog pJ ((World.laidAll Tryz.prog os pJ).forCall (fun _ _=>0) ⟨#[],#[.slice none 0 0,.int .u8 0,.int .u8 0],[]⟩).memory:=by
 rw [MakeChecks.laidMetH_plain _ _ _ (by kernel_rfl)];exact laidMet_laidAll _ (by kernel_rfl) (by kernel_rfl)
set_option maxRecDepth 100000 in
theorem KF (os:Os) (started:os.Started) (H:Type) (enc:TypeId×Value→H) :
  ReturnsInHanded {} Tryz.checked os 5 .any (fun w args=>(Rows.deskFreeSpec.pre enc Tryz.prog Tryz.f5 [] false w args∧laidMetH Tryz.prog pJ w)∧sizedMet enc Tryz.prog Tryz.f5 (OpenSpec.ofChange Rows.deskFreeSpec) false w args)
   (Rows.deskFreeSpec.post enc Tryz.prog Tryz.f5 false true false false):=by
 refine YN (C:=Tryz.checked) (X:=fun w=>laidMetH Tryz.prog pJ w) (fun _ _ hh h=>h.of_heap hh) aGf started (by kernel_rfl) Tryz.func5
  (ChangeSpec.witness_shaped (enc:=enc) (C:=Tryz.checked) (os:=os) (X:=fun w _=>laidMetH Tryz.prog pJ w) false (World.laidAll Tryz.prog os pJ) #[.slice none 0 0,.int .u8 0,.int .u8 0] 8 (World.laidAll_os _ _ _) (World.shaped_of_ZipB (by kernel_rfl) (by kernel_rfl)) (by kernel_rfl) (by kernel_rfl) (by kernel_rfl) (aGg os)) ?_
 intro W base args ds gs before hval0 hW hwt hL hsh;have hval:∀ (j:Nat) t v,Tryz.f5.params[j]?=some t→args[j]?=some v→Value.okWide Tryz.prog W .any base t v:=hval0;have hW1:=hW;obtain ⟨p,q,hA0,hV,rfl,hfz,hnd⟩:=hW;have hA:DataW.TrodAll enc Tryz.prog W 0 (fun _=>true) true Tryz.f5.params.toList args.toList ds p:=hA0;rw [Tryz.params5] at hA hval;obtain ⟨v0,vs0,d0,ds0,p0,p0_,e0,rfl,rfl,h0,hA0⟩:=trodAll_cons hA;obtain ⟨v1,vs1,d1,ds1,p1,p1_,e1,rfl,rfl,h1,hA1⟩:=trodAll_cons hA0;subst e1;obtain ⟨v2,vs2,d2,ds2,p2,p2_,e2,rfl,rfl,h2,hA2⟩:=trodAll_cons hA1;subst e2;obtain ⟨en,rfl,rfl⟩:=trodAll_nil hA2;subst en;obtain rfl:args = #[v0,v1,v2]:=by cases args;simp_all
 obtain ⟨x0,⟨ad0,cap0,e0,r0⟩,o0⟩:=vA (R:=(sG (aG cE) 1)) (ok:=(okL ((fun s:aF=>s.length≤maxLen)))) (BX Tryz.underlying22 (by kernel_rfl) (by decide) (zJ Tryz.underlying9 (by kernel_rfl))) (hval 0 22 _ rfl rfl) (nsl Tryz.underlying22 (hval 0 22 _ rfl rfl)) h0;cases e0;obtain ⟨x1,e1,o1⟩:=vA (R:=(aG (Pk.bT .u8))) (ok:=(BU .u8)) (BW Tryz.underlying5 (by kernel_rfl)) (hval 1 5 _ rfl rfl) (RU Tryz.underlying5 (hval 1 5 _ rfl rfl)) h1;cases e1;obtain ⟨x2,e2,o2⟩:=vA (R:=(aG (Pk.bT .u8))) (ok:=(BU .u8)) (BW Tryz.underlying5 (by kernel_rfl)) (hval 2 5 _ rfl rfl) (RU Tryz.underlying5 (hval 2 5 _ rfl rfl)) h2;cases e2;have hm:m5 x0 x1 x2=some true:=aGe awk x0 x1 x2 o1 o2 o0;refine (w5 (M:=False) (Hp.le.refl (hp W)) (VU hL hsh) r0 x1 x2 hm).mono fun e W2 he=>?_
 cases e with
 | returned u =>
  obtain ⟨rfl,hE⟩:=he;exact ⟨_,rfl,BY hW1 rfl GQ (by rw [Tryz.params5];decide +kernel) rfl rfl Tryz.underlying4 hE⟩
 | panicked c=>exact he.elim
 | outgrown=>exact he.elim
theorem said5:Rows.DeskFreeSaid :=
 OpenClaim.holds_of_wide 5 Tryz.f5 rfl rfl rfl rfl rfl rfl rfl ⟨rfl,rfl,rfl,rfl,rfl⟩ rfl rfl rfl rfl rfl (by as_aux_lemma=>kernel_rfl) Tryz.func5 (by unfold joinedFacts;(repeat' (with_reducible refine Pk.RY ?_ ?_));all_goals (as_aux_lemma=>kernel_rfl))
  (of_decide_eq_true (by kernel_rfl)) (by unfold Func.isWrapper;first | (rw [if_pos (by decide +kernel)];kernel_rfl) | (rw [if_neg (by decide +kernel)];exact ⟨rfl,rfl⟩))
  (fun os started H enc _=>KF os started H enc)
theorem card5:Rows.DeskFreeCardSaid :=
 Claim7.holds_tied_plain_at .later [] [.data, .data, .data, .sentinel, .sentinel] true (true, "a67339787055d185c0a9da2e3cf4b1b6a0f16e336d3af7934678ac25c28c3e44") true
  said5 (fun _ h=>by cases h) (by as_aux_lemma=>kernel_rfl) (fun _ h=>by cases h) deskFree_row_tie rfl ⟨rfl,rfl⟩ (by as_aux_lemma=>kernel_rfl) rfl
  (fun f fn hf hfn=>by
   obtain rfl:f=5:=Option.some.inj ((show Tryz.prog.funcNamed Tryz.f5.name=some 5 by as_aux_lemma=>kernel_rfl).symm.trans hf) |>.symm;obtain rfl:fn=Tryz.f5:=(Option.some.inj (Tryz.func5.symm.trans hfn)).symm
   exact ⟨by as_aux_lemma=>kernel_rfl,fun j t ht=>by
    rw [Tryz.params5] at ht;have hm:t∈[22,5,5]:=by simpa using Array.mem_of_getElem? ht
    have hall:([22,5,5].all fun u=>!Tryz.prog.wantsStandIn u)=true:=by kernel_rfl
    exact (show Tryz.prog.wantsStandIn t=false by simpa using List.all_eq_true.1 hall t hm)⟩)
  (by as_aux_lemma=>kernel_rfl)
#print axioms card5
end Go.Proofs.YtaandmcgkjciiaaGreatDoor
