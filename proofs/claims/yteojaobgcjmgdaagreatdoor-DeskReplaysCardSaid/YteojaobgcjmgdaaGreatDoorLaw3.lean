/-
  For every input DeskReplays answers true,and each argument reads afterwards as it did;the listed package variables are tied to the program text.
-/
import Derived.Test.YteojaobgcjmgdaaGreatDoorWalkD
import Derived.Test.YteojaobgcjmgdaaGreatDoorPlain
import Derived.Test.YteojaobgcjmgdaaGreatDoorRows
import Derived.Test.YteojaobgcjmgdaaGreatDoorCards
import Derived.Test.YteojaobgcjmgdaaGreatDoorTie
import Derived.SevenTiedAt
import Derived.Lay
set_option linter.all false
set_option maxHeartbeats 4000000
namespace T12
open Go Go.Proofs Pk Go.RowKit Go.ChangeShapes Go.WideShapes
end T12
namespace Go.Proofs.YteojaobgcjmgdaaGreatDoor
open Go Pk T12 Go.RowKit Go.ChangeShapes Go.WideShapes Go.ChangeAt Go.WideMaps Go.WideElems
theorem aHf:ownKnob Tryz.prog.godebug=none:=by kernel_rfl
theorem HO:laidOutB Tryz.prog=true:=by kernel_rfl
def qG:List (String×DataW Unit):=Rows.deskReplaysRow.laid
theorem XT {W:World} (h:laidMetH Tryz.prog qG W) (hs:W.ShapedOpen Tryz.prog):Gv False (hp W):=by
 refine ⟨?_,?_⟩
 ·rw [MakeChecks.laidMetH_plain _ _ _ (by kernel_rfl)] at h;obtain ⟨ps,⟨g0,t0,cs0,f0,p0,q0,hg0,ht0,hv0,hd0,⟨g1,t1,cs1,f1,p1,q1,hg1,ht1,hv1,hd1,⟨g2,t2,cs2,f2,p2,q2,hg2,ht2,hv2,hd2,⟨g3,t3,cs3,f3,p3,q3,hg3,ht3,hv3,hd3,⟨g4,t4,cs4,f4,p4,q4,hg4,ht4,hv4,hd4,_,_⟩,_⟩,_⟩,_⟩,_⟩,_,_⟩:=h;obtain rfl:=Option.some.inj (hg2.symm.trans (show _=some 0 by kernel_rfl));obtain rfl:=Option.some.inj (hg3.symm.trans (show _=some 3 by kernel_rfl));obtain rfl:=Option.some.inj (hg4.symm.trans (show _=some 2 by kernel_rfl));obtain rfl:=Option.some.inj (ht2.symm.trans (show _=some 206 by kernel_rfl));obtain rfl:=Option.some.inj (ht3.symm.trans (show _=some 73 by kernel_rfl));obtain rfl:=Option.some.inj (ht4.symm.trans (show _=some 73 by kernel_rfl));obtain ⟨vR,hR,iR⟩:=tV Tryz.underlying73 hd3;obtain ⟨vS,hS,iS⟩:=tV Tryz.underlying73 hd4;have hT:=ON (zs:=Lib.pow10Tab) Tryz.underlying206 Tryz.underlying162 (by kernel_rfl) (by kernel_rfl) (hd2.trans (show _=some (DataW.agg (Lib.pow10Tab.map fun z=>.lit (.int .u64 z)),p2) by kernel_rfl));exact SP hg4 hv4 hS iS hg3 hv3 hR iR hg2 hv2 hT
 obtain ⟨m,hm⟩:=cell_of_shapedOpen_int (P:=Tryz.prog) (g:=1) (t:=3) (zero:=#[.int .i64 0]) hs (of_decide_eq_true (by kernel_rfl)) (by kernel_rfl) rfl (by kernel_rfl) (by kernel_rfl) Tryz.underlying3;exact ⟨m,AD hm⟩
theorem aHg (os:Os):laidMetH Tryz.prog qG ((World.laidAll Tryz.prog os qG).forCall (fun _ _=>0) ⟨#[],#[.slice none 0 0],[]⟩).memory:=by
 rw [MakeChecks.laidMetH_plain _ _ _ (by kernel_rfl)];exact laidMet_laidAll _ (by kernel_rfl) (by kernel_rfl)
set_option maxRecDepth 100000 in
theorem LZ (os:Os) (started:os.Started) (H:Type) (enc:TypeId×Value→H) :
  ReturnsInHanded {} Tryz.checked os 3 .any (fun w args=>(Rows.deskReplaysSpec.pre enc Tryz.prog Tryz.f3 [] false w args∧laidMetH Tryz.prog qG w)∧sizedMet enc Tryz.prog Tryz.f3 (OpenSpec.ofChange Rows.deskReplaysSpec) false w args)
   (Rows.deskReplaysSpec.post enc Tryz.prog Tryz.f3 false true false false):=by
 refine ZW (C:=Tryz.checked) (X:=fun w=>laidMetH Tryz.prog qG w) (fun _ _ hh h=>h.of_heap hh) aHf started (by kernel_rfl) Tryz.func3
  (ChangeSpec.witness_shaped (enc:=enc) (C:=Tryz.checked) (os:=os) (X:=fun w _=>laidMetH Tryz.prog qG w) false (World.laidAll Tryz.prog os qG) #[.slice none 0 0] 8 (World.laidAll_os _ _ _) (World.shaped_of_ZipB (by kernel_rfl) (by kernel_rfl)) (by kernel_rfl) (by kernel_rfl) (by kernel_rfl) (aHg os)) ?_
 intro W base args ds gs before hval0 hW hwt hL hsh;have hval:∀ (j:Nat) t v,Tryz.f3.params[j]?=some t→args[j]?=some v→Value.okWide Tryz.prog W .any base t v:=hval0;have hW1:=hW;obtain ⟨p,q,hA0,hV,rfl,hfz,hnd⟩:=hW;have hA:DataW.TrodAll enc Tryz.prog W 0 (fun _=>true) true Tryz.f3.params.toList args.toList ds p:=hA0;rw [Tryz.params3] at hA hval;obtain ⟨v0,vs0,d0,ds0,p0,p0_,e0,rfl,rfl,h0,hA0⟩:=trodAll_cons hA;obtain ⟨en,rfl,rfl⟩:=trodAll_nil hA0;subst en;obtain rfl:args = #[v0]:=by cases args;simp_all
 obtain ⟨x0,⟨ad0,cap0,e0,r0⟩,o0⟩:=OM (R:=(tL (aE cC) 1)) (ok:=(okL ((fun s:aF=>s.length≤maxLen)))) (CQ Tryz.underlying22 (by kernel_rfl) (by decide) (AB Tryz.underlying9 (by kernel_rfl))) (hval 0 22 _ rfl rfl) (nsl Tryz.underlying22 (hval 0 22 _ rfl rfl)) h0;cases e0;have hm:m3 x0=some true:=XS awk x0 o0;refine (w3 (M:=False) (Hp.le.refl (hp W)) (XT hL hsh) r0 hm).mono fun e W2 he=>?_
 cases e with
 | returned u =>
  obtain ⟨rfl,hE⟩:=he;exact ⟨_,rfl,CR hW1 rfl HO (by rw [Tryz.params3];decide +kernel) rfl rfl Tryz.underlying4 hE⟩
 | panicked c=>exact he.elim
 | outgrown=>exact he.elim
theorem said3:Rows.DeskReplaysSaid :=
 OpenClaim.holds_of_wide 3 Tryz.f3 rfl rfl rfl rfl rfl rfl rfl ⟨rfl,rfl,rfl,rfl,rfl⟩ rfl rfl rfl rfl rfl (by as_aux_lemma=>kernel_rfl) Tryz.func3 (by unfold joinedFacts;(repeat' (with_reducible refine Pk.SS ?_ ?_));all_goals (as_aux_lemma=>kernel_rfl))
  (of_decide_eq_true (by kernel_rfl)) (by unfold Func.isWrapper;first | (rw [if_pos (by decide +kernel)];kernel_rfl) | (rw [if_neg (by decide +kernel)];exact ⟨rfl,rfl⟩))
  (fun os started H enc _=>LZ os started H enc)
theorem card3:Rows.DeskReplaysCardSaid :=
 Claim7.holds_tied_plain_at .later [] [.data, .data, .data, .sentinel, .sentinel] true (true, "662bd0d110710f66fef83378b2520d5166ff9b99ee10893e210678770a19aae4") true
  said3 (fun _ h=>by cases h) (by as_aux_lemma=>kernel_rfl) (fun _ h=>by cases h) deskReplays_row_tie rfl ⟨rfl,rfl⟩ (by as_aux_lemma=>kernel_rfl) rfl
  (fun f fn hf hfn=>by
   obtain rfl:f=3:=Option.some.inj ((show Tryz.prog.funcNamed Tryz.f3.name=some 3 by as_aux_lemma=>kernel_rfl).symm.trans hf) |>.symm;obtain rfl:fn=Tryz.f3:=(Option.some.inj (Tryz.func3.symm.trans hfn)).symm
   exact ⟨by as_aux_lemma=>kernel_rfl,fun j t ht=>by
    rw [Tryz.params3] at ht;have hm:t∈[22]:=by simpa using Array.mem_of_getElem? ht
    have hall:([22].all fun u=>!Tryz.prog.wantsStandIn u)=true:=by kernel_rfl
    exact (show Tryz.prog.wantsStandIn t=false by simpa using List.all_eq_true.1 hall t hm)⟩)
  (by as_aux_lemma=>kernel_rfl)
#print axioms card3
end Go.Proofs.YteojaobgcjmgdaaGreatDoor
