/-
  For every input DeskNames answers true,and each argument reads afterwards as it did;the listed package variables are tied to the program text.
-/
import Derived.Test.YtbjagcngeobfpaaGreatDoorWalkD
import Derived.Test.YtbjagcngeobfpaaGreatDoorPlain
import Derived.Test.YtbjagcngeobfpaaGreatDoorRows
import Derived.Test.YtbjagcngeobfpaaGreatDoorCards
import Derived.Test.YtbjagcngeobfpaaGreatDoorTie
import Derived.SevenTiedAt
import Derived.Lay
set_option linter.all false
set_option maxHeartbeats 4000000
namespace T12
open Go Go.Proofs Pk Go.RowKit Go.ChangeShapes Go.WideShapes
end T12
namespace Go.Proofs.YtbjagcngeobfpaaGreatDoor
open Go Pk T12 Go.RowKit Go.ChangeShapes Go.WideShapes Go.ChangeAt Go.WideMaps Go.WideElems
theorem aEq:ownKnob Tryz.prog.godebug=none:=by kernel_rfl
theorem AI:laidOutB Tryz.prog=true:=by kernel_rfl
def oG:List (String×DataW Unit):=Rows.deskNamesRow.laid
theorem RI {W:World} (h:laidMetH Tryz.prog oG W) (hs:W.ShapedOpen Tryz.prog):Gv False (hp W):=by
 refine ⟨?_,?_⟩
 ·rw [MakeChecks.laidMetH_plain _ _ _ (by kernel_rfl)] at h;obtain ⟨ps,⟨g0,t0,cs0,f0,p0,q0,hg0,ht0,hv0,hd0,⟨g1,t1,cs1,f1,p1,q1,hg1,ht1,hv1,hd1,⟨g2,t2,cs2,f2,p2,q2,hg2,ht2,hv2,hd2,⟨g3,t3,cs3,f3,p3,q3,hg3,ht3,hv3,hd3,⟨g4,t4,cs4,f4,p4,q4,hg4,ht4,hv4,hd4,_,_⟩,_⟩,_⟩,_⟩,_⟩,_,_⟩:=h;obtain rfl:=Option.some.inj (hg2.symm.trans (show _=some 0 by kernel_rfl));obtain rfl:=Option.some.inj (hg3.symm.trans (show _=some 3 by kernel_rfl));obtain rfl:=Option.some.inj (hg4.symm.trans (show _=some 2 by kernel_rfl));obtain rfl:=Option.some.inj (ht2.symm.trans (show _=some 238 by kernel_rfl));obtain rfl:=Option.some.inj (ht3.symm.trans (show _=some 103 by kernel_rfl));obtain rfl:=Option.some.inj (ht4.symm.trans (show _=some 103 by kernel_rfl));obtain ⟨vR,hR,iR⟩:=rA Tryz.underlying103 hd3;obtain ⟨vS,hS,iS⟩:=rA Tryz.underlying103 hd4;have hT:=HF (zs:=Lib.pow10Tab) Tryz.underlying238 Tryz.underlying191 (by kernel_rfl) (by kernel_rfl) (hd2.trans (show _=some (DataW.agg (Lib.pow10Tab.map fun z=>.lit (.int .u64 z)),p2) by kernel_rfl));exact NP hg4 hv4 hS iS hg3 hv3 hR iR hg2 hv2 hT
 obtain ⟨m,hm⟩:=cell_of_shapedOpen_int (P:=Tryz.prog) (g:=1) (t:=3) (zero:=#[.int .i64 0]) hs (of_decide_eq_true (by kernel_rfl)) (by kernel_rfl) rfl (by kernel_rfl) (by kernel_rfl) Tryz.underlying3;exact ⟨m,uL hm⟩
theorem aEr (os:Os):laidMetH Tryz.prog oG ((World.laidAll Tryz.prog os oG).forCall (fun _ _=>0) ⟨#[],#[],[]⟩).memory:=by
 rw [MakeChecks.laidMetH_plain _ _ _ (by kernel_rfl)];exact laidMet_laidAll _ (by kernel_rfl) (by kernel_rfl)
set_option maxRecDepth 100000 in
theorem DR (os:Os) (started:os.Started) (H:Type) (enc:TypeId×Value→H) :
  ReturnsInHanded {} Tryz.checked os 4 .any (fun w args=>(Rows.deskNamesSpec.pre enc Tryz.prog Tryz.f4 [] false w args∧laidMetH Tryz.prog oG w)∧sizedMet enc Tryz.prog Tryz.f4 (OpenSpec.ofChange Rows.deskNamesSpec) false w args)
   (Rows.deskNamesSpec.post enc Tryz.prog Tryz.f4 false true false false):=by
 refine TX (C:=Tryz.checked) (X:=fun w=>laidMetH Tryz.prog oG w) (fun _ _ hh h=>h.of_heap hh) aEq started (by kernel_rfl) Tryz.func4
  (ChangeSpec.witness_shaped (enc:=enc) (C:=Tryz.checked) (os:=os) (X:=fun w _=>laidMetH Tryz.prog oG w) false (World.laidAll Tryz.prog os oG) #[] 8 (World.laidAll_os _ _ _) (World.shaped_of_ZipB (by kernel_rfl) (by kernel_rfl)) (by kernel_rfl) (by kernel_rfl) (by kernel_rfl) (aEr os)) ?_
 intro W base args ds gs before hval0 hW hwt hL hsh;have hval:∀ (j:Nat) t v,Tryz.f4.params[j]?=some t→args[j]?=some v→Value.okWide Tryz.prog W .any base t v:=hval0;have hW1:=hW;obtain ⟨p,q,hA0,hV,rfl,hfz,hnd⟩:=hW;have hA:DataW.TrodAll enc Tryz.prog W 0 (fun _=>true) true Tryz.f4.params.toList args.toList ds p:=hA0;rw [Tryz.params4] at hA hval;obtain ⟨en,rfl,rfl⟩:=trodAll_nil hA;obtain rfl:args = #[]:=by cases args;simp_all
 have hm:m4  = some true:=aEp;refine (w4 (M:=False) (Hp.le.refl (hp W)) (RI hL hsh)  hm).mono fun e W2 he=>?_
 cases e with
 | returned u =>
  obtain ⟨rfl,hE⟩:=he;exact ⟨_,rfl,wG hW1 rfl AI (by rw [Tryz.params4];decide +kernel) rfl rfl Tryz.underlying4 hE⟩
 | panicked c=>exact he.elim
 | outgrown=>exact he.elim
theorem said4:Rows.DeskNamesSaid :=
 OpenClaim.holds_of_wide 4 Tryz.f4 rfl rfl rfl rfl rfl rfl rfl ⟨rfl,rfl,rfl,rfl,rfl⟩ rfl rfl rfl rfl rfl (by as_aux_lemma=>kernel_rfl) Tryz.func4 (by unfold joinedFacts;(repeat' (with_reducible refine Pk.NS ?_ ?_));all_goals (as_aux_lemma=>kernel_rfl))
  (of_decide_eq_true (by kernel_rfl)) (by unfold Func.isWrapper;first | (rw [if_pos (by decide +kernel)];kernel_rfl) | (rw [if_neg (by decide +kernel)];exact ⟨rfl,rfl⟩))
  (fun os started H enc _=>DR os started H enc)
theorem card4:Rows.DeskNamesCardSaid :=
 Claim7.holds_tied_plain_at .later [] [.data, .data, .data, .sentinel, .sentinel] true (true, "897014cae85631198fe831af3144dd120e294b74cd1f0d2e5394e531a46fb793") true
  said4 (fun _ h=>by cases h) (by as_aux_lemma=>kernel_rfl) (fun _ h=>by cases h) deskNames_row_tie rfl ⟨rfl,rfl⟩ (by as_aux_lemma=>kernel_rfl) rfl
  (fun f fn hf hfn=>by
   obtain rfl:f=4:=Option.some.inj ((show Tryz.prog.funcNamed Tryz.f4.name=some 4 by as_aux_lemma=>kernel_rfl).symm.trans hf) |>.symm;obtain rfl:fn=Tryz.f4:=(Option.some.inj (Tryz.func4.symm.trans hfn)).symm
   exact ⟨by as_aux_lemma=>kernel_rfl,fun j t ht=>by
    rw [Tryz.params4] at ht;have hm:t∈([]:List TypeId):=by simpa using Array.mem_of_getElem? ht
    have hall:(([]:List TypeId).all fun u=>!Tryz.prog.wantsStandIn u)=true:=by kernel_rfl
    exact (show Tryz.prog.wantsStandIn t=false by simpa using List.all_eq_true.1 hall t hm)⟩)
  (by as_aux_lemma=>kernel_rfl)
#print axioms card4
end Go.Proofs.YtbjagcngeobfpaaGreatDoor
