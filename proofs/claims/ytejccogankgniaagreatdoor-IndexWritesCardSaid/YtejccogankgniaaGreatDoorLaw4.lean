/-
  For every input IndexWrites answers true,and each argument reads afterwards as it did;the listed package variables are tied to the program text.
-/
import Derived.Test.YtejccogankgniaaGreatDoorWalkC
import Derived.Test.YtejccogankgniaaGreatDoorPlain
import Derived.Test.YtejccogankgniaaGreatDoorRows
import Derived.Test.YtejccogankgniaaGreatDoorCards
import Derived.Test.YtejccogankgniaaGreatDoorTie
import Derived.SevenTiedAt
import Derived.Lay
set_option linter.all false
set_option maxHeartbeats 4000000
namespace T11
open Go Go.Proofs Pk Go.RowKit Go.ChangeShapes Go.WideShapes
def QY (x:aH):Prop:=(sM .i64) x.aM∧(sM .i64) x.aV∧(sM .i64) x.cM
theorem aDj (w:World):AS Tryz.prog w 55 3 (aS aJ) QY:=by
 refine ⟨by kernel_rfl,fun {H} enc base sp held fuel cs x h=>?_⟩;obtain ⟨hl,fuel2,hf⟩:=pZ Tryz.underlying55 h;have hl:cs.length=3:=hl.trans (by kernel_rfl);obtain ⟨y0,h0⟩:=hf _ (List.mem_of_getElem? (i:=0) rfl);have g0:AS Tryz.prog w 3 1 (aS (Pk.wG .i64)) (sM .i64):=(wN Tryz.underlying3 (by kernel_rfl));have h0:DataW.trod enc Tryz.prog w base sp held fuel2 3 ((cs.drop 0).take (Tryz.prog.cellsOf 3))=some y0:=h0;rw [g0.1] at h0;obtain ⟨_,a0,r0,o0⟩:=g0.2 enc base sp held fuel2 _ _ h0;obtain ⟨y1,h1⟩:=hf _ (List.mem_of_getElem? (i:=1) rfl);have g1:AS Tryz.prog w 3 1 (aS (Pk.wG .i64)) (sM .i64):=(wN Tryz.underlying3 (by kernel_rfl));have h1:DataW.trod enc Tryz.prog w base sp held fuel2 3 ((cs.drop 1).take (Tryz.prog.cellsOf 3))=some y1:=h1;rw [g1.1] at h1;obtain ⟨_,a1,r1,o1⟩:=g1.2 enc base sp held fuel2 _ _ h1;obtain ⟨y2,h2⟩:=hf _ (List.mem_of_getElem? (i:=2) rfl);have g2:AS Tryz.prog w 3 1 (aS (Pk.wG .i64)) (sM .i64):=(wN Tryz.underlying3 (by kernel_rfl));have h2:DataW.trod enc Tryz.prog w base sp held fuel2 3 ((cs.drop 2).take (Tryz.prog.cellsOf 3))=some y2:=h2;rw [g2.1] at h2;obtain ⟨_,a2,r2,o2⟩:=g2.2 enc base sp held fuel2 _ _ h2;have e:cs=[(cs.drop 0).take 1,(cs.drop 1).take 1,(cs.drop 2).take 1].flatten:=BD cs [1,1,1] 0 (by rw [hl];rfl);have q0:(cs.drop 0).take 1=_:=r0;rw [q0] at e;have q1:(cs.drop 1).take 1=_:=r1;rw [q1] at e;have q2:(cs.drop 2).take 1=_:=r2;rw [q2] at e;exact ⟨hl,⟨a0,a1,a2⟩,e,o0,o1,o2⟩
def WZ (x:aB):Prop:=((fun s:aA=>s.length≤maxLen)) x.name∧(KI ((fun s:aA=>s.length≤maxLen))) x.aC∧(KI ((fun s:aA=>s.length≤maxLen))) x.aO∧(KI (QY)) x.aG
theorem aDk (w:World):AS Tryz.prog w 53 4 (aI) WZ:=by
 refine ⟨by kernel_rfl,fun {H} enc base sp held fuel cs x h=>?_⟩;obtain ⟨hl,fuel2,hf⟩:=pZ Tryz.underlying53 h;have hl:cs.length=4:=hl.trans (by kernel_rfl);obtain ⟨y0,h0⟩:=hf _ (List.mem_of_getElem? (i:=0) rfl);have g0:AS Tryz.prog w 9 1 (aS aN) ((fun s:aA=>s.length≤maxLen)):=(oW Tryz.underlying9 (by kernel_rfl));have h0:DataW.trod enc Tryz.prog w base sp held fuel2 9 ((cs.drop 0).take (Tryz.prog.cellsOf 9))=some y0:=h0;rw [g0.1] at h0;obtain ⟨_,a0,r0,o0⟩:=g0.2 enc base sp held fuel2 _ _ h0;obtain ⟨y1,h1⟩:=hf _ (List.mem_of_getElem? (i:=1) rfl);have g1:AS Tryz.prog w 50 1 (sF (aS aN) 1) (KI ((fun s:aA=>s.length≤maxLen))):=(kK Tryz.underlying50 (by kernel_rfl) (by decide) (oW Tryz.underlying9 (by kernel_rfl)));have h1:DataW.trod enc Tryz.prog w base sp held fuel2 50 ((cs.drop 1).take (Tryz.prog.cellsOf 50))=some y1:=h1;rw [g1.1] at h1;obtain ⟨_,a1,r1,o1⟩:=g1.2 enc base sp held fuel2 _ _ h1;obtain ⟨y2,h2⟩:=hf _ (List.mem_of_getElem? (i:=2) rfl);have g2:AS Tryz.prog w 50 1 (sF (aS aN) 1) (KI ((fun s:aA=>s.length≤maxLen))):=(kK Tryz.underlying50 (by kernel_rfl) (by decide) (oW Tryz.underlying9 (by kernel_rfl)));have h2:DataW.trod enc Tryz.prog w base sp held fuel2 50 ((cs.drop 2).take (Tryz.prog.cellsOf 50))=some y2:=h2;rw [g2.1] at h2;obtain ⟨_,a2,r2,o2⟩:=g2.2 enc base sp held fuel2 _ _ h2;obtain ⟨y3,h3⟩:=hf _ (List.mem_of_getElem? (i:=3) rfl);have g3:AS Tryz.prog w 51 1 (sF (aS aJ) 3) (KI (QY)):=(kK Tryz.underlying51 (by kernel_rfl) (by decide) (aDj _));have h3:DataW.trod enc Tryz.prog w base sp held fuel2 51 ((cs.drop 3).take (Tryz.prog.cellsOf 51))=some y3:=h3;rw [g3.1] at h3;obtain ⟨_,a3,r3,o3⟩:=g3.2 enc base sp held fuel2 _ _ h3;have e:cs=[(cs.drop 0).take 1,(cs.drop 1).take 1,(cs.drop 2).take 1,(cs.drop 3).take 1].flatten:=BD cs [1,1,1,1] 0 (by rw [hl];rfl);have q0:(cs.drop 0).take 1=_:=r0;rw [q0] at e;obtain ⟨ad1,cap1,q1,f1⟩:=r1;rw [q1] at e;obtain ⟨rB,cap2,q2,f2⟩:=r2;rw [q2] at e;obtain ⟨RF,cap3,q3,f3⟩:=r3;rw [q3] at e;exact ⟨hl,⟨a0,a1,a2,a3⟩,⟨ad1,cap1,rB,cap2,RF,cap3,e,f1,f2,f3⟩,o0,o1,o2,o3⟩
end T11
namespace Go.Proofs.YtejccogankgniaaGreatDoor
open Go Pk T11 Go.RowKit Go.ChangeShapes Go.WideShapes Go.ChangeAt Go.WideMaps Go.WideElems
theorem aDl:ownKnob Tryz.prog.godebug=none:=by kernel_rfl
theorem IX:laidOutB Tryz.prog=true:=by kernel_rfl
def uG:List (String×DataW Unit):=Rows.indexWritesRow.laid
theorem XA {W:World} (h:laidMetH Tryz.prog uG W) (hs:W.ShapedOpen Tryz.prog):Gv False (hp W):=by
 refine ⟨?_,?_⟩
 ·rw [MakeChecks.laidMetH_plain _ _ _ (by kernel_rfl)] at h;obtain ⟨ps,⟨g0,t0,cs0,f0,p0,q0,hg0,ht0,hv0,hd0,⟨g1,t1,cs1,f1,p1,q1,hg1,ht1,hv1,hd1,⟨g2,t2,cs2,f2,p2,q2,hg2,ht2,hv2,hd2,⟨g3,t3,cs3,f3,p3,q3,hg3,ht3,hv3,hd3,⟨g4,t4,cs4,f4,p4,q4,hg4,ht4,hv4,hd4,⟨g5,t5,cs5,f5,p5,q5,hg5,ht5,hv5,hd5,⟨g6,t6,cs6,f6,p6,q6,hg6,ht6,hv6,hd6,_,_⟩,_⟩,_⟩,_⟩,_⟩,_⟩,_⟩,_,_⟩:=h;obtain rfl:=Option.some.inj (hg2.symm.trans (show _=some 5 by kernel_rfl));obtain rfl:=Option.some.inj (hg4.symm.trans (show _=some 4 by kernel_rfl));obtain rfl:=Option.some.inj (hg5.symm.trans (show _=some 3 by kernel_rfl));obtain rfl:=Option.some.inj (ht2.symm.trans (show _=some 255 by kernel_rfl));obtain rfl:=Option.some.inj (ht4.symm.trans (show _=some 149 by kernel_rfl));obtain rfl:=Option.some.inj (ht5.symm.trans (show _=some 149 by kernel_rfl));obtain ⟨vR,hR,iR⟩:=yU Tryz.underlying149 hd4;obtain ⟨vS,hS,iS⟩:=yU Tryz.underlying149 hd5;have hT:=OF (zs:=Lib.pow10Tab) Tryz.underlying255 Tryz.underlying178 (by kernel_rfl) (by kernel_rfl) (hd2.trans (show _=some (DataW.agg (Lib.pow10Tab.map fun z=>.lit (.int .u64 z)),p2) by kernel_rfl));exact SY hg5 hv5 hS iS hg4 hv4 hR iR hg2 hv2 hT
 obtain ⟨m,hm⟩:=cell_of_shapedOpen_int (P:=Tryz.prog) (g:=0) (t:=3) (zero:=#[.int .i64 0]) hs (of_decide_eq_true (by kernel_rfl)) (by kernel_rfl) rfl (by kernel_rfl) (by kernel_rfl) Tryz.underlying3;exact ⟨m,EV hm⟩
theorem aDm (os:Os):laidMetH Tryz.prog uG ((World.laidAll Tryz.prog os uG).forCall (fun _ _=>0) ⟨#[],#[.slice none 0 0,.slice none 0 0],[]⟩).memory:=by
 rw [MakeChecks.laidMetH_plain _ _ _ (by kernel_rfl)];exact laidMet_laidAll _ (by kernel_rfl) (by kernel_rfl)
set_option maxRecDepth 100000 in
theorem MB (os:Os) (started:os.Started) (H:Type) (enc:TypeId×Value→H) :
  ReturnsInHanded {} Tryz.checked os 4 .any (fun w args=>(Rows.indexWritesSpec.pre enc Tryz.prog Tryz.f4 [] false w args∧laidMetH Tryz.prog uG w)∧sizedMet enc Tryz.prog Tryz.f4 (OpenSpec.ofChange Rows.indexWritesSpec) false w args)
   (Rows.indexWritesSpec.post enc Tryz.prog Tryz.f4 false true false false):=by
 refine ZA (C:=Tryz.checked) (X:=fun w=>laidMetH Tryz.prog uG w) (fun _ _ hh h=>h.of_heap hh) aDl started (by kernel_rfl) Tryz.func4
  (ChangeSpec.witness_shaped (enc:=enc) (C:=Tryz.checked) (os:=os) (X:=fun w _=>laidMetH Tryz.prog uG w) false (World.laidAll Tryz.prog os uG) #[.slice none 0 0,.slice none 0 0] 8 (World.laidAll_os _ _ _) (World.shaped_of_ZipB (by kernel_rfl) (by kernel_rfl)) (by kernel_rfl) (by kernel_rfl) (by kernel_rfl) (aDm os)) ?_
 intro W base args ds gs before hval0 hW hwt hL hsh;have hval:∀ (j:Nat) t v,Tryz.f4.params[j]?=some t→args[j]?=some v→Value.okWide Tryz.prog W .any base t v:=hval0;have hW1:=hW;obtain ⟨p,q,hA0,hV,rfl,hfz,hnd⟩:=hW;have hA:DataW.TrodAll enc Tryz.prog W 0 (fun _=>true) true Tryz.f4.params.toList args.toList ds p:=hA0;rw [Tryz.params4] at hA hval;obtain ⟨v0,vs0,d0,ds0,p0,p0_,e0,rfl,rfl,h0,hA0⟩:=trodAll_cons hA;obtain ⟨v1,vs1,d1,ds1,p1,p1_,e1,rfl,rfl,h1,hA1⟩:=trodAll_cons hA0;subst e1;obtain ⟨en,rfl,rfl⟩:=trodAll_nil hA1;subst en;obtain rfl:args = #[v0,v1]:=by cases args;simp_all
 obtain ⟨x0,⟨ad0,cap0,e0,r0⟩,o0⟩:=GX (R:=(sF (aI) 4)) (ok:=(KI (WZ))) (kK Tryz.underlying25 (by kernel_rfl) (by decide) (aDk _)) (hval 0 25 _ rfl rfl) (nsl Tryz.underlying25 (hval 0 25 _ rfl rfl)) h0;cases e0;obtain ⟨x1,⟨ad1,cap1,e1,r1⟩,o1⟩:=GX (R:=(sF (aS cN) 1)) (ok:=(KI (okT))) (kK Tryz.underlying37 (by kernel_rfl) (by decide) (KJ Tryz.underlying5 (by kernel_rfl))) (hval 1 37 _ rfl rfl) (nsl Tryz.underlying37 (hval 1 37 _ rfl rfl)) h1;cases e1;have hm:m4 x0 x1=some true:=aCt awk x0 x1;refine (w4 (M:=False) (Hp.le.refl (hp W)) (XA hL hsh) r0 r1 hm).mono fun e W2 he=>?_
 cases e with
 | returned u =>
  obtain ⟨rfl,hE⟩:=he;exact ⟨_,rfl,GY hW1 rfl IX (by rw [Tryz.params4];decide +kernel) rfl rfl Tryz.underlying4 hE⟩
 | panicked c=>exact he.elim
 | outgrown=>exact he.elim
theorem said4:Rows.IndexWritesSaid :=
 OpenClaim.holds_of_wide 4 Tryz.f4 rfl rfl rfl rfl rfl rfl rfl ⟨rfl,rfl,rfl,rfl,rfl⟩ rfl rfl rfl rfl rfl (by as_aux_lemma=>kernel_rfl) Tryz.func4 (by unfold joinedFacts;(repeat' (with_reducible refine Pk.TB ?_ ?_));all_goals (as_aux_lemma=>kernel_rfl))
  (of_decide_eq_true (by kernel_rfl)) (by unfold Func.isWrapper;first | (rw [if_pos (by decide +kernel)];kernel_rfl) | (rw [if_neg (by decide +kernel)];exact ⟨rfl,rfl⟩))
  (fun os started H enc _=>MB os started H enc)
theorem card4:Rows.IndexWritesCardSaid :=
 Claim7.holds_tied_plain_at .later [] [.data, .data, .data, .data, .sentinel, .sentinel, .pinned] true (true, "8560fcf8dd08595597f7da9e8cac75596f6de4f674c249afd6e8f1d0b53ad774") true
  said4 (fun _ h=>by cases h) (by as_aux_lemma=>kernel_rfl) (fun _ h=>by cases h) indexWrites_row_tie rfl ⟨rfl,rfl⟩ (by as_aux_lemma=>kernel_rfl) rfl
  (fun f fn hf hfn=>by
   obtain rfl:f=4:=Option.some.inj ((show Tryz.prog.funcNamed Tryz.f4.name=some 4 by as_aux_lemma=>kernel_rfl).symm.trans hf) |>.symm;obtain rfl:fn=Tryz.f4:=(Option.some.inj (Tryz.func4.symm.trans hfn)).symm
   exact ⟨by as_aux_lemma=>kernel_rfl,fun j t ht=>by
    rw [Tryz.params4] at ht;have hm:t∈[25,37]:=by simpa using Array.mem_of_getElem? ht
    have hall:([25,37].all fun u=>!Tryz.prog.wantsStandIn u)=true:=by kernel_rfl
    exact (show Tryz.prog.wantsStandIn t=false by simpa using List.all_eq_true.1 hall t hm)⟩)
  (by as_aux_lemma=>kernel_rfl)
#print axioms card4
end Go.Proofs.YtejccogankgniaaGreatDoor
