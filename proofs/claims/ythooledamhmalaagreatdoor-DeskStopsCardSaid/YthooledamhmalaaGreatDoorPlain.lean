/-
  The plain laws: what the models of a session come to.
-/
import Derived.Test.YthooledamhmalaaGreatDoorMade
import Derived.Test.YthooledamhmalaaGreatDoorKitSix
set_option linter.all false
set_option maxRecDepth 100000
namespace T12
theorem NU:m4=some true:=by kernel_rfl
end T12
set_option maxHeartbeats 1000000
namespace T12
open Go Go.Proofs Pk
def dI (t:Bool) (d:Nat):Int:=if t then 7 - (d:Int) else (d:Int)
def D (t:Bool) (d:Nat):UInt8:=vE (48+dI t d)
def iT (k:Nat) (t:Bool):aE:=[D t (k/8/8/8%8),D t (k/8/8%8),D t (k/8%8),D t (k%8)]
def qU (k:Nat) (t:Bool):aE:=[D t (k/8/8/8/8/8%8),D t (k/8/8/8/8%8),D t (k/8/8/8%8),D t (k/8/8%8),D t (k/8%8),D t (k%8)]
theorem jW (t:Bool) (k i:Nat) (a:cK) (hk:k≤9000000) (hi:i≤5):oH t ((k:Int),(i:Int),a)=some (.inl (((k/8:Nat):Int),(i:Int) - 1,cK.set a i (48+dI t (k%8)))):=by
 unfold oH;dsimp only;have h8:((k:Int)%8)=((k%8:Nat):Int):=by omega
 have h9:k%8 < 8:=Nat.mod_lt _ (by decide);rw [if_pos (by omega),bP (by omega),h8];have hd:((if t=true then some (7 - ((k%8:Nat):Int)) else some ((k%8:Nat):Int)):Option Int)=some (dI t (k%8)):=by
  unfold dI;cases t <;> rfl
 rw [hd,Option.bind_some];have hb:0≤dI t (k%8)∧dI t (k%8)≤7:=by unfold dI;split <;> omega
 rw [bP (by omega),bP (by omega),bP (by omega),bP (by omega),bP (by omega)];rfl
theorem xV (t:Bool) (k:Int) (a:cK):oH t (k,-1,a)=some (.inr a):=by
 unfold oH;dsimp only;rw [if_neg (by decide)]
theorem MN (t:Bool) (d:Nat) (h:d < 8):0≤48+dI t d∧48+dI t d≤255:=by unfold dI;split <;> omega
theorem e4 (k:Nat) (t:Bool) (hk:k≤9000000):AF (k:Int) 4 t=some (iT k t):=by
 unfold AF;have m3:∀ n:Nat,n%8 < 8:=fun n=>Nat.mod_lt _ (by decide)
 rw [bP (by decide),show ((4:Int) - 1)=((3:Nat):Int) from rfl,bT (jW t k 3 _ (by omega) (by omega)),
  show (((3:Nat):Int) - 1)=((2:Nat):Int) from rfl,bT (jW t _ 2 _ (by omega) (by omega)),
  show (((2:Nat):Int) - 1)=((1:Nat):Int) from rfl,bT (jW t _ 1 _ (by omega) (by omega)),
  show (((1:Nat):Int) - 1)=((0:Nat):Int) from rfl,bT (jW t _ 0 _ (by omega) (by omega)),
  show (((0:Nat):Int) - 1) = -1 from rfl,cW (xV t _ _),Option.bind_some,bP,bP (by decide),bP (by decide)]
 ·rfl
 show ∀ v∈[48+dI t (k/8/8/8%8),48+dI t (k/8/8%8),48+dI t (k/8%8),48+dI t (k%8),0,0],0≤v∧v≤255;intro v hv;simp only [List.mem_cons,List.not_mem_nil,or_false] at hv;rcases hv with rfl | rfl | rfl | rfl | rfl | rfl <;> first | exact MN _ _ (m3 _) | decide
theorem e6 (k:Nat) (t:Bool) (hk:k≤9000000):AF (k:Int) 6 t=some (qU k t):=by
 unfold AF;have m3:∀ n:Nat,n%8 < 8:=fun n=>Nat.mod_lt _ (by decide)
 rw [bP (by decide),show ((6:Int) - 1)=((5:Nat):Int) from rfl,bT (jW t k 5 _ (by omega) (by omega)),
  show (((5:Nat):Int) - 1)=((4:Nat):Int) from rfl,bT (jW t _ 4 _ (by omega) (by omega)),
  show (((4:Nat):Int) - 1)=((3:Nat):Int) from rfl,bT (jW t _ 3 _ (by omega) (by omega)),
  show (((3:Nat):Int) - 1)=((2:Nat):Int) from rfl,bT (jW t _ 2 _ (by omega) (by omega)),
  show (((2:Nat):Int) - 1)=((1:Nat):Int) from rfl,bT (jW t _ 1 _ (by omega) (by omega)),
  show (((1:Nat):Int) - 1)=((0:Nat):Int) from rfl,bT (jW t _ 0 _ (by omega) (by omega)),
  show (((0:Nat):Int) - 1) = -1 from rfl,cW (xV t _ _),Option.bind_some,bP,bP (by decide),bP (by decide)]
 ·rfl
 show ∀ v∈[48+dI t (k/8/8/8/8/8%8),48+dI t (k/8/8/8/8%8),48+dI t (k/8/8/8%8),48+dI t (k/8/8%8),48+dI t (k/8%8),48+dI t (k%8)],0≤v∧v≤255;intro v hv;simp only [List.mem_cons,List.not_mem_nil,or_false] at hv;rcases hv with rfl | rfl | rfl | rfl | rfl | rfl <;> exact MN _ _ (m3 _)
theorem jX (t:Bool) (d e:Nat) (hd:d < 8) (he:e < 8) (h:D t d=D t e):d=e:=by
 have:∀ (t:Bool) (d e:Fin 8),D t d.1=D t e.1→d=e:=by decide
 exact congrArg Fin.val (this t ⟨d,hd⟩ ⟨e,he⟩ h)
theorem xW (k j:Nat) (t:Bool) (hk:k < 4096) (hj:j < 4096) (h:iT k t=iT j t):k=j:=by
 have m3:∀ n:Nat,n%8 < 8:=fun n=>Nat.mod_lt _ (by decide);simp only [iT,List.cons.injEq,and_true] at h;obtain ⟨h1,h2,h3,h4⟩:=h;have:=jX _ _ _ (m3 _) (m3 _) h1;have:=jX _ _ _ (m3 _) (m3 _) h2;have:=jX _ _ _ (m3 _) (m3 _) h3;have:=jX _ _ _ (m3 _) (m3 _) h4;omega
theorem xX (k j:Nat) (t:Bool) (hk:k < 262144) (hj:j < 262144) (h:qU k t=qU j t):k=j:=by
 have m3:∀ n:Nat,n%8 < 8:=fun n=>Nat.mod_lt _ (by decide);simp only [qU,List.cons.injEq,and_true] at h;obtain ⟨h1,h2,h3,h4,h5,h6⟩:=h;have:=jX _ _ _ (m3 _) (m3 _) h1;have:=jX _ _ _ (m3 _) (m3 _) h2;have:=jX _ _ _ (m3 _) (m3 _) h3;have:=jX _ _ _ (m3 _) (m3 _) h4;have:=jX _ _ _ (m3 _) (m3 _) h5;have:=jX _ _ _ (m3 _) (m3 _) h6;omega
def ck (h:Nat) (c:UInt8):Nat:=(29*h+c.toNat+3)%262139
def pE (s:aE):Nat:=s.foldl ck 11
theorem oM (h:Nat) (c:UInt8):ck h c < 262139:=Nat.mod_lt _ (by decide)
theorem tP (s:aE):∀ h,h < 262139→s.foldl ck h < 262139:=by
 induction s with
 | nil=>intro h hh;exact hh
 | cons c s ih=>intro h hh;exact ih _ (oM _ _)
theorem rW (s:aE):pE s < 262139:=tP s 11 (by decide)
theorem MO (h j:Nat) (c:UInt8) (hh:h < 262139) (hj:j < 262139) (hne:h≠j):ck h c≠ck j c:=by
 unfold ck;omega
theorem HO (h:Nat) (c d:UInt8) (hne:c≠d):ck h c≠ck h d:=by
 have h1:=c.toNat_lt;have h2:=d.toNat_lt;have h3:c.toNat≠d.toNat:=fun e=>hne (UInt8.toNat_inj.1 e);unfold ck;omega
theorem AR (s:aE):∀ (h j:Nat),h < 262139→j < 262139→h≠j→s.foldl ck h≠s.foldl ck j:=by
 induction s with
 | nil=>intro h j _ _ e;exact e
 | cons c s ih=>intro h j hh hj e;exact ih _ _ (oM _ _) (oM _ _) (MO h j c hh hj e)
theorem AS (s:aE) (i:Nat) (v:UInt8) (x:UInt8) (hx:s[i]?=some x) (hv:v≠x):pE (s.set i v)≠pE s:=by
 have hi:i < s.length:=(List.getElem?_eq_some_iff.1 hx).1;have e1:s=s.take i++x::s.drop (i+1):=by
  have:s.drop i=x::s.drop (i+1):=by
   rw [List.drop_eq_getElem_cons hi,(List.getElem?_eq_some_iff.1 hx).2]
  rw [← this,List.take_append_drop]
 have e2:s.set i v=s.take i++v::s.drop (i+1):=by rw [List.set_eq_take_append_cons_drop,if_pos hi]
 unfold pE;rw [e2]
 conv=>rhs;rw [e1]
 rw [List.foldl_append,List.foldl_append,List.foldl_cons,List.foldl_cons];exact AR _ _ _ (oM _ _) (oM _ _) (HO _ _ _ hv)
def eA (s:aE):aE:=(((((([91]++iT s.length false)++iT s.length true)++qU (pE s) false)++[93])++s)++[10])
theorem eE (s:aE):(eA s).length=17+s.length:=by simp [eA,iT,qU];omega
theorem HQ (s:aE):∀ (n i h:Nat),s.length - i=n→i≤s.length→h < 262139→bH (oI s) (i,(h:Int))=some ((((s.drop i).foldl ck h:Nat):Int)):=by
 intro n
 induction n with
 | zero =>
  intro i h hn hi hh;have:i=s.length:=by omega
  subst this;rw [List.drop_length];refine cW ?_;unfold oI;dsimp only;rw [if_neg (by omega)];rfl
 | succ n ih =>
  intro i h hn hi hh;have hlt:i < s.length:=by omega
  have hx:s[i]?=some s[i]:=List.getElem?_eq_getElem hlt;have hb:=(s[i]).toNat_lt;have hst:oI s (i,(h:Int))=some (.inl (i+1,((ck h s[i]:Nat):Int))):=by
   unfold oI;dsimp only;rw [if_pos (by omega),hx,Option.bind_some,bP (by omega),bP (by omega),bP (by omega),bP (by omega)];congr 3
  rw [bT hst,ih (i+1) _ (by omega) (by omega) (oM _ _)];congr 2;rw [List.drop_eq_getElem_cons hlt,List.foldl_cons]
theorem HR (s:aE) (hs:s.length≤400):m17 s=some (eA s):=by
 unfold m17;have:=rW s;have h4:∀ k t,(iT k t).length=4:=fun _ _=>rfl;have h6:∀ k t,(qU k t).length=6:=fun _ _=>rfl;rw [bP (by omega),show ((0:Nat),(11:Int))=(0,((11:Nat):Int)) from rfl,HQ s s.length 0 11 (by omega) (by omega) (by decide),Option.bind_some,e4 s.length false (by omega),Option.bind_some,bP (by rw [h4];decide),e4 s.length true (by omega),Option.bind_some,bP (by simp [h4])];rw [List.drop_zero,show s.foldl ck 11=pE s from rfl,e6 (pE s) false (by omega),Option.bind_some,bP (by simp [h4,h6]),bP (by simp [h4,h6]),bP (by simp [h4,h6];omega),bP (by simp [h4,h6];omega)];rfl
end T12
set_option maxHeartbeats 1000000
namespace T12
open Go Go.Proofs Pk
def cN (l:List aE):aE:=l.flatMap eA
theorem xY (l:List aE) (h:∀ x∈l,x.length≤400):(cN l).length≤417*l.length:=by
 induction l with
 | nil=>simp [cN]
 | cons a l ih =>
  have h1:=ih fun x hx=>h x (List.mem_cons_of_mem _ hx);have h2:=h a (List.mem_cons_self ..);have h3:=eE a;simp only [cN,List.flatMap_cons,List.length_append,List.length_cons] at *;omega
theorem MP (l:List aE) (hl:l.length≤60) (h:∀ x∈l,x.length≤400):∀ (n i:Nat) (o:aE),l.length - i=n→i≤l.length→o.length≤417*i→bH (oJ l) (i,o)=some (o++cN (l.drop i)):=by
 intro n
 induction n with
 | zero =>
  intro i o hn hi ho;have:i=l.length:=by omega
  subst this;rw [List.drop_length];refine cW ?_;unfold oJ;dsimp only;rw [if_neg (by omega)];simp [cN]
 | succ n ih =>
  intro i o hn hi ho;have hlt:i < l.length:=by omega
  have hx:l[i]?=some l[i]:=List.getElem?_eq_getElem hlt;have hb:=h l[i] (List.getElem_mem hlt);have h3:=eE l[i];have hst:oJ l (i,o)=some (.inl (i+1,o++eA l[i])):=by
   unfold oJ;dsimp only;rw [if_pos (by omega),hx,Option.bind_some,HR _ hb,Option.bind_some,bP (by omega)]
  rw [bT hst,ih (i+1) _ (by omega) (by omega) (by rw [List.length_append];omega),show l.drop i=l[i]::l.drop (i+1) from List.drop_eq_getElem_cons hlt];unfold cN;rw [List.flatMap_cons,List.append_assoc]
theorem e75 (l:List aE) (hl:l.length≤60) (h:∀ x∈l,x.length≤400):KP l=some (cN l):=by
 unfold KP;rw [MP l hl h l.length 0 [] (by omega) (by omega) (by simp)];rfl
theorem HT (l:List aE) (h:∀ x∈l,x.length≤400):∀ (n i:Nat),l.length - i=n→i≤l.length→bH (oF l m16) i=some (.inl ()):=by
 intro n
 induction n with
 | zero =>
  intro i hn hi;refine cW ?_;unfold oF;rw [if_neg (by omega)]
 | succ n ih =>
  intro i hn hi;have hlt:i < l.length:=by omega
  have hx:l[i]?=some l[i]:=List.getElem?_eq_getElem hlt;have hb:=h l[i] (List.getElem_mem hlt);have hst:oF l m16 i=some (.inl (i+1)):=by
   unfold oF m16;rw [if_pos (by omega),hx,Option.bind_some,Option.bind_some,if_neg (by simp;omega)]
  rw [bT hst,ih (i+1) (by omega) (by omega)]
theorem e50 (l:List aE) (hl:l.length≤60) (h:∀ x∈l,x.length≤400):II l=some 0:=by
 unfold II m15 NH;rw [if_neg (by omega),HT l h l.length 0 (by omega) (by omega)];rfl
theorem e30 (l:List aE) (hl:l.length≤60) (h:∀ x∈l,x.length≤400):m5 l=some (cN l,0):=by
 unfold m5;rw [e50 l hl h,Option.bind_some,if_neg (by simp),e75 l hl h];rfl
theorem e21 (l:List aE) (hl:l.length≤60):m6 l=some l:=by
 unfold m6;rw [bP (by simp;omega)];rfl
theorem lJ (l:aE) (i:Nat) (x:UInt8) (acc:Int) (hx:l[i]?=some x) (h0:0≤acc) (h1:acc≤9000000):mR l (i,acc)=some (if x.toNat < 48∨55 < x.toNat then .inr (.inr (-1)) else .inl (i+1,8*acc+((x.toNat:Int) - 48))):=by
 have hb:=x.toNat_lt;have hi:i < l.length:=(List.getElem?_eq_some_iff.1 hx).1;unfold mR;dsimp only;rw [if_pos (by omega),hx,Option.bind_some];by_cases h2:x.toNat < 48
 ·rw [if_pos (by omega),Option.bind_some,if_pos rfl,if_pos (.inl h2)]
 rw [if_neg (by omega),Option.bind_some];by_cases h3:55 < x.toNat
 ·rw [if_pos (by simp;omega),if_pos (.inr h3)]
 rw [if_neg (by simp;omega),bP (by omega),bP (by omega),if_neg (by omega)];congr 3;omega
theorem xZ (l:aE) (acc:Int):mR l (l.length,acc)=some (.inr (.inl acc)):=by
 unfold mR;dsimp only;rw [if_neg (by omega)]
theorem HU (a b c d:UInt8):∃ v,m19 [a,b,c,d]=some v:=by
 have ha:=a.toNat_lt;have hb:=b.toNat_lt;have hc:=c.toNat_lt;have hd:=d.toNat_lt
 suffices h:∃ r,bH (mR [a,b,c,d]) (0,0)=some r by
  obtain ⟨r,hr⟩:=h;unfold m19;rw [hr,Option.bind_some];cases r <;> exact ⟨_,rfl⟩
 have s0:=lJ [a,b,c,d] 0 a 0 rfl (by omega) (by omega)
 split at s0
 ·exact ⟨_,cW s0⟩
 rw [bT s0];have s1:=lJ [a,b,c,d] 1 b (8*0+((a.toNat:Int) - 48)) rfl (by omega) (by omega)
 split at s1
 ·exact ⟨_,cW s1⟩
 rw [bT s1];have s2:=lJ [a,b,c,d] 2 c (8*(8*0+((a.toNat:Int) - 48))+((b.toNat:Int) - 48)) rfl (by omega) (by omega)
 split at s2
 ·exact ⟨_,cW s2⟩
 rw [bT s2];have s3:=lJ [a,b,c,d] 3 d (8*(8*(8*0+((a.toNat:Int) - 48))+((b.toNat:Int) - 48))+((c.toNat:Int) - 48)) rfl (by omega) (by omega)
 split at s3
 ·exact ⟨_,cW s3⟩
 rw [bT s3];exact ⟨_,cW (xZ [a,b,c,d] _)⟩
theorem sQ (d:Nat) (hd:d < 8):(D false d).toNat=48+d:=by
 have:∀ d:Fin 8,(D false d.1).toNat=48+d.1:=by decide
 exact this ⟨d,hd⟩
theorem MQ (k:Nat) (hk:k < 4096):m19 (iT k false)=some (k:Int):=by
 have m3:∀ n:Nat,n%8 < 8:=fun n=>Nat.mod_lt _ (by decide);have v1:=sQ _ (m3 (k/8/8/8));have v2:=sQ _ (m3 (k/8/8));have v3:=sQ _ (m3 (k/8));have v4:=sQ _ (m3 k);have s0:=lJ (iT k false) 0 _ 0 rfl (by omega) (by omega);rw [if_neg (by omega)] at s0;have s1:=lJ (iT k false) 1 _ (8*0+(((D false (k/8/8/8%8)).toNat:Int) - 48)) rfl (by omega) (by omega);rw [if_neg (by omega)] at s1;have s2:=lJ (iT k false) 2 _ (8*(8*0+(((D false (k/8/8/8%8)).toNat:Int) - 48))+(((D false (k/8/8%8)).toNat:Int) - 48)) rfl (by omega) (by omega);rw [if_neg (by omega)] at s2;have s3:=lJ (iT k false) 3 _ (8*(8*(8*0+(((D false (k/8/8/8%8)).toNat:Int) - 48))+(((D false (k/8/8%8)).toNat:Int) - 48))+(((D false (k/8%8)).toNat:Int) - 48)) rfl (by omega) (by omega);rw [if_neg (by omega)] at s3;unfold m19;rw [bT s0,bT s1,bT s2,bT s3,show (3+1:Nat)=(iT k false).length from rfl,cW (xZ _ _),Option.bind_some];dsimp only;congr 1;rw [v1,v2,v3,v4];omega
end T12
set_option maxHeartbeats 1000000
namespace T12
open Go Go.Proofs Pk
theorem tQ (s r:aE):(((eA s++r).drop 1).take 4)=iT s.length false:=rfl
theorem rX (s r:aE):(eA s++r).drop 16=(s++[10])++r:=rfl
theorem yA (s r:aE):((eA s++r).drop 16).take s.length=s:=by rw [rX,List.append_assoc,List.take_left]
def HV (r:aE):Prop:=r.length < 17∨∃ v:Int,m19 ((r.drop 1).take 4)=some v∧(v < 0∨400 < v∨(r.length:Int) < 17+v∨eA ((r.drop 16).take v.toNat)≠r.take (17+v.toNat))
theorem jJ (b:aE) (i j:Nat):(b.drop i).drop j=b.drop (i+j):=by rw [List.drop_drop]
theorem YW (b:aE) (i:Nat) (rd:Int) (ls:List aE) (x rest:aE) (hb:b.drop i=eA x++rest) (hx:x.length≤400) (hbl:b.length≤1000000) (hl:ls.length < 60) :
  pC b ((i:Int),rd,ls)=some (.inl (((i+(17+x.length):Nat):Int),((i+(17+x.length):Nat):Int),ls++[x])):=by
 have hlen:b.length - i=17+x.length+rest.length:=by
  have:=congrArg List.length hb;rw [List.length_drop,List.length_append,eE] at this;exact this
 have t1:((i:Int)+1).toNat=i+1:=by omega
 have t2:((i:Int)+1+4).toNat=i+1+4:=by omega
 have t3:((i:Int)+16).toNat=i+16:=by omega
 have t4:((i:Int)+17+(x.length:Int) - 1).toNat=i+16+x.length:=by omega
 have t5:((i:Int)+17+(x.length:Int)).toNat=i+(17+x.length):=by omega
 have t6:(i:Int).toNat=i:=by omega
 have t7:i+1+4 - (i+1)=4:=by omega
 have t8:i+16+x.length - (i+16)=x.length:=by omega
 have t9:i+(17+x.length) - i=17+x.length:=by omega
 have b1:(b.drop (i+1)).take 4=iT x.length false:=by rw [← jJ,hb,tQ]
 have b2:(b.drop (i+16)).take x.length=x:=by rw [← jJ,hb,yA]
 have b3:(b.drop i).take (17+x.length)=eA x:=by rw [hb,← eE,List.take_left]
 unfold pC;dsimp only;rw [bP (by omega),if_pos (by omega),bP (by omega),bP (by omega),bP (by omega),bP (by omega),t1,t2,bP (by omega),t7,b1,MQ _ (by omega),Option.bind_some];have h0:oG (x.length:Int) 0 400=some true:=by
  unfold oG;rw [if_pos (by omega)];simp;omega
 rw [h0,Option.bind_some,if_pos rfl,bP (by omega),Option.bind_some,if_neg (by simp;omega),bP (by omega),bP (by omega),bP (by omega),bP (by omega),bP (by omega),bP (by omega),t3,t4,bP (by omega),t8,b2,HR x hx,Option.bind_some,bP (by omega),bP (by omega),t5,t6,bP (by omega),t9,b3,if_neg (by simp),if_neg (by omega),bP (by omega),Option.bind_some];dsimp only;congr 4 <;> omega
theorem MR (b:aE) (i:Nat) (rd:Int) (ls:List aE) (hi:i≤b.length) (hB:HV (b.drop i)) (hbl:b.length≤1000000) :
  pC b ((i:Int),rd,ls)=some (.inr (.inl (rd,ls)))∨pC b ((i:Int),rd,ls)=some (.inr (.inr (.inl (rd,ls)))):=by
 have t1:((i:Int)+1).toNat=i+1:=by omega
 have t2:((i:Int)+1+4).toNat=i+1+4:=by omega
 have t3:((i:Int)+16).toNat=i+16:=by omega
 have t6:(i:Int).toNat=i:=by omega
 have t7:i+1+4 - (i+1)=4:=by omega
 unfold HV at hB;rw [List.length_drop] at hB;unfold pC;dsimp only;rw [bP (by omega)];by_cases h2:17≤((b.length:Int) - (i:Int))
 ·right;rcases hB with h | ⟨v,hv,hB⟩
  ·omega
  rw [jJ] at hv;rw [if_pos h2,bP (by omega),bP (by omega),bP (by omega),bP (by omega),t1,t2,bP (by omega),t7,hv,Option.bind_some];by_cases hn:0≤v∧v≤400
  ·have h1:oG v 0 400=some true:=by
    unfold oG;rw [if_pos hn.1];simp;omega
   rw [h1,Option.bind_some,if_pos rfl,bP (by omega),Option.bind_some];by_cases hs:(b.length:Int) - (i:Int) < 17+v
   ·rw [if_pos (by simp;omega)]
   have t4:((i:Int)+17+v - 1).toNat=i+16+v.toNat:=by omega
   have t5:((i:Int)+17+v).toNat=i+(17+v.toNat):=by omega
   have t8:i+16+v.toNat - (i+16)=v.toNat:=by omega
   have t9:i+(17+v.toNat) - i=17+v.toNat:=by omega
   have hr:eA ((b.drop (i+16)).take v.toNat)≠(b.drop i).take (17+v.toNat):=by
    rw [jJ] at hB;rcases hB with h | h | h | h
    ·omega
    ·omega
    ·omega
    exact h
   rw [if_neg (by simp;omega),bP (by omega),bP (by omega),bP (by omega),bP (by omega),bP (by omega),bP (by omega),t3,t4,bP (by omega),t8,HR _ (by rw [List.length_take];omega),Option.bind_some,bP (by omega),bP (by omega),t5,t6,bP (by omega),t9,if_pos hr]
  have h1:oG v 0 400=some false:=by
   unfold oG;by_cases h0:0≤v
   ·rw [if_pos h0];simp;omega
   rw [if_neg h0];rfl
  rw [h1,Option.bind_some,if_neg (by simp),Option.bind_some,if_pos rfl]
 left;rw [if_neg h2]
theorem MS (b:aE) (hbl:b.length≤1000000) (tl:aE) (hB:HV tl):∀ (l:List aE) (i:Nat) (rd:Int) (ls:List aE),(∀ x∈l,x.length≤400)→i≤b.length→b.drop i=cN l++tl→ls.length+l.length≤60→(rd=i∨l≠[]∨rd=(i:Int)) →
  bH (pC b) ((i:Int),rd,ls)=some (.inl (if l=[] then rd else ((i+(cN l).length:Nat):Int),ls++l))∨bH (pC b) ((i:Int),rd,ls)=some (.inr (.inl (if l=[] then rd else ((i+(cN l).length:Nat):Int),ls++l))):=by
 intro l
 induction l with
 | nil =>
  intro i rd ls _ hi hb _ _;rw [if_pos rfl,List.append_nil];have hb':b.drop i=tl:=by rw [hb];rfl
  rcases MR b i rd ls hi (by rw [hb'];exact hB) hbl with h | h
  ·exact .inl (cW h)
  exact .inr (cW h)
 | cons x l ih =>
  intro i rd ls hx hi hb hl _;have hb':b.drop i=eA x++(cN l++tl):=by rw [hb];unfold cN;rw [List.flatMap_cons,List.append_assoc]
  have hlen:b.length - i=17+x.length+(cN l++tl).length:=by
   have:=congrArg List.length hb';rw [List.length_drop,List.length_append,eE] at this;exact this
  rw [bT (YW b i rd ls x _ hb' (hx x (List.mem_cons_self ..)) hbl (by simp at hl;omega))];have hb2:b.drop (i+(17+x.length))=cN l++tl:=by rw [← jJ,hb',← eE,List.drop_left]
  have h:=ih (i+(17+x.length)) ((i+(17+x.length):Nat):Int) (ls++[x]) (fun y hy=>hx y (List.mem_cons_of_mem _ hy)) (by omega) hb2 (by simp at hl ⊢;omega) (.inl rfl);rw [if_neg (by simp)];have e1:(if l=[] then ((i+(17+x.length):Nat):Int) else ((i+(17+x.length)+(cN l).length:Nat):Int))=((i+(cN (x::l)).length:Nat):Int):=by
   have h3:(cN (x::l)).length=17+x.length+(cN l).length:=by unfold cN;rw [List.flatMap_cons,List.length_append,eE]
   split
   ·rename_i h0;subst h0;rw [h3];simp [cN]
   rw [h3];congr 1;omega
  rw [e1] at h;simpa [List.append_assoc] using h
theorem e31 (l:List aE) (tl:aE) (hl:l.length≤60) (hx:∀ x∈l,x.length≤400) (hB:HV tl) (hbl:(cN l++tl).length≤1000000):m7 (cN l++tl)=some (l,((cN l).length:Int)):=by
 have h:=MS (cN l++tl) hbl tl hB l 0 0 [] hx (Nat.zero_le _) rfl (by simpa using hl) (.inl rfl);have e1:(if l=[] then (0:Int) else ((0+(cN l).length:Nat):Int))=((cN l).length:Int):=by
  split
  ·rename_i h0;subst h0;rfl
  rw [Nat.zero_add]
 rw [e1,List.nil_append] at h;unfold m7;rcases h with h | h
 ·rw [show ((0:Int),(0:Int),([]:List aE))=(((0:Nat):Int),(0:Int),([]:List aE)) from rfl,h];rfl
 rw [show ((0:Int),(0:Int),([]:List aE))=(((0:Nat):Int),(0:Int),([]:List aE)) from rfl,h];rfl
end T12
set_option maxHeartbeats 1000000
namespace T12
open Go Go.Proofs Pk
theorem AT:HV []:=.inl (by simp)
theorem AU (x:aE) (hx:x.length≤400) (k:Nat) (hk:k < 17+x.length):HV ((eA x).take k):=by
 by_cases h0:k < 17
 ·left;rw [List.length_take];omega
 right;have hr:=eE x;have e1:(((eA x).take k).drop 1).take 4=iT x.length false:=by
  rw [List.drop_take,List.take_take,Nat.min_eq_left (by omega)];rfl
 refine ⟨(x.length:Int),by rw [e1,MQ _ (by omega)],?_⟩;right;right;left;rw [List.length_take];omega
theorem D4 (k j:Nat) (t:Bool) (hk:k≤400) (hj:j≤400) (h1:D t (k/8/8/8%8)=D t (j/8/8/8%8)) (h2:D t (k/8/8%8)=D t (j/8/8%8)) (h3:D t (k/8%8)=D t (j/8%8)) (h4:D t (k%8)=D t (j%8)):k=j :=
 xW k j t (by omega) (by omega) (by unfold iT;rw [h1,h2,h3,h4])
theorem HW (x y rest rest':aE) (k:Nat) (v u:UInt8) (hu:(eA x)[k]?=some u) (hv:v≠u) (hx:x.length≤400) (hy:y.length≤400) (h:eA y++rest'=(eA x).set k v++rest):False:=by
 have hk:k < (eA x).length:=(List.getElem?_eq_some_iff.1 hu).1;have rx:=eE x;have ry:=eE y;have at_:∀ i,i≠k→i < 17→(eA y)[i]?=(eA x)[i]?:=fun i hi h0=>by
  have e:=congrArg (fun l:aE=>l[i]?) h
  try simp only at e
  rw [List.getElem?_append_left (by omega),List.getElem?_append_left (by rw [List.length_set];omega),List.getElem?_set_ne (fun q=>hi q.symm)] at e;exact e
 have hn:y.length=x.length:=by
  by_cases h5:5≤k∧k < 9
  ·refine D4 _ _ false hy hx ?_ ?_ ?_ ?_
   ·exact Option.some.inj (at_ 1 (by omega) (by omega))
   ·exact Option.some.inj (at_ 2 (by omega) (by omega))
   ·exact Option.some.inj (at_ 3 (by omega) (by omega))
   exact Option.some.inj (at_ 4 (by omega) (by omega))
  refine D4 _ _ true hy hx ?_ ?_ ?_ ?_
  ·exact Option.some.inj (at_ 5 (by omega) (by omega))
  ·exact Option.some.inj (at_ 6 (by omega) (by omega))
  ·exact Option.some.inj (at_ 7 (by omega) (by omega))
  exact Option.some.inj (at_ 8 (by omega) (by omega))
 have he:eA y=(eA x).set k v:=(List.append_inj h (by rw [List.length_set];omega)).1;have hno:y≠x:=fun e=>by
  rw [e] at he;have e2:=congrArg (fun l:aE=>l[k]?) he
  try simp only at e2
  rw [hu,List.getElem?_set_self hk] at e2;exact hv (Option.some.inj e2).symm
 have hd:=congrArg (fun l:aE=>l.drop 16) he
 try simp only at hd
 rw [List.drop_set,show (eA y).drop 16=y++[10] from rfl,show (eA x).drop 16=x++[10] from rfl] at hd
 split at hd
 ·exact hno (List.append_inj hd hn).1
 rename_i h1
 by_cases hb:k - 16 < x.length
 ·rw [List.set_append_left _ _ hb] at hd;have hy2:y=x.set (k - 16) v:=(List.append_inj hd (by rw [List.length_set];exact hn)).1;have hu2:x[k - 16]?=some u:=by
   have e3:(eA x)[k]?=((eA x).drop 16)[k - 16]?:=by rw [List.getElem?_drop];congr 1;omega
   rw [e3,show (eA x).drop 16=x++[10] from rfl,List.getElem?_append_left hb] at hu;exact hu
  refine AS x (k - 16) v u hu2 hv ?_;rw [← hy2];have c1:=rW x;have c2:=rW y;refine xX _ _ false (by omega) (by omega) ?_;unfold qU
  rw [show D false (pE y/8/8/8/8/8%8)=D false (pE x/8/8/8/8/8%8) from Option.some.inj (at_ 9 (by omega) (by omega)),
   show D false (pE y/8/8/8/8%8)=D false (pE x/8/8/8/8%8) from Option.some.inj (at_ 10 (by omega) (by omega)),
   show D false (pE y/8/8/8%8)=D false (pE x/8/8/8%8) from Option.some.inj (at_ 11 (by omega) (by omega)),
   show D false (pE y/8/8%8)=D false (pE x/8/8%8) from Option.some.inj (at_ 12 (by omega) (by omega)),
   show D false (pE y/8%8)=D false (pE x/8%8) from Option.some.inj (at_ 13 (by omega) (by omega)),
   show D false (pE y%8)=D false (pE x%8) from Option.some.inj (at_ 14 (by omega) (by omega))]
 have e4:=congrArg (fun l:aE=>l.take x.length) hd
 try simp only at e4
 rw [← hn,List.take_left,hn,List.take_set_of_le (by omega),List.take_left] at e4;exact hno e4
theorem YX (l:aE) (h:l.length=4):∃ a b c d,l=[a,b,c,d]:=by
 match l,h with
 | [a,b,c,d],_=>exact ⟨a,b,c,d,rfl⟩
theorem AV (x rest:aE) (hx:x.length≤400) (k:Nat) (v u:UInt8) (hu:(eA x)[k]?=some u) (hv:v≠u):HV ((eA x).set k v++rest):=by
 obtain ⟨r,hr⟩:∃ r,r=(eA x).set k v++rest:=⟨_,rfl⟩;rw [← hr];have hlen:17+x.length≤r.length:=by rw [hr,List.length_append,List.length_set,eE];omega
 right;obtain ⟨a,b,c,d,e⟩:=YX ((r.drop 1).take 4) (by rw [List.length_take,List.length_drop];omega);obtain ⟨w,hw⟩:=HU a b c d;refine ⟨w,by rw [e,hw],?_⟩;by_cases h1:w < 0
 ·exact .inl h1
 by_cases h2:400 < w
 ·exact .inr (.inl h2)
 by_cases h3:(r.length:Int) < 17+w
 ·exact .inr (.inr (.inl h3))
 refine .inr (.inr (.inr fun h=>?_));have hy:((r.drop 16).take w.toNat).length=w.toNat:=by rw [List.length_take,List.length_drop];omega
 refine HW x ((r.drop 16).take w.toNat) rest (r.drop (17+w.toNat)) k v u hu hv hx (by rw [hy];omega) ?_;rw [h,List.take_append_drop,hr]
theorem e34 (l:List aE):m8 l l=some true:=by
 have:∀ (n i:Nat),l.length - i=n→i≤l.length→bH (tG l l) i=some (.inl ()):=by
  intro n
  induction n with
  | zero =>
   intro i hn hi;refine cW ?_;unfold tG;rw [if_neg (by omega)]
  | succ n ih =>
   intro i hn hi;have hlt:i < l.length:=by omega
   have hx:l[i]?=some l[i]:=List.getElem?_eq_getElem hlt;have hst:tG l l i=some (.inl (i+1)):=by
    unfold tG;rw [if_pos (by omega),hx,Option.bind_some,Option.bind_some,if_neg (by simp)]
   rw [bT hst,ih (i+1) (by omega) (by omega)]
 unfold m8;rw [if_neg (by simp),this l.length 0 (by omega) (by omega)];rfl
theorem HX (l:List aE):∀ (n i:Nat),l.length - i=n→i≤l.length→bH (qQ l) i=some (.inr true)∨(bH (qQ l) i=some (.inl ())∧∀ j (hj:j < l.length),i≤j→(l[j]).length≤200):=by
 intro n
 induction n with
 | zero =>
  intro i hn hi;refine .inr ⟨cW ?_,fun j hj hij=>by omega⟩;unfold qQ;rw [if_neg (by omega)]
 | succ n ih =>
  intro i hn hi;have hlt:i < l.length:=by omega
  have hx:l[i]?=some l[i]:=List.getElem?_eq_getElem hlt;by_cases h2:200 < ((l[i]).length:Int)
  ·refine .inl (cW ?_);unfold qQ;rw [if_pos (by omega),hx,Option.bind_some,if_pos h2,NU];rfl
  have hst:qQ l i=some (.inl (i+1)):=by
   unfold qQ;rw [if_pos (by omega),hx,Option.bind_some,if_neg h2]
  rw [bT hst];rcases ih (i+1) (by omega) (by omega) with h | ⟨h,hall⟩
  ·exact .inl h
  refine .inr ⟨h,fun j hj hij=>?_⟩;by_cases e:i=j
  ·subst e;omega
  exact hall j hj (by omega)
theorem lK (a b:List aE):cN (a++b)=cN a++cN b:=by unfold cN;rw [List.flatMap_append]
theorem tT (l:List aE) (i:Nat) (hi:i < l.length):cN (l.take (i+1))=cN (l.take i)++eA l[i]:=by
 rw [List.take_succ_eq_append_getElem hi,lK];simp [cN]
theorem HY (l:List aE) (hl:l.length≤25) (h:∀ x∈l,x.length≤400) (at_:Int) (c:Nat) (hc:at_%((cN l).length:Int)=(c:Int)) (hcl:c < (cN l).length) :
  ∀ (n i:Nat),l.length - i=n→i≤l.length→(cN (l.take i)).length≤c→∃ j,∃ hj:j < l.length,bH (tH l at_ (cN l,0)) (i,(cN (l.take i)).length)=some (.inl (j,(cN (l.take j)).length))∧(cN (l.take j)).length≤c∧c < (cN (l.take j)).length+(17+(l[j]).length):=by
 intro n
 induction n with
 | zero =>
  intro i hn hi hle;have:i=l.length:=by omega
  subst this;rw [List.take_length] at hle;omega
 | succ n ih =>
  intro i hn hi hle;have hlt:i < l.length:=by omega
  have ht:((i:Int)+1).toNat=i+1:=by omega
  have hlen:(cN (l.take (i+1))).length=(cN (l.take i)).length+(17+(l[i]).length):=by rw [tT l i hlt,List.length_append,eE]
  have h':∀ x∈l.take (i+1),x.length≤400:=fun x hx=>h x (List.mem_of_mem_take hx);have hl':(l.take (i+1)).length≤60:=by rw [List.length_take];omega
  have hst:tH l at_ (cN l,0) (i,(cN (l.take i)).length)=if (c:Int) < ((cN (l.take (i+1))).length:Int) then some (.inr (.inl (i,(cN (l.take i)).length))) else some (.inl (i+1,(cN (l.take (i+1))).length)):=by
   unfold tH;dsimp only;rw [if_pos (by omega),ht,bP (by omega),e21 _ hl',Option.bind_some,e30 _ hl' h',Option.bind_some,if_neg (by simp),hc]
  by_cases hcc:(c:Int) < ((cN (l.take (i+1))).length:Int)
  ·rw [if_pos hcc] at hst;exact ⟨i,hlt,cW hst,hle,by omega⟩
  rw [if_neg hcc] at hst;rw [bT hst];exact ih (i+1) (by omega) (by omega) (by omega)
theorem AW (x:UInt8) (c:Int) (hc:0≤c):UInt8.ofNat (((x.toNat:Int)+(1+(c%255)))%256).toNat≠x:=fun e=>by
 have h1:=congrArg UInt8.toNat e;rw [UInt8.toNat_ofNat'] at h1;have h2:=x.toNat_lt;omega
theorem YY (l:List aE) (at_ change:Int) (ha:0≤at_∧at_≤65535) (hch:0≤change∧change≤65535):m3 l at_ change=some true:=by
 unfold m3;by_cases h0:(l.length:Int)=0
 ·rw [if_pos h0,Option.bind_some,if_pos rfl,NU];rfl
 rw [if_neg h0,Option.bind_some];by_cases h1:25 < (l.length:Int)
 ·rw [if_pos (by simp;omega),NU];rfl
 rw [if_neg (by simp;omega)];rcases HX l l.length 0 (by omega) (by omega) with h | ⟨h,hall⟩
 ·rw [h];rfl
 rw [h,Option.bind_some];have hx:∀ x∈l,x.length≤400:=fun x hx=>by
  obtain ⟨j,hj,e⟩:=List.getElem_of_mem hx;have:=hall j hj (Nat.zero_le _);rw [e] at this;omega
 have hB:=xY l hx;have hpos:17≤(cN l).length:=by
  match l,h0 with
  | a::l',_=>unfold cN;rw [List.flatMap_cons,List.length_append,eE];omega
 dsimp only;rw [e21 l (by omega),Option.bind_some,e30 l (by omega) hx,Option.bind_some];dsimp only;rw [if_neg (by simp),Option.bind_some,if_neg (by rw [decide_eq_true_eq];omega),bP (by omega),bP (by omega)];obtain ⟨c,hc⟩:∃ c:Nat,at_%((cN l).length:Int)=(c:Int):=⟨(at_%((cN l).length:Int)).toNat,by have:=Int.emod_nonneg at_ (b:=((cN l).length:Int)) (by omega);omega⟩;have hcl:c < (cN l).length:=by have:=Int.emod_lt_of_pos at_ (b:=((cN l).length:Int)) (by omega);omega
 obtain ⟨j,hj,hloop,hle,hlt⟩:=HY l (by omega) hx at_ c hc hcl l.length 0 (by omega) (by omega) (by simp [cN]);have hloop':bH (tH l at_ (cN l,0)) (0,0)=some (.inl (j,(cN (l.take j)).length)):=hloop;rw [hloop',Option.bind_some];dsimp only;have tc:(at_%((cN l).length:Int)).toNat=c:=by rw [hc];omega
 rw [tc];obtain ⟨k,hk⟩:∃ k,c=(cN (l.take j)).length+k:=⟨c - (cN (l.take j)).length,by omega⟩;have hxj:=hx l[j] (List.getElem_mem hj);have hdec:cN l=cN (l.take j)++(eA l[j]++cN (l.drop (j+1))):=by
  conv=>lhs;rw [← List.take_append_drop j l,List.drop_eq_getElem_cons hj]
  rw [lK];congr 1
 have hxt:∀ x∈l.take j,x.length≤400:=fun x h=>hx x (List.mem_of_mem_take h);have hrl:=eE l[j];have hcut:(cN l).take c=cN (l.take j)++(eA l[j]).take k:=by
  rw [hdec,hk,List.take_append,List.take_of_length_le (by omega),Nat.add_sub_cancel_left,List.take_append_of_le_length (by omega)]
 rw [bP (by omega),bP (by rw [List.length_take];simp;omega),List.nil_append,hcut];have hl1:(l.take j).length≤60:=by rw [List.length_take];omega
 rw [e31 (l.take j) _ hl1 hxt (AU _ hxj k (by omega)) (by rw [← hcut,List.length_take];omega),Option.bind_some];dsimp only;rw [bP (by omega),e34,Option.bind_some,if_pos rfl,Option.bind_some,if_neg (by simp),bP (by simp;omega),List.nil_append];obtain ⟨u,hu⟩:∃ u,(eA l[j])[k]?=some u:=⟨_,List.getElem?_eq_getElem (l:=eA l[j]) (i:=k) (by omega)⟩;have hat:(cN l)[c]?=some u:=by
  rw [hdec,hk,List.getElem?_append_right (by omega),Nat.add_sub_cancel_left,List.getElem?_append_left (by omega),hu]
 rw [hat,Option.bind_some,bP (by omega)];have hset:∀ v,(cN l).set c v=cN (l.take j)++((eA l[j]).set k v++cN (l.drop (j+1))):=fun v=>by
  rw [hdec,hk,List.set_append_right _ _ (by omega),Nat.add_sub_cancel_left,List.set_append_left _ _ (by omega)]
 have hlen:∀ v,((cN l).set c v).length=(cN l).length:=fun v=>List.length_set;have hne:=AW u change hch.1;generalize UInt8.ofNat (((u.toNat:Int)+(1+(change%255)))%256).toNat=v at hne ⊢;rw [hset v,e31 (l.take j) _ hl1 hxt (AV _ _ hxj k v u hu hne) (by rw [← hset v,hlen v];omega),Option.bind_some];dsimp only;rw [bP (by omega),e34,Option.bind_some,if_pos rfl,Option.bind_some,if_neg (by simp)];have h3:=e31 l [] (by omega) hx AT (by rw [List.append_nil];omega);rw [List.append_nil] at h3;rw [h3,Option.bind_some];dsimp only;rw [e34,Option.bind_some,if_pos rfl,if_pos rfl,NU];rfl
end T12
