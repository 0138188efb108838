/-
  The plain laws: what the models of a session come to.
-/
import Derived.Test.YtbjagcngeobfpaaGreatDoorMade
import Derived.Test.YtbjagcngeobfpaaGreatDoorKitSix
set_option linter.all false
set_option maxRecDepth 100000
set_option maxHeartbeats 4000000
namespace T12
open Go Go.Proofs Pk
theorem JV:m5=some true:=by kernel_rfl
end T12
set_option maxHeartbeats 1000000
namespace T12
open Go Go.Proofs Pk
def dI (t:Bool) (d:Nat):Int:=if t then 7 - (d:Int) else (d:Int)
def D (t:Bool) (d:Nat):UInt8:=wB (48+dI t d)
def jK (k:Nat) (t:Bool):aC:=[D t (k/8/8/8%8),D t (k/8/8%8),D t (k/8%8),D t (k%8)]
def uM (k:Nat) (t:Bool):aC:=[D t (k/8/8/8/8/8%8),D t (k/8/8/8/8%8),D t (k/8/8/8%8),D t (k/8/8%8),D t (k/8%8),D t (k%8)]
theorem kB (t:Bool) (k i:Nat) (a:cL) (hk:k≤9000000) (hi:i≤5):oW t ((k:Int),(i:Int),a)=some (.inl (((k/8:Nat):Int),(i:Int) - 1,cL.set a i (48+dI t (k%8)))):=by
 unfold oW;dsimp only;have h8:((k:Int)%8)=((k%8:Nat):Int):=by omega
 have h9:k%8 < 8:=Nat.mod_lt _ (by decide);rw [if_pos (by omega),aO (by omega),h8];have hd:((if t=true then some (7 - ((k%8:Nat):Int)) else some ((k%8:Nat):Int)):Option Int)=some (dI t (k%8)):=by
  unfold dI;cases t <;> rfl
 rw [hd,Option.bind_some];have hb:0≤dI t (k%8)∧dI t (k%8)≤7:=by unfold dI;split <;> omega
 rw [aO (by omega),aO (by omega),aO (by omega),aO (by omega),aO (by omega)];rfl
theorem zK (t:Bool) (k:Int) (a:cL):oW t (k,-1,a)=some (.inr a):=by
 unfold oW;dsimp only;rw [if_neg (by decide)]
theorem OY (t:Bool) (d:Nat) (h:d < 8):0≤48+dI t d∧48+dI t d≤255:=by unfold dI;split <;> omega
theorem e4 (k:Nat) (t:Bool) (hk:k≤9000000):CD (k:Int) 4 t=some (jK k t):=by
 unfold CD;have m8:∀ n:Nat,n%8 < 8:=fun n=>Nat.mod_lt _ (by decide)
 rw [aO (by decide),show ((4:Int) - 1)=((3:Nat):Int) from rfl,aS (kB t k 3 _ (by omega) (by omega)),
  show (((3:Nat):Int) - 1)=((2:Nat):Int) from rfl,aS (kB t _ 2 _ (by omega) (by omega)),
  show (((2:Nat):Int) - 1)=((1:Nat):Int) from rfl,aS (kB t _ 1 _ (by omega) (by omega)),
  show (((1:Nat):Int) - 1)=((0:Nat):Int) from rfl,aS (kB t _ 0 _ (by omega) (by omega)),
  show (((0:Nat):Int) - 1) = -1 from rfl,bB (zK t _ _),Option.bind_some,aO,aO (by decide),aO (by decide)]
 ·rfl
 show ∀ v∈[48+dI t (k/8/8/8%8),48+dI t (k/8/8%8),48+dI t (k/8%8),48+dI t (k%8),0,0],0≤v∧v≤255;intro v hv;simp only [List.mem_cons,List.not_mem_nil,or_false] at hv;rcases hv with rfl | rfl | rfl | rfl | rfl | rfl <;> first | exact OY _ _ (m8 _) | decide
theorem e6 (k:Nat) (t:Bool) (hk:k≤9000000):CD (k:Int) 6 t=some (uM k t):=by
 unfold CD;have m8:∀ n:Nat,n%8 < 8:=fun n=>Nat.mod_lt _ (by decide)
 rw [aO (by decide),show ((6:Int) - 1)=((5:Nat):Int) from rfl,aS (kB t k 5 _ (by omega) (by omega)),
  show (((5:Nat):Int) - 1)=((4:Nat):Int) from rfl,aS (kB t _ 4 _ (by omega) (by omega)),
  show (((4:Nat):Int) - 1)=((3:Nat):Int) from rfl,aS (kB t _ 3 _ (by omega) (by omega)),
  show (((3:Nat):Int) - 1)=((2:Nat):Int) from rfl,aS (kB t _ 2 _ (by omega) (by omega)),
  show (((2:Nat):Int) - 1)=((1:Nat):Int) from rfl,aS (kB t _ 1 _ (by omega) (by omega)),
  show (((1:Nat):Int) - 1)=((0:Nat):Int) from rfl,aS (kB t _ 0 _ (by omega) (by omega)),
  show (((0:Nat):Int) - 1) = -1 from rfl,bB (zK t _ _),Option.bind_some,aO,aO (by decide),aO (by decide)]
 ·rfl
 show ∀ v∈[48+dI t (k/8/8/8/8/8%8),48+dI t (k/8/8/8/8%8),48+dI t (k/8/8/8%8),48+dI t (k/8/8%8),48+dI t (k/8%8),48+dI t (k%8)],0≤v∧v≤255;intro v hv;simp only [List.mem_cons,List.not_mem_nil,or_false] at hv;rcases hv with rfl | rfl | rfl | rfl | rfl | rfl <;> exact OY _ _ (m8 _)
def ck (h:Nat) (c:UInt8):Nat:=(29*h+c.toNat+3)%262139
def KM (s:aC):Nat:=s.foldl ck 11
theorem zL (h:Nat) (c:UInt8):ck h c < 262139:=Nat.mod_lt _ (by decide)
theorem uN (s:aC):∀ h,h < 262139→s.foldl ck h < 262139:=by
 induction s with
 | nil=>intro h hh;exact hh
 | cons c s ih=>intro h hh;exact ih _ (zL _ _)
theorem zM (s:aC):KM s < 262139:=uN s 11 (by decide)
def gZ (s:aC):aC:=(((((([91]++jK s.length false)++jK s.length true)++uM (KM s) false)++[93])++s)++[10])
theorem fB (s:aC):(gZ s).length=17+s.length:=by simp [gZ,jK,uM];omega
theorem JW (s:aC):∀ (n i h:Nat),s.length - i=n→i≤s.length→h < 262139→bA (oX s) (i,(h:Int))=some ((((s.drop i).foldl ck h:Nat):Int)):=by
 intro n
 induction n with
 | zero =>
  intro i h hn hi hh;have:i=s.length:=by omega
  subst this;rw [List.drop_length];refine bB ?_;unfold oX;dsimp only;rw [if_neg (by omega)];rfl
 | succ n ih =>
  intro i h hn hi hh;have hlt:i < s.length:=by omega
  have hx:s[i]?=some s[i]:=List.getElem?_eq_getElem hlt;have hb:=(s[i]).toNat_lt;have hst:oX s (i,(h:Int))=some (.inl (i+1,((ck h s[i]:Nat):Int))):=by
   unfold oX;dsimp only;rw [if_pos (by omega),hx,Option.bind_some,aO (by omega),aO (by omega),aO (by omega),aO (by omega)];congr 3
  rw [aS hst,ih (i+1) _ (by omega) (by omega) (zL _ _)];congr 2;rw [List.drop_eq_getElem_cons hlt,List.foldl_cons]
theorem CQ (s:aC) (hs:s.length≤400):IU s=some (gZ s):=by
 unfold IU;have:=zM s;have h4:∀ k t,(jK k t).length=4:=fun _ _=>rfl;have h6:∀ k t,(uM k t).length=6:=fun _ _=>rfl;rw [aO (by omega),show ((0:Nat),(11:Int))=(0,((11:Nat):Int)) from rfl,JW s s.length 0 11 (by omega) (by omega) (by decide),Option.bind_some,e4 s.length false (by omega),Option.bind_some,aO (by rw [h4];decide),e4 s.length true (by omega),Option.bind_some,aO (by simp [h4])];rw [List.drop_zero,show s.foldl ck 11=KM s from rfl,e6 (KM s) false (by omega),Option.bind_some,aO (by simp [h4,h6]),aO (by simp [h4,h6]),aO (by simp [h4,h6];omega),aO (by simp [h4,h6];omega)];rfl
end T12
set_option maxHeartbeats 1000000
namespace T12
open Go Go.Proofs Pk
def fR (l:List aC):aC:=l.flatMap gZ
theorem OZ (l:List aC) (hl:l.length≤60) (h:∀ x∈l,x.length≤400):∀ (n i:Nat) (o:aC),l.length - i=n→i≤l.length→o.length≤417*i→bA (oY l) (i,o)=some (o++fR (l.drop i)):=by
 intro n
 induction n with
 | zero =>
  intro i o hn hi ho;have:i=l.length:=by omega
  subst this;rw [List.drop_length];refine bB ?_;unfold oY;dsimp only;rw [if_neg (by omega)];simp [fR]
 | succ n ih =>
  intro i o hn hi ho;have hlt:i < l.length:=by omega
  have hx:l[i]?=some l[i]:=List.getElem?_eq_getElem hlt;have hb:=h l[i] (List.getElem_mem hlt);have h3:=fB l[i];have hst:oY l (i,o)=some (.inl (i+1,o++gZ l[i])):=by
   unfold oY;dsimp only;rw [if_pos (by omega),hx,Option.bind_some,CQ _ hb,Option.bind_some,aO (by omega)]
  rw [aS hst,ih (i+1) _ (by omega) (by omega) (by rw [List.length_append];omega),show l.drop i=l[i]::l.drop (i+1) from List.drop_eq_getElem_cons hlt];unfold fR;rw [List.flatMap_cons,List.append_assoc]
theorem e75 (l:List aC) (hl:l.length≤60) (h:∀ x∈l,x.length≤400):NA l=some (fR l):=by
 unfold NA;rw [OZ l hl h l.length 0 [] (by omega) (by omega) (by simp)];rfl
theorem JX (l:List aC) (h:∀ x∈l,x.length≤400):∀ (n i:Nat),l.length - i=n→i≤l.length→bA (jY l uR) i=some (.inl ()):=by
 intro n
 induction n with
 | zero =>
  intro i hn hi;refine bB ?_;unfold jY;rw [if_neg (by omega)]
 | succ n ih =>
  intro i hn hi;have hlt:i < l.length:=by omega
  have hx:l[i]?=some l[i]:=List.getElem?_eq_getElem hlt;have hb:=h l[i] (List.getElem_mem hlt);have hst:jY l uR i=some (.inl (i+1)):=by
   unfold jY uR;rw [if_pos (by omega),hx,Option.bind_some,Option.bind_some,if_neg (by simp;omega)]
  rw [aS hst,ih (i+1) (by omega) (by omega)]
theorem e50 (l:List aC) (hl:l.length≤60) (h:∀ x∈l,x.length≤400):m19 l=some 0:=by
 unfold m19 KI MJ;rw [if_neg (by omega),JX l h l.length 0 (by omega) (by omega)];rfl
theorem e30 (l:List aC) (hl:l.length≤60) (h:∀ x∈l,x.length≤400):m6 l=some (fR l,0):=by
 unfold m6;rw [e50 l hl h,Option.bind_some,if_neg (by simp),e75 l hl h];rfl
theorem e21 (l:List aC) (hl:l.length≤60):m7 l=some l:=by
 unfold m7;rw [aO (by simp;omega)];rfl
theorem iU (l:aC) (i:Nat) (x:UInt8) (acc:Int) (hx:l[i]?=some x) (h0:0≤acc) (h1:acc≤9000000):lS l (i,acc)=some (if x.toNat < 48∨55 < x.toNat then .inr (.inr (-1)) else .inl (i+1,8*acc+((x.toNat:Int) - 48))):=by
 have hb:=x.toNat_lt;have hi:i < l.length:=(List.getElem?_eq_some_iff.1 hx).1;unfold lS;dsimp only;rw [if_pos (by omega),hx,Option.bind_some];by_cases h2:x.toNat < 48
 ·rw [if_pos (by omega),Option.bind_some,if_pos rfl,if_pos (.inl h2)]
 rw [if_neg (by omega),Option.bind_some];by_cases h3:55 < x.toNat
 ·rw [if_pos (by simp;omega),if_pos (.inr h3)]
 rw [if_neg (by simp;omega),aO (by omega),aO (by omega),if_neg (by omega)];congr 3;omega
theorem sN (l:aC) (acc:Int):lS l (l.length,acc)=some (.inr (.inl acc)):=by
 unfold lS;dsimp only;rw [if_neg (by omega)]
theorem JY (a b c d:UInt8):∃ v,uU [a,b,c,d]=some v:=by
 have ha:=a.toNat_lt;have hb:=b.toNat_lt;have hc:=c.toNat_lt;have hd:=d.toNat_lt
 suffices h:∃ r,bA (lS [a,b,c,d]) (0,0)=some r by
  obtain ⟨r,hr⟩:=h;unfold uU;rw [hr,Option.bind_some];cases r <;> exact ⟨_,rfl⟩
 have s0:=iU [a,b,c,d] 0 a 0 rfl (by omega) (by omega)
 split at s0
 ·exact ⟨_,bB s0⟩
 rw [aS s0];have s1:=iU [a,b,c,d] 1 b (8*0+((a.toNat:Int) - 48)) rfl (by omega) (by omega)
 split at s1
 ·exact ⟨_,bB s1⟩
 rw [aS s1];have s2:=iU [a,b,c,d] 2 c (8*(8*0+((a.toNat:Int) - 48))+((b.toNat:Int) - 48)) rfl (by omega) (by omega)
 split at s2
 ·exact ⟨_,bB s2⟩
 rw [aS s2];have s3:=iU [a,b,c,d] 3 d (8*(8*(8*0+((a.toNat:Int) - 48))+((b.toNat:Int) - 48))+((c.toNat:Int) - 48)) rfl (by omega) (by omega)
 split at s3
 ·exact ⟨_,bB s3⟩
 rw [aS s3];exact ⟨_,bB (sN [a,b,c,d] _)⟩
theorem tJ (d:Nat) (hd:d < 8):(D false d).toNat=48+d:=by
 have:∀ d,d < 8→(D false d).toNat=48+d:=by decide
 exact this d hd
theorem CR (k:Nat) (hk:k < 4096):uU (jK k false)=some (k:Int):=by
 have m8:∀ n:Nat,n%8 < 8:=fun n=>Nat.mod_lt _ (by decide);have v1:=tJ _ (m8 (k/8/8/8));have v2:=tJ _ (m8 (k/8/8));have v3:=tJ _ (m8 (k/8));have v4:=tJ _ (m8 k);have s0:=iU (jK k false) 0 _ 0 rfl (by omega) (by omega);rw [if_neg (by omega)] at s0;have s1:=iU (jK k false) 1 _ (8*0+(((D false (k/8/8/8%8)).toNat:Int) - 48)) rfl (by omega) (by omega);rw [if_neg (by omega)] at s1;have s2:=iU (jK k false) 2 _ (8*(8*0+(((D false (k/8/8/8%8)).toNat:Int) - 48))+(((D false (k/8/8%8)).toNat:Int) - 48)) rfl (by omega) (by omega);rw [if_neg (by omega)] at s2;have s3:=iU (jK k false) 3 _ (8*(8*(8*0+(((D false (k/8/8/8%8)).toNat:Int) - 48))+(((D false (k/8/8%8)).toNat:Int) - 48))+(((D false (k/8%8)).toNat:Int) - 48)) rfl (by omega) (by omega);rw [if_neg (by omega)] at s3;unfold uU;rw [aS s0,aS s1,aS s2,aS s3,show (3+1:Nat)=(jK k false).length from rfl,bB (sN _ _),Option.bind_some];dsimp only;congr 1;rw [v1,v2,v3,v4];omega
end T12
set_option maxHeartbeats 1000000
namespace T12
open Go Go.Proofs Pk
theorem lP (s r:aC):(((gZ s++r).drop 1).take 4)=jK s.length false:=rfl
theorem sP (s r:aC):(gZ s++r).drop 16=(s++[10])++r:=rfl
theorem nK (s r:aC):((gZ s++r).drop 16).take s.length=s:=by rw [sP,List.append_assoc,List.take_left]
def EI (r:aC):Prop:=r.length < 17∨∃ v:Int,uU ((r.drop 1).take 4)=some v∧(v < 0∨400 < v∨(r.length:Int) < 17+v∨gZ ((r.drop 16).take v.toNat)≠r.take (17+v.toNat))
theorem eX (b:aC) (i j:Nat):(b.drop i).drop j=b.drop (i+j):=by rw [List.drop_drop]
theorem PA (b:aC) (i:Nat) (rd:Int) (ls:List aC) (x rest:aC) (hb:b.drop i=gZ x++rest) (hx:x.length≤400) (hbl:b.length≤1000000) (hl:ls.length < 60) :
  kY b ((i:Int),rd,ls)=some (.inl (((i+(17+x.length):Nat):Int),((i+(17+x.length):Nat):Int),ls++[x])):=by
 have hlen:b.length - i=17+x.length+rest.length:=by
  have:=congrArg List.length hb;rw [List.length_drop,List.length_append,fB] at this;exact this
 have t1:((i:Int)+1).toNat=i+1:=by omega
 have t2:((i:Int)+1+4).toNat=i+1+4:=by omega
 have t3:((i:Int)+16).toNat=i+16:=by omega
 have t4:((i:Int)+17+(x.length:Int) - 1).toNat=i+16+x.length:=by omega
 have t5:((i:Int)+17+(x.length:Int)).toNat=i+(17+x.length):=by omega
 have t6:(i:Int).toNat=i:=by omega
 have t7:i+1+4 - (i+1)=4:=by omega
 have t8:i+16+x.length - (i+16)=x.length:=by omega
 have t9:i+(17+x.length) - i=17+x.length:=by omega
 have b1:(b.drop (i+1)).take 4=jK x.length false:=by rw [← eX,hb,lP]
 have b2:(b.drop (i+16)).take x.length=x:=by rw [← eX,hb,nK]
 have b3:(b.drop i).take (17+x.length)=gZ x:=by rw [hb,← fB,List.take_left]
 unfold kY;dsimp only;rw [aO (by omega),if_pos (by omega),aO (by omega),aO (by omega),aO (by omega),aO (by omega),t1,t2,aO (by omega),t7,b1,CR _ (by omega),Option.bind_some];have h0:nH (x.length:Int) 0 400=some true:=by
  unfold nH;rw [if_pos (by omega)];simp;omega
 rw [h0,Option.bind_some,if_pos rfl,aO (by omega),Option.bind_some,if_neg (by simp;omega),aO (by omega),aO (by omega),aO (by omega),aO (by omega),aO (by omega),aO (by omega),t3,t4,aO (by omega),t8,b2,CQ x hx,Option.bind_some,aO (by omega),aO (by omega),t5,t6,aO (by omega),t9,b3,if_neg (by simp),if_neg (by omega),aO (by omega),Option.bind_some];dsimp only;congr 4 <;> omega
theorem zN (b:aC) (i:Nat) (rd:Int) (ls:List aC) (hi:i≤b.length) (hB:EI (b.drop i)) (hbl:b.length≤1000000) :
  kY b ((i:Int),rd,ls)=some (.inr (.inl (rd,ls)))∨kY b ((i:Int),rd,ls)=some (.inr (.inr (.inl (rd,ls)))):=by
 have t1:((i:Int)+1).toNat=i+1:=by omega
 have t2:((i:Int)+1+4).toNat=i+1+4:=by omega
 have t3:((i:Int)+16).toNat=i+16:=by omega
 have t6:(i:Int).toNat=i:=by omega
 have t7:i+1+4 - (i+1)=4:=by omega
 unfold EI at hB;rw [List.length_drop] at hB;unfold kY;dsimp only;rw [aO (by omega)];by_cases h2:17≤((b.length:Int) - (i:Int))
 ·right;rcases hB with h | ⟨v,hv,hB⟩
  ·omega
  rw [eX] at hv;rw [if_pos h2,aO (by omega),aO (by omega),aO (by omega),aO (by omega),t1,t2,aO (by omega),t7,hv,Option.bind_some];by_cases hn:0≤v∧v≤400
  ·have h1:nH v 0 400=some true:=by
    unfold nH;rw [if_pos hn.1];simp;omega
   rw [h1,Option.bind_some,if_pos rfl,aO (by omega),Option.bind_some];by_cases hs:(b.length:Int) - (i:Int) < 17+v
   ·rw [if_pos (by simp;omega)]
   have t4:((i:Int)+17+v - 1).toNat=i+16+v.toNat:=by omega
   have t5:((i:Int)+17+v).toNat=i+(17+v.toNat):=by omega
   have t8:i+16+v.toNat - (i+16)=v.toNat:=by omega
   have t9:i+(17+v.toNat) - i=17+v.toNat:=by omega
   have hr:gZ ((b.drop (i+16)).take v.toNat)≠(b.drop i).take (17+v.toNat):=by
    rw [eX] at hB;rcases hB with h | h | h | h
    ·omega
    ·omega
    ·omega
    exact h
   rw [if_neg (by simp;omega),aO (by omega),aO (by omega),aO (by omega),aO (by omega),aO (by omega),aO (by omega),t3,t4,aO (by omega),t8,CQ _ (by rw [List.length_take];omega),Option.bind_some,aO (by omega),aO (by omega),t5,t6,aO (by omega),t9,if_pos hr]
  have h1:nH v 0 400=some false:=by
   unfold nH;by_cases h0:0≤v
   ·rw [if_pos h0];simp;omega
   rw [if_neg h0];rfl
  rw [h1,Option.bind_some,if_neg (by simp),Option.bind_some,if_pos rfl]
 left;rw [if_neg h2]
theorem PB (b:aC) (hbl:b.length≤1000000) (tl:aC) (hB:EI tl):∀ (l:List aC) (i:Nat) (rd:Int) (ls:List aC),(∀ x∈l,x.length≤400)→i≤b.length→b.drop i=fR l++tl→ls.length+l.length≤60→(rd=i∨l≠[]∨rd=(i:Int)) →
  bA (kY b) ((i:Int),rd,ls)=some (.inl (if l=[] then rd else ((i+(fR l).length:Nat):Int),ls++l))∨bA (kY b) ((i:Int),rd,ls)=some (.inr (.inl (if l=[] then rd else ((i+(fR l).length:Nat):Int),ls++l))):=by
 intro l
 induction l with
 | nil =>
  intro i rd ls _ hi hb _ _;rw [if_pos rfl,List.append_nil];have hb':b.drop i=tl:=by rw [hb];rfl
  rcases zN b i rd ls hi (by rw [hb'];exact hB) hbl with h | h
  ·exact .inl (bB h)
  exact .inr (bB h)
 | cons x l ih =>
  intro i rd ls hx hi hb hl _;have hb':b.drop i=gZ x++(fR l++tl):=by rw [hb];unfold fR;rw [List.flatMap_cons,List.append_assoc]
  have hlen:b.length - i=17+x.length+(fR l++tl).length:=by
   have:=congrArg List.length hb';rw [List.length_drop,List.length_append,fB] at this;exact this
  rw [aS (PA b i rd ls x _ hb' (hx x (List.mem_cons_self ..)) hbl (by simp at hl;omega))];have hb2:b.drop (i+(17+x.length))=fR l++tl:=by rw [← eX,hb',← fB,List.drop_left]
  have h:=ih (i+(17+x.length)) ((i+(17+x.length):Nat):Int) (ls++[x]) (fun y hy=>hx y (List.mem_cons_of_mem _ hy)) (by omega) hb2 (by simp at hl ⊢;omega) (.inl rfl);rw [if_neg (by simp)];have e1:(if l=[] then ((i+(17+x.length):Nat):Int) else ((i+(17+x.length)+(fR l).length:Nat):Int))=((i+(fR (x::l)).length:Nat):Int):=by
   have h3:(fR (x::l)).length=17+x.length+(fR l).length:=by unfold fR;rw [List.flatMap_cons,List.length_append,fB]
   split
   ·rename_i h0;subst h0;rw [h3];simp [fR]
   rw [h3];congr 1;omega
  rw [e1] at h;simpa [List.append_assoc] using h
theorem e31 (l:List aC) (tl:aC) (hl:l.length≤60) (hx:∀ x∈l,x.length≤400) (hB:EI tl) (hbl:(fR l++tl).length≤1000000):m8 (fR l++tl)=some (l,((fR l).length:Int)):=by
 have h:=PB (fR l++tl) hbl tl hB l 0 0 [] hx (Nat.zero_le _) rfl (by simpa using hl) (.inl rfl);have e1:(if l=[] then (0:Int) else ((0+(fR l).length:Nat):Int))=((fR l).length:Int):=by
  split
  ·rename_i h0;subst h0;rfl
  rw [Nat.zero_add]
 rw [e1,List.nil_append] at h;unfold m8;rcases h with h | h
 ·rw [show ((0:Int),(0:Int),([]:List aC))=(((0:Nat):Int),(0:Int),([]:List aC)) from rfl,h];rfl
 rw [show ((0:Int),(0:Int),([]:List aC))=(((0:Nat):Int),(0:Int),([]:List aC)) from rfl,h];rfl
end T12
set_option maxHeartbeats 1000000
namespace T12
open Go Go.Proofs Pk
theorem kC (many:Int) (t:Bool) (i k:Nat) (s:aC) (hi:(i:Int) < many) (hm:many≤6) (hk:k≤9000000) (hs:s.length≤100):pA many t (i,(k:Int),s)=some (.inl (i+1,((k/8:Nat):Int),[D t (k%8)]++s)):=by
 unfold pA;dsimp only;have h8:((k:Int)%8)=((k%8:Nat):Int):=by omega
 have h9:k%8 < 8:=Nat.mod_lt _ (by decide);rw [if_pos hi,aO (by omega),h8];have hd:((if t=true then some (7 - ((k%8:Nat):Int)) else some ((k%8:Nat):Int)):Option Int)=some (dI t (k%8)):=by
  unfold dI;cases t <;> rfl
 rw [hd,Option.bind_some];have hb:0≤dI t (k%8)∧dI t (k%8)≤7:=by unfold dI;split <;> omega
 rw [aO (by omega),aO (by omega),aO (by simp;omega),aO (by omega),aO (by omega)];rfl
theorem zO (many:Int) (t:Bool) (i:Nat) (k:Int) (s:aC) (h:¬(i:Int) < many):pA many t (i,k,s)=some (.inr s):=by
 unfold pA;dsimp only;rw [if_neg h]
theorem f4 (k:Nat) (t:Bool) (hk:k≤9000000):CE (k:Int) 4 t=some (jK k t):=by
 unfold CE
 rw [aS (kC 4 t 0 k _ (by omega) (by omega) (by omega) (by simp)),aS (kC 4 t 1 _ _ (by omega) (by omega) (by omega) (by simp)),
  aS (kC 4 t 2 _ _ (by omega) (by omega) (by omega) (by simp)),aS (kC 4 t 3 _ _ (by omega) (by omega) (by omega) (by simp)),bB (zO 4 t _ _ _ (by omega))]
 rfl
theorem f6 (k:Nat) (t:Bool) (hk:k≤9000000):CE (k:Int) 6 t=some (uM k t):=by
 unfold CE
 rw [aS (kC 6 t 0 k _ (by omega) (by omega) (by omega) (by simp)),aS (kC 6 t 1 _ _ (by omega) (by omega) (by omega) (by simp)),
  aS (kC 6 t 2 _ _ (by omega) (by omega) (by omega) (by simp)),aS (kC 6 t 3 _ _ (by omega) (by omega) (by omega) (by simp)),
  aS (kC 6 t 4 _ _ (by omega) (by omega) (by omega) (by simp)),aS (kC 6 t 5 _ _ (by omega) (by omega) (by omega) (by simp)),bB (zO 6 t _ _ _ (by omega))]
 rfl
theorem PC (s:aC) (hs:s.length≤1000000):∀ (n i h:Nat),s.length - i=n→i≤s.length→h < 262139→bA (pB s) (i,(h:Int))=some ((((s.drop i).foldl ck h:Nat):Int)):=by
 intro n
 induction n with
 | zero =>
  intro i h hn hi hh;have:i=s.length:=by omega
  subst this;rw [List.drop_length];refine bB ?_;unfold pB;dsimp only;rw [if_neg (by omega)];rfl
 | succ n ih =>
  intro i h hn hi hh;have hlt:i < s.length:=by omega
  have hx:s[i]?=some s[i]:=List.getElem?_eq_getElem hlt;have hb:=(s[i]).toNat_lt;have hst:pB s (i,(h:Int))=some (.inl (i+1,((ck h s[i]:Nat):Int))):=by
   unfold pB;dsimp only;rw [if_pos (by omega),aO (by omega),hx,Option.bind_some,aO (by omega),aO (by omega),aO (by omega),aO (by omega)];congr 3
  rw [aS hst,ih (i+1) _ (by omega) (by omega) (zL _ _)];congr 2;rw [List.drop_eq_getElem_cons hlt,List.foldl_cons]
theorem f77 (s:aC) (hs:s.length≤400):KL s=some (gZ s):=by
 unfold KL;have:=zM s;have h4:∀ k t,(jK k t).length=4:=fun _ _=>rfl;have h6:∀ k t,(uM k t).length=6:=fun _ _=>rfl;rw [show ((0:Nat),(11:Int))=(0,((11:Nat):Int)) from rfl,PC s (by omega) s.length 0 11 (by omega) (by omega) (by decide),Option.bind_some,f4 s.length false (by omega),Option.bind_some,aO (by rw [h4];decide),f4 s.length true (by omega),Option.bind_some,aO (by simp [h4])];rw [List.drop_zero,show s.foldl ck 11=KM s from rfl,f6 (KM s) false (by omega),Option.bind_some,aO (by simp [h4,h6]),aO (by simp [h4,h6]),aO (by simp [h4,h6];omega),aO (by simp [h4,h6];omega)];rfl
theorem PD (l:List aC) (hl:l.length≤60) (h:∀ x∈l,x.length≤400):∀ (n i:Nat) (o:aC),l.length - i=n→i≤l.length→o.length≤417*i→bA (pC l) (i,o)=some (o++fR (l.drop i)):=by
 intro n
 induction n with
 | zero =>
  intro i o hn hi ho;have:i=l.length:=by omega
  subst this;rw [List.drop_length];refine bB ?_;unfold pC;dsimp only;rw [if_neg (by omega)];simp [fR]
 | succ n ih =>
  intro i o hn hi ho;have hlt:i < l.length:=by omega
  have hx:l[i]?=some l[i]:=List.getElem?_eq_getElem hlt;have hb:=h l[i] (List.getElem_mem hlt);have h3:=fB l[i];have hst:pC l (i,o)=some (.inl (i+1,o++gZ l[i])):=by
   unfold pC;dsimp only;rw [if_pos (by omega),hx,Option.bind_some,f77 _ hb,Option.bind_some,aO (by omega)]
  rw [aS hst,ih (i+1) _ (by omega) (by omega) (by rw [List.length_append];omega),show l.drop i=l[i]::l.drop (i+1) from List.drop_eq_getElem_cons hlt];unfold fR;rw [List.flatMap_cons,List.append_assoc]
theorem f32 (l:List aC) (hl:l.length≤60) (h:∀ x∈l,x.length≤400):NB l=some (fR l):=by
 unfold NB;rw [PD l hl h l.length 0 [] (by omega) (by omega) (by simp)];rfl
theorem PE (l:aC) (h:l.length=4):∃ a b c d,l=[a,b,c,d]:=by
 match l,h with
 | [a,b,c,d],_=>exact ⟨a,b,c,d,rfl⟩
def tK (l:List aC):Prop:=l.length≤60∧∀ x∈l,x.length≤400
theorem PF (l:List aC):∀ (n i:Nat),l.length - i=n→i≤l.length→(bA (rG l) i=some (.inl ())∧∀ x∈l.drop i,x.length≤400)∨(bA (rG l) i=some (.inr false)∧¬∀ x∈l.drop i,x.length≤400):=by
 intro n
 induction n with
 | zero =>
  intro i hn hi;refine .inl ⟨bB ?_,?_⟩
  ·unfold rG;rw [if_neg (by omega)]
  rw [List.drop_eq_nil_of_le (by omega)];simp
 | succ n ih =>
  intro i hn hi;have hlt:i < l.length:=by omega
  have hx:l[i]?=some l[i]:=List.getElem?_eq_getElem hlt;by_cases hb:(l[i]).length≤400
  ·have hst:rG l i=some (.inl (i+1)):=by
    unfold rG;rw [if_pos (by omega),hx,Option.bind_some,if_neg (by omega)]
   rw [aS hst,List.drop_eq_getElem_cons hlt];rcases ih (i+1) (by omega) (by omega) with ⟨h1,h2⟩ | ⟨h1,h2⟩
   ·exact .inl ⟨h1,List.forall_mem_cons.2 ⟨hb,h2⟩⟩
   exact .inr ⟨h1,fun h=>h2 fun x hx=>h x (List.mem_cons_of_mem _ hx)⟩
  refine .inr ⟨bB ?_,?_⟩
  ·unfold rG;rw [if_pos (by omega),hx,Option.bind_some,if_pos (by omega)]
  rw [List.drop_eq_getElem_cons hlt];exact fun h=>hb (h _ (List.mem_cons_self ..))
theorem f18 (l:List aC):(m9 l=some true∧tK l)∨(m9 l=some false∧¬tK l):=by
 unfold m9;rcases PF l l.length 0 (by omega) (by omega) with ⟨h1,h2⟩ | ⟨h1,h2⟩
 ·rw [h1,Option.bind_some];rw [List.drop_zero] at h2;by_cases h:l.length≤60
  ·exact .inl ⟨by simp only [Option.some.injEq,decide_eq_true_eq];omega,h,h2⟩
  exact .inr ⟨by simp only [Option.some.injEq,decide_eq_false_iff_not];omega,fun q=>h q.1⟩
 rw [h1,Option.bind_some];rw [List.drop_zero] at h2;exact .inr ⟨rfl,fun q=>h2 q.2⟩
theorem CS (l:List aC):∀ (n i:Nat),l.length - i=n→i≤l.length→(¬∀ x∈l.drop i,x.length≤400)→∃ k:Nat,bA (jY l uR) i=some (.inr (k:Int)):=by
 intro n
 induction n with
 | zero =>
  intro i hn hi h;rw [List.drop_eq_nil_of_le (by omega)] at h;exact absurd (by simp) h
 | succ n ih =>
  intro i hn hi h;have hlt:i < l.length:=by omega
  have hx:l[i]?=some l[i]:=List.getElem?_eq_getElem hlt;by_cases hb:(l[i]).length≤400
  ·have hst:jY l uR i=some (.inl (i+1)):=by
    unfold jY uR;rw [if_pos (by omega),hx,Option.bind_some,Option.bind_some,if_neg (by simp;omega)]
   rw [aS hst];refine ih (i+1) (by omega) (by omega) fun h2=>h ?_;rw [List.drop_eq_getElem_cons hlt];exact List.forall_mem_cons.2 ⟨hb,h2⟩
  refine ⟨i,bB ?_⟩;unfold jY uR;rw [if_pos (by omega),hx,Option.bind_some,Option.bind_some,if_pos (by simp;omega)]
theorem aBu (l:List aC) (h:¬tK l):m19 l=some 3:=by
 unfold m19;by_cases hl:l.length≤60
 ·obtain ⟨k,hk⟩:=CS l l.length 0 (by omega) (by omega) (fun h2=>h ⟨hl,by simpa using h2⟩);unfold KI MJ;rw [if_neg (by omega),hk];simp
 rw [if_pos (by omega)];rfl
theorem aBv (l:List aC) (h:¬tK l):m6 l=some ([],3):=by
 unfold m6;rw [aBu l h,Option.bind_some,if_pos (by decide)]
end T12
set_option maxHeartbeats 1000000
namespace T12
open Go Go.Proofs Pk
theorem aBw (r:aC):EI r∨∃ x rest,x.length≤400∧r=gZ x++rest:=by
 by_cases h0:r.length < 17
 ·exact .inl (.inl h0)
 obtain ⟨a,b,c,d,e⟩:=PE ((r.drop 1).take 4) (by rw [List.length_take,List.length_drop];omega);obtain ⟨w,hw⟩:=JY a b c d;by_cases h:w < 0∨400 < w∨(r.length:Int) < 17+w∨gZ ((r.drop 16).take w.toNat)≠r.take (17+w.toNat)
 ·exact .inl (.inr ⟨w,by rw [e,hw],h⟩)
 simp only [not_or,Classical.not_not] at h;obtain ⟨h1,h2,h3,h4⟩:=h;refine .inr ⟨(r.drop 16).take w.toNat,r.drop (17+w.toNat),by rw [List.length_take];omega,?_⟩;rw [h4,List.take_append_drop]
theorem JZ (b:aC) (i:Nat) (rd:Int) (ls:List aC) (x rest:aC) (hb:b.drop i=gZ x++rest) (hx:x.length≤400) (hbl:b.length≤1000000) (hl:ls.length=60) :
  kY b ((i:Int),rd,ls)=some (.inr (.inr (.inr (rd,ls)))):=by
 have hlen:b.length - i=17+x.length+rest.length:=by
  have:=congrArg List.length hb;rw [List.length_drop,List.length_append,fB] at this;exact this
 have t1:((i:Int)+1).toNat=i+1:=by omega
 have t2:((i:Int)+1+4).toNat=i+1+4:=by omega
 have t3:((i:Int)+16).toNat=i+16:=by omega
 have t4:((i:Int)+17+(x.length:Int) - 1).toNat=i+16+x.length:=by omega
 have t5:((i:Int)+17+(x.length:Int)).toNat=i+(17+x.length):=by omega
 have t6:(i:Int).toNat=i:=by omega
 have t7:i+1+4 - (i+1)=4:=by omega
 have t8:i+16+x.length - (i+16)=x.length:=by omega
 have t9:i+(17+x.length) - i=17+x.length:=by omega
 have b1:(b.drop (i+1)).take 4=jK x.length false:=by rw [← eX,hb,lP]
 have b2:(b.drop (i+16)).take x.length=x:=by rw [← eX,hb,nK]
 have b3:(b.drop i).take (17+x.length)=gZ x:=by rw [hb,← fB,List.take_left]
 unfold kY;dsimp only;rw [aO (by omega),if_pos (by omega),aO (by omega),aO (by omega),aO (by omega),aO (by omega),t1,t2,aO (by omega),t7,b1,CR _ (by omega),Option.bind_some];have h0:nH (x.length:Int) 0 400=some true:=by
  unfold nH;rw [if_pos (by omega)];simp;omega
 rw [h0,Option.bind_some,if_pos rfl,aO (by omega),Option.bind_some,if_neg (by simp;omega),aO (by omega),aO (by omega),aO (by omega),aO (by omega),aO (by omega),aO (by omega),t3,t4,aO (by omega),t8,b2,CQ x hx,Option.bind_some,aO (by omega),aO (by omega),t5,t6,aO (by omega),t9,b3,if_neg (by simp),if_pos (by omega),Option.bind_some]
abbrev dg (x:UInt8):Prop:=¬(x.toNat < 48∨55 < x.toNat)
def nx (acc:Int) (x:UInt8):Int:=8*acc+((x.toNat:Int) - 48)
theorem CT {acc:Int} {x:UInt8} (h:dg x) (h0:0≤acc):0≤nx acc x∧nx acc x≤8*acc+7:=by unfold nx dg at *;omega
theorem CU (b:aC) (i j:Nat) (ls:List aC) (acc:Int) (x:UInt8) (hx:b[j]?=some x) (hj:j≤i+4) (hb:b.length≤1000000) (hi4:i≤1000000) (h0:0≤acc) (h1:acc≤9000000) :
  lT ((i:Int),ls) b (acc,(j:Int))=some (if dg x then .inl (nx acc x,((j+1:Nat):Int)) else .inr (.inr (.inr (.inr (ls,(i:Int)))))):=by
 have hl:=x.toNat_lt;have hi:j < b.length:=(List.getElem?_eq_some_iff.1 hx).1;have tj:(j:Int).toNat=j:=by omega
 unfold lT;dsimp only;rw [aO (by omega),if_pos (by omega),aO (by omega),tj,hx,Option.bind_some];by_cases h2:x.toNat < 48
 ·rw [if_pos (by omega),Option.bind_some,if_pos rfl,if_neg (fun h=>h (.inl h2))]
 rw [if_neg (by omega),Option.bind_some];by_cases h3:55 < x.toNat
 ·rw [if_pos (by simp;omega),if_neg (fun h=>h (.inr h3))]
 rw [if_neg (by simp;omega),aO (by omega),aO (by omega),Option.bind_some,aO (by omega),aO (by omega),if_pos (show dg x from fun h=>by omega)];congr 3;unfold nx;omega
theorem PG (b:aC) (i j:Nat) (ls:List aC) (acc:Int) (hj:i+4 < j) (hi:i≤1000000):lT ((i:Int),ls) b (acc,(j:Int))=some (.inr (.inl acc)):=by
 unfold lT;dsimp only;rw [aO (by omega),if_neg (by omega)]
theorem dig (b:aC) (i:Nat) (ls:List aC) (hb:b.length≤1000000) (h4:i+17≤b.length) :
  (∃ v:Int,0≤v∧v≤4095∧uU ((b.drop (i+1)).take 4)=some v∧bA (lT ((i:Int),ls) b) (0,((i+1:Nat):Int))=some (.inl v)) ∨
  (uU ((b.drop (i+1)).take 4)=some (-1)∧bA (lT ((i:Int),ls) b) (0,((i+1:Nat):Int))=some (.inr (.inr (.inr (ls,(i:Int)))))):=by
 obtain ⟨x,y,z,w,e⟩:=PE ((b.drop (i+1)).take 4) (by rw [List.length_take,List.length_drop];omega);have g:∀ k u,k < 4→[x,y,z,w][k]?=some u→b[i+1+k]?=some u:=fun k u hk hu=>by
  rw [← e,List.getElem?_take,if_pos hk,List.getElem?_drop] at hu;exact hu
 rw [e];have P0:=iU [x,y,z,w] 0 x 0 rfl (by omega) (by omega);have R0:=CU b i (i+1) ls 0 x (g 0 x (by omega) rfl) (by omega) hb (by omega) (by omega) (by omega);unfold uU;by_cases h0:dg x
 ·rw [if_neg h0] at P0;rw [if_pos h0] at R0;have b0:=CT h0 (Int.le_refl 0);rw [aS P0,aS R0];have P1:=iU [x,y,z,w] 1 y (nx 0 x) rfl (by omega) (by omega);have R1:=CU b i (i+1+1) ls (nx 0 x) y (g 1 y (by omega) rfl) (by omega) hb (by omega) (by omega) (by omega);by_cases h1:dg y
  ·rw [if_neg h1] at P1;rw [if_pos h1] at R1;have b1:=CT h1 b0.1;rw [show (8*0+((x.toNat:Int) - 48))=nx 0 x from rfl,aS P1,aS R1];have P2:=iU [x,y,z,w] 2 z (nx (nx 0 x) y) rfl (by omega) (by omega);have R2:=CU b i (i+1+1+1) ls (nx (nx 0 x) y) z (g 2 z (by omega) rfl) (by omega) hb (by omega) (by omega) (by omega);by_cases h2:dg z
   ·rw [if_neg h2] at P2;rw [if_pos h2] at R2;have b2:=CT h2 b1.1;rw [show (8*nx 0 x+((y.toNat:Int) - 48))=nx (nx 0 x) y from rfl,aS P2,aS R2];have P3:=iU [x,y,z,w] 3 w (nx (nx (nx 0 x) y) z) rfl (by omega) (by omega);have R3:=CU b i (i+1+1+1+1) ls (nx (nx (nx 0 x) y) z) w (g 3 w (by omega) rfl) (by omega) hb (by omega) (by omega) (by omega);by_cases h3:dg w
    ·rw [if_neg h3] at P3;rw [if_pos h3] at R3;have b3:=CT h3 b2.1;rw [show (8*nx (nx 0 x) y+((z.toNat:Int) - 48))=nx (nx (nx 0 x) y) z from rfl,aS P3,aS R3];refine .inl ⟨nx (nx (nx (nx 0 x) y) z) w,b3.1,by omega,?_,bB (PG b i _ ls _ (by omega) (by omega))⟩;rw [show (8*nx (nx (nx 0 x) y) z+((w.toNat:Int) - 48))=nx (nx (nx (nx 0 x) y) z) w from rfl,show bA (lS [x,y,z,w]) (3+1,nx (nx (nx (nx 0 x) y) z) w)=some (.inl (nx (nx (nx (nx 0 x) y) z) w)) from bB (sN [x,y,z,w] _)];rfl
    rw [if_pos (Classical.not_not.1 h3)] at P3;rw [if_neg h3] at R3;rw [show (8*nx (nx 0 x) y+((z.toNat:Int) - 48))=nx (nx (nx 0 x) y) z from rfl,bB P3,bB R3];exact .inr ⟨rfl,rfl⟩
   rw [if_pos (Classical.not_not.1 h2)] at P2;rw [if_neg h2] at R2;rw [show (8*nx 0 x+((y.toNat:Int) - 48))=nx (nx 0 x) y from rfl,bB P2,bB R2];exact .inr ⟨rfl,rfl⟩
  rw [if_pos (Classical.not_not.1 h1)] at P1;rw [if_neg h1] at R1;rw [show (8*0+((x.toNat:Int) - 48))=nx 0 x from rfl,bB P1,bB R1];exact .inr ⟨rfl,rfl⟩
 rw [if_pos (Classical.not_not.1 h0)] at P0;rw [if_neg h0] at R0;rw [bB P0,bB R0];exact .inr ⟨rfl,rfl⟩
theorem zP (b:aC) (i:Nat) (ls:List aC) (h:60≤ls.length∨b.length < i+17) (hi:i≤1000000):jJ b ((i:Int),ls)=some (.inr (.inl ((i:Int),ls))):=by
 unfold jJ;dsimp only;by_cases h6:(ls.length:Int) < 60
 ·rw [if_pos h6,aO (by omega),Option.bind_some,if_neg (by simp;omega)]
 rw [if_neg h6,Option.bind_some,if_neg (by simp)]
theorem EJ (b:aC) (i:Nat) (ls:List aC) (hB:EI (b.drop i)) (hi:i≤b.length) (hbl:b.length≤1000000) :
  jJ b ((i:Int),ls)=some (.inr (.inl ((i:Int),ls)))∨jJ b ((i:Int),ls)=some (.inr (.inr (ls,(i:Int)))):=by
 by_cases h:60≤ls.length∨b.length < i+17
 ·exact .inl (zP b i ls h (by omega))
 right;unfold EI at hB;rw [List.length_drop] at hB;rcases hB with hB | ⟨v,hv,hB⟩
 ·omega
 rw [eX] at hv;have t1:((i:Int)+1)=((i+1:Nat):Int):=by omega
 have t3:((i:Int)+16).toNat=i+16:=by omega
 have t6:(i:Int).toNat=i:=by omega
 unfold jJ;dsimp only;rw [if_pos (by omega),aO (by omega),Option.bind_some,if_pos (by simp;omega),aO (by omega),t1];rcases dig b i ls hbl (by omega) with ⟨u,h0,h1,h2,h3⟩ | ⟨h2,h3⟩
 ·rw [h2] at hv;cases hv;rw [h3,Option.bind_some];dsimp only;by_cases h4:400 < v
  ·rw [if_pos h4,Option.bind_some,if_pos rfl]
  rw [if_neg h4,aO (by omega),aO (by omega)];by_cases hs:(b.length:Int) < (i:Int)+17+v
  ·rw [if_pos hs,Option.bind_some,if_pos rfl]
  have t4:((i:Int)+16+v).toNat=i+16+v.toNat:=by omega
  have t5:((i:Int)+17+v).toNat=i+(17+v.toNat):=by omega
  have t8:i+16+v.toNat - (i+16)=v.toNat:=by omega
  have t9:i+(17+v.toNat) - i=17+v.toNat:=by omega
  have hr:gZ ((b.drop (i+16)).take v.toNat)≠(b.drop i).take (17+v.toNat):=by
   rw [eX] at hB;rcases hB with h | h | h | h
   ·omega
   ·omega
   ·omega
   exact h
  rw [if_neg hs,aO (by omega),aO (by omega),aO (by omega),aO (by omega),t3,t4,aO (by omega),t8,f77 _ (by rw [List.length_take];omega),Option.bind_some,aO (by omega),aO (by omega),t5,t6,aO (by omega),t9,Option.bind_some,if_pos (by simp;exact hr)]
 rw [h3,Option.bind_some]
theorem PH (b:aC) (i:Nat) (ls:List aC) (x rest:aC) (hb:b.drop i=gZ x++rest) (hx:x.length≤400) (hbl:b.length≤1000000) (hl:ls.length < 60) :
  jJ b ((i:Int),ls)=some (.inl (((i+(17+x.length):Nat):Int),ls++[x])):=by
 have hlen:b.length - i=17+x.length+rest.length:=by
  have:=congrArg List.length hb;rw [List.length_drop,List.length_append,fB] at this;exact this
 have t1:((i:Int)+1)=((i+1:Nat):Int):=by omega
 have t3:((i:Int)+16).toNat=i+16:=by omega
 have t4:((i:Int)+16+(x.length:Int)).toNat=i+16+x.length:=by omega
 have t5:((i:Int)+17+(x.length:Int)).toNat=i+(17+x.length):=by omega
 have t6:(i:Int).toNat=i:=by omega
 have t8:i+16+x.length - (i+16)=x.length:=by omega
 have t9:i+(17+x.length) - i=17+x.length:=by omega
 have b1:(b.drop (i+1)).take 4=jK x.length false:=by rw [← eX,hb,lP]
 have b2:(b.drop (i+16)).take x.length=x:=by rw [← eX,hb,nK]
 have b3:(b.drop i).take (17+x.length)=gZ x:=by rw [hb,← fB,List.take_left]
 unfold jJ;dsimp only;rw [if_pos (by omega),aO (by omega),Option.bind_some,if_pos (by simp;omega),aO (by omega),t1];rcases dig b i ls hbl (by omega) with ⟨u,h0,h1,h2,h3⟩ | ⟨h2,h3⟩
 ·rw [b1,CR _ (by omega)] at h2;cases h2;rw [h3,Option.bind_some];dsimp only;rw [if_neg (by omega),aO (by omega),aO (by omega),if_neg (by omega),aO (by omega),aO (by omega),aO (by omega),aO (by omega),t3,t4,aO (by omega),t8,b2,f77 _ hx,Option.bind_some,aO (by omega),aO (by omega),t5,t6,aO (by omega),t9,b3,Option.bind_some,if_neg (by simp),aO (by omega),aO (by omega),aO (by omega),aO (by omega),aO (by omega),aO (by omega),aO (by omega),aO (by omega)];rw [show (i:Int)+17+(x.length:Int)=((i+(17+x.length):Nat):Int) by omega]
 rw [b1,CR _ (by omega)] at h2;exact absurd (Option.some.inj h2) (by omega)
theorem aBx (b:aC) (hbl:b.length≤1000000):∀ (n i:Nat) (ls:List aC),b.length - i≤n→i≤b.length→ls.length≤60→∃ (k:Int) (l:List aC),
  (bA (kY b) ((i:Int),(i:Int),ls)=some (.inl (k,l))∨bA (kY b) ((i:Int),(i:Int),ls)=some (.inr (.inl (k,l)))∨bA (kY b) ((i:Int),(i:Int),ls)=some (.inr (.inr (k,l)))) ∧
  (bA (jJ b) ((i:Int),ls)=some (.inl (k,l))∨bA (jJ b) ((i:Int),ls)=some (.inr (l,k))):=by
 intro n
 induction n with
 | zero =>
  intro i ls hn hi hl;have hB:EI (b.drop i):=.inl (by rw [List.length_drop];omega);refine ⟨(i:Int),ls,?_,?_⟩
  ·rcases zN b i (i:Int) ls hi hB hbl with h | h
   ·exact .inl (bB h)
   exact .inr (.inl (bB h))
  rcases EJ b i ls hB hi hbl with h | h
  ·exact .inl (bB h)
  exact .inr (bB h)
 | succ n ih =>
  intro i ls hn hi hl;rcases aBw (b.drop i) with hB | ⟨x,rest,hx,hb⟩
  ·refine ⟨(i:Int),ls,?_,?_⟩
   ·rcases zN b i (i:Int) ls hi hB hbl with h | h
    ·exact .inl (bB h)
    exact .inr (.inl (bB h))
   rcases EJ b i ls hB hi hbl with h | h
   ·exact .inl (bB h)
   exact .inr (bB h)
  by_cases h0:ls.length=60
  ·exact ⟨(i:Int),ls,.inr (.inr (bB (JZ b i _ ls x rest hb hx hbl h0))),.inl (bB (zP b i ls (.inl (by omega)) (by omega)))⟩
  have hlen:b.length - i=17+x.length+rest.length:=by
   have:=congrArg List.length hb;rw [List.length_drop,List.length_append,fB] at this;exact this
  rw [aS (PA b i _ ls x rest hb hx hbl (by omega)),aS (PH b i ls x rest hb hx hbl (by omega))];exact ih (i+(17+x.length)) (ls++[x]) (by omega) (by omega) (by simp;omega)
theorem PI (b:aC) (hbl:b.length≤1000000):∃ l k,m8 b=some (l,k)∧NC b=some (l,k):=by
 obtain ⟨k,l,h1,h2⟩:=aBx b hbl b.length 0 [] (by omega) (by omega) (by simp);refine ⟨l,k,?_,?_⟩
 ·unfold m8;rcases h1 with h | h | h <;> rw [show ((0:Int),(0:Int),([]:List aC))=(((0:Nat):Int),((0:Nat):Int),([]:List aC)) from rfl,h] <;> rfl
 unfold NC;rcases h2 with h | h <;> rw [show ((0:Int),([]:List aC))=(((0:Nat):Int),([]:List aC)) from rfl,h] <;> rfl
theorem f34 (l:List aC):KK l l=some true:=by
 have:∀ (n i:Nat),l.length - i=n→i≤l.length→bA (oZ l l) i=some (.inl ()):=by
  intro n
  induction n with
  | zero =>
   intro i hn hi;refine bB ?_;unfold oZ;rw [if_neg (by omega)]
  | succ n ih =>
   intro i hn hi;have hlt:i < l.length:=by omega
   have hx:l[i]?=some l[i]:=List.getElem?_eq_getElem hlt;have hst:oZ l l i=some (.inl (i+1)):=by
    unfold oZ;rw [if_pos (by omega),hx,Option.bind_some,Option.bind_some,if_neg (by simp)]
   rw [aS hst,ih (i+1) (by omega) (by omega)]
 unfold KK;rw [if_neg (by simp),this l.length 0 (by omega) (by omega)];rfl
def KA (s:Int) (x:aC):Int:=IntKind.i64.wrap (s+(x.length:Int))
theorem aBy (l:List aC):∀ (n i:Nat) (s:Int),l.length - i=n→i≤l.length→bA (uB l) (i,s)=some ((l.drop i).foldl KA s):=by
 intro n
 induction n with
 | zero =>
  intro i s hn hi;refine bB ?_;unfold uB;dsimp only;rw [if_neg (by omega),List.drop_eq_nil_of_le (by omega)];rfl
 | succ n ih =>
  intro i s hn hi;have hlt:i < l.length:=by omega
  have hx:l[i]?=some l[i]:=List.getElem?_eq_getElem hlt;have hst:uB l (i,s)=some (.inl (i+1,KA s l[i])):=by
   unfold uB;dsimp only;rw [if_pos (by omega),hx,Option.bind_some];rfl
  rw [aS hst,ih (i+1) _ (by omega) (by omega),List.drop_eq_getElem_cons hlt,List.foldl_cons]
theorem aBz (JV:m5=some true) (l:List aC) (b:aC):m3 l b=some true:=by
 unfold m3;rw [aBy l l.length 0 0 (by omega) (by omega),List.drop_zero,Option.bind_some];by_cases h1:(62:Int) < (l.length:Int)
 ·rw [if_pos h1,Option.bind_some,if_pos rfl,JV];rfl
 rw [if_neg h1];by_cases h2:4000 < l.foldl KA 0
 ·rw [if_pos h2,Option.bind_some,if_pos rfl,JV];rfl
 rw [if_neg h2,Option.bind_some];by_cases h3:(4000:Int) < (b.length:Int)
 ·rw [if_pos (by simpa using h3),JV];rfl
 rw [if_neg (by simpa using h3)];have h0:m7 l=some l:=by
  unfold m7;rw [aO (by simp;omega)];rfl
 obtain ⟨L,k,e1,e2⟩:=PI b (by omega);rw [h0,Option.bind_some];rcases f18 l with ⟨e3,hR⟩ | ⟨e3,hR⟩
 ·rw [e30 l hR.1 hR.2,Option.bind_some,aO (by simp;omega),List.nil_append,e1,Option.bind_some,e3,Option.bind_some,if_pos rfl];dsimp only;rw [if_neg (by decide),f32 l hR.1 hR.2,Option.bind_some,Option.bind_some,if_neg (by simp),Option.bind_some];dsimp only;rw [e2,Option.bind_some,f34,Option.bind_some,if_pos rfl,if_pos rfl,JV];rfl
 rw [aBv l hR,Option.bind_some,aO (by simp;omega),List.nil_append,e1,Option.bind_some,e3,Option.bind_some,if_neg (by decide)];dsimp only;rw [if_neg (by decide),Option.bind_some,if_neg (by simp),Option.bind_some];dsimp only;rw [e2,Option.bind_some,f34,Option.bind_some,if_pos rfl,if_pos rfl,JV];rfl
end T12
