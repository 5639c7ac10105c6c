/- Part 3 of what all laws of layer 8 need: a logic of programs that start goroutines, and what the functions yield. -/
import Derived.Test.YtfeahfjambednaaGreatDoorN2
set_option linter.unusedVariables false
set_option linter.unusedSimpArgs false
set_option maxRecDepth 100000
set_option maxHeartbeats 4000000
namespace Go.Proofs.YtfeahfjambednaaGreatDoor
open Go
section
def Xc:List LPart->Int
 | []=>0
 | p::l=>p.grams+Xc l
theorem Bpu{l m:List LPart}:Xc (l++m)=Xc l+Xc m:=by
 induction l with
 | nil=>simp[Xc]
 | cons p l ih=>rw[Sz,Xc,Xc,ih];omega
theorem Are{l:List LPart}{i:Nat}{p:LPart}(h:l[i]?=some p):Xc (l.take (i+1))=Xc (l.take i)+p.grams:=by rw[Wa,h,Bpu];simp[Xc]
def Eo(l:LLot):Int:=Xc l.parts
def Tf(l:List Int)(below:Int)(i:Nat):Int:=match l[i]? with
 | some n=>if inR n 0 (below-1) then (if 0<i/\n<=l.getD (i-1) 0 then 7 else 0) else 6
 | none=>0
def Er(l:List Int)(below:Int):Int:=Hl l.length (Tf l below)
section
variable{l:List Int}{b n m:Int}{i:Nat}
theorem Bca(h:l[i]?=some n)(hr:inR n 0 (b-1)=false):Tf l b i=6:=by unfold Tf;rw[h];simp[hr]
theorem Bcb(h:l[i]?=some n)(hr:inR n 0 (b-1)=true)(hi:0<i)(hm:l[((i:Int)-1).toNat]?=some m)(hle:n<=m):Tf l b i=7:=by rw[show ((i:Int)-1).toNat=i-1 by omega]at hm;unfold Tf;rw[h];simp[hr,hi,Wx,hm,hle]
theorem Agw(h:l[i]?=some n)(hr:inR n 0 (b-1)=true)(hp:0<i->∃m,l[((i:Int)-1).toNat]?=some m/\m<n):Tf l b i=0:=by unfold Tf;rw[h];simp only[hr,if_true];rw[if_neg];rintro⟨hi,hle⟩;obtain⟨m,hm,hlt⟩:=hp hi;rw[show ((i:Int)-1).toNat=i-1 by omega]at hm;rw[Wx,hm]at hle;simp at hle;omega
end
theorem Aha:∀{n:Nat},n<8->IntKind.u64.wrap (((1 <<< n:Nat)):Int)=((1 <<< n:Nat):Int)/\1 <<< n<256:=by decide
theorem Bbm{l:List Nat}{i n:Nat}(h:l[i]?=some n):Bf (l.take (i+1))=Bf (l.take i) ||| 1 <<< n:=by unfold Bf;rw[Wa,h,Axd];rfl
end
section
theorem Bjz{p q:Nat}(hp:p<2^63)(hq:q<2^63):Op.intBits .or .u64 p q=pure (.int .u64 ((p ||| q:Nat):Int)):=by
 have c:p ||| q<2^63:=Bdz hp hq;simp only[Op.intBits];congr 2;have:(BitVec.ofInt IntKind.u64.bits p ||| BitVec.ofInt IntKind.u64.bits q).toNat=p ||| q:=by
  show (BitVec.ofInt 64 p ||| BitVec.ofInt 64 q).toNat=_;rw[BitVec.toNat_or,BitVec.toNat_ofInt,BitVec.toNat_ofInt];have a:((p:Int)%(2^64:Nat)).toNat=p:=by omega
  have b:((q:Int)%(2^64:Nat)).toNat=q:=by omega
  rw[a,b]
 rw[this];show ((p ||| q:Nat):Int)%_=_;simp only[IntKind.bits];omega
theorem Bfu{P:Program}{Y:Ro}{e:Env}{ty t t':TypeId}{x y:Operand}{p q:Nat}(hx:Af e x = .int .u64 p)(hy:Af e y = .int .u64 q)(hp:p<2^63)(hq:q<2^63):Yld P Y e (.binOp .or t x y t') ty (.int .u64 ((p ||| q:Nat):Int)) :=
 La hx hy Dh (by simp only[binOp];rw[if_neg (by simp)];exact Bjz hp hq)
variable{mn:Bool}{X:Frame->List Frame->Ro->Own->Cy->Prop}{Y:Ro}{Z:Own}
theorem Asn{l:LLot}{vl:Value}(rl:Val Y vl l)(hn:l.parts.length<=100000)(hb:∀p∈l.parts,0<=p.grams/\p.grams<=100000):CallsH (CX mn X) 47 #[vl] Y Z (rP Y Z (iV (Eo l))):=by
 refine Bq 19 [2] Ceq rfl fun Q x a4=>qA fun V y=>Arv (Jl (v:=vl) rfl fun k2=>?_);refine Bb (a:=l) rl fun U K O=>Au (iV 0) (qC y fun K3 G=>Au (iV 0) (Ary rfl rfl G fun K4 K5 H I=>Arw (Ba LLot.f_parts Ccy rfl Gb O) fun v6 P=>Arw (Ax Gb rfl P) fun T g=>?_));have g8:=Val.len g;refine l_v (Ci (el:=127) Ccz rfl g) (Av (iV 0) (l_k I (Ao (Cc (fun mm ee dd Y' Z'=>∃(i:Nat) (a:Int),(l.parts.length-i)=mm/\[]=dd/\U=Y'/\Z=Z'/\ee 7=T/\ee 8=(iV (l.parts.length:Int))/\ee 3=iV a/\ee 9=iV i/\(i<=l.parts.length)/\(a=Xc (l.parts.take i))/\(0<=a/\a<=100000*(i:Int))/\True) (m:=_) ⟨0,0,rfl,rfl,rfl,rfl,rfl,rfl,rfl,rfl,Hr _,rfl,⟨by omega,by omega⟩,trivial⟩ ?_))));rintro m9 e9 _ _ _ ⟨i,a,rfl,rfl,rfl,rfl,j,k,h,e,a7,n,a8,_⟩;refine qA fun W B=>l_v (Da e k) (Asa B fun YQ C=>Bp (t:=decide ((i:Int)<(l.parts.length:Int))) rfl (fun d=>?_) (fun d=>?_))
 ·have L:=lZ1 d;refine Al (kk C ?_);refine Ai fun ZQ D=>Ao (qA fun a0 E=>?_);obtain⟨b,f⟩:=Ed (xs:=l.parts) (i:=i) (by omega);have a5:=hb _ (lZ5 f);refine Arw (Ch i Ccz Im j g (q:=(i:Int)) e rfl f) fun a9 M=>Arw (Ax Im rfl M) fun R u=>Arv (Ct Aod fun a6=>?_);refine Cx rfl (Dv (v:=R) (a:=b) (c:=Aoc) Im rfl rfl u rfl ?_);refine Bb (a:=b) u fun ab J N=>l_k E (qB (l_v (Ah (v:=iV a) h) (Arw (Ba LPart.f_grams Ccx rfl ty3 N) fun aa w=>?_)));have⟨a2,a3⟩:=At.rng w;refine l_v (Bc ty3 rfl w) (l_v (Br rfl rfl (z:=a+b.grams) (Bo (by rfl) (by omega) (by omega))) (Au (iV (a+b.grams)) (l_k D (qB (l_v (Br e rfl (z:=(((i+1):Nat):Int)) wrE) (Av (iV ((i+1):Nat)) (Bj (Cez J) (Ac ?_))))))));refine⟨_,?_,(i+1),(a+b.grams),rfl,rfl,rfl,rfl,j,k,rfl,rfl,(by omega),(by rw[Are f,n]),⟨by omega,by omega⟩,trivial⟩;omega
 have L:=lZ2 d;refine Bx (kk H ?_);refine qA fun a1 F=>l_v (Ah (v:=iV a) h) (Au (iV a) (l_k F (Aj (Cez K) (Aq (x (rT (iV a) ?_))))));rw[n,show i=l.parts.length by omega,Aav];rfl
theorem Avi{l:List Int}{b:Int}{vl:Value}(rl:Val Y vl l)(hb:0<=b/\b<=1000000):CallsH (CX mn X) 40 #[vl,iV b] Y Z (rP Y Z (iV (Er l b))):=by
 refine Bq 33 [4] Tryz.func40 rfl fun Q D aa=>qA fun ZQ J=>Au (iV 0) (Ary rfl rfl J fun K2 K3 N R=>Av vl ?_);have g4:=Val.len rl;refine l_v (Ci (el:=3) Ccu rfl rl) (Av (iV 0) (l_k R (Ao (Cc (fun mm ee dd Y' Z'=>∃(i:Nat),(l.length-i)=mm/\[]=dd/\Y=Y'/\Z=Z'/\ee 0=vl/\ee 1=iV b/\ee 7=vl/\ee 8=(iV (l.length:Int))/\ee 9=iV i/\(i<=l.length)/\(∀j,j<i->Tf l b j=0)/\True) (m:=_) ⟨0,rfl,rfl,rfl,rfl,rfl,rfl,rfl,rfl,rfl,Hr _,fun j h=>absurd h (Td _),trivial⟩ ?_))));rintro m5 e5 _ _ _ ⟨i,rfl,rfl,rfl,rfl,w,x,y,B,d,ab,f,_⟩;refine qA fun K6 T=>l_v (Da d B) (Asa T fun K7 U=>Bp (t:=decide ((i:Int)<(l.length:Int))) rfl (fun u=>?_) (fun u=>?_))
 ·have YQ:=lZ1 u;refine Al (kk U ?_);refine Ai fun K9 G=>Ao (qA fun a0 K=>l_v (Ah (v:=iV i) d) ?_);obtain⟨c,e⟩:=Ed (xs:=l) (i:=i) (by omega);refine Arw (Ch i Ccu ty3 y rl (q:=(i:Int)) d rfl e) fun ae H=>?_;have⟨a6,a7⟩:=At.rng H;refine l_v (Bc ty3 rfl H) (Au (iV i) (Au (iV c) (l_k K (Ao (qA fun a1 L=>Av (iV c) (l_v (Ah (v:=iV b) x) (l_v (Ou rfl rfl (z:=b-1) (Bo (by rfl) (by omega) (by omega))) (Arv (Cj Qx Cdy ?_)))))))));refine l_v (Iy rfl) (Au (.bool (!(inR c 0 (b-1)))) (l_k L (Bp (t:=!(inR c 0 (b-1))) rfl (fun n=>?_) (fun n=>?_))))
  ·have E:=not_eq_t n;have ac:=Xo.1 E;refine qA fun a2 M=>Au (iV 6) (l_k M (Aq (D (rT (iV 6) ?_))));rw[Er,Db f (by omega) (Bca e E) (by decide)]
  have g:=Fp n;have ad:=Fz.1 g;refine qA fun a3 F=>Av (iV i) (l_v (Gl rfl rfl) (Av (.bool (decide ((i:Int)>0))) (Cn (decide ((i:Int)>0)) (fun a=>?_) (fun a=>?_))))
  ·have V:=lZ1 a;refine l_M (iV c) (qF a) rfl (Aa (qF a) (Ah (v:=vl) w) (l_M (iV i) (qF a) rfl (Aa (qF a) (Ou rfl rfl (z:=(i:Int)-1) wrE) ?_)));obtain⟨k,C⟩:=Ed (xs:=l) (i:=(((i:Int)-1)).toNat) (by omega);refine Ak (qF a) (Ch ((((i:Int)-1)).toNat) Ccu ty3 rfl rl (q:=(i:Int)-1) rfl (by omega) C) fun af I=>?_;have⟨a8,a9⟩:=At.rng I;refine Aa (qF a) (Bc ty3 rfl I) (Aa (qF a) (Uz rfl rfl) (l_v (Bt rfl a (v:=.bool (decide (c<=k))) rfl) (Au (.bool (decide (c<=k))) (l_k F (Bp (t:=decide (c<=k)) rfl (fun p=>?_) (fun p=>?_))))))
   ·have W:=lZ1 p;refine qA fun a4 O=>Au (iV 7) (l_k O (Aq (D (rT (iV 7) ?_))));rw[Er,Db f (by omega) (Bcb e g (by omega) C (by omega)) (by decide)]
   have W:=lZ2 p;refine Al (kk G ?_);refine qB (l_v (Br d rfl (z:=(((i+1):Nat):Int)) wrE) (Av (iV ((i+1):Nat)) (Ac ?_)));refine⟨_,?_,(i+1),rfl,rfl,rfl,rfl,w,x,y,B,rfl,(by omega),(Eg f (Agw e g fun h=>⟨_,C,by omega⟩)),trivial⟩;omega
  have V:=lZ2 a;refine Ap (gN rfl a) (Ap (gN rfl a) (Ap (gN rfl a) (Ap (gN rfl a) (Ap (gN rfl a) (Ap (gN rfl a) (Ap (gN rfl a) (l_v (Bn rfl a (v:=bF) rfl) (Au bF (l_k F (Cg rfl rfl (Al (kk G ?_))))))))))));refine qB (l_v (Br d rfl (z:=(((i+1):Nat):Int)) wrE) (Av (iV ((i+1):Nat)) (Ac ?_)));refine⟨_,?_,(i+1),rfl,rfl,rfl,rfl,w,x,y,B,rfl,(by omega),(Eg f (Agw e g fun h=>by omega)),trivial⟩;omega
 have YQ:=lZ2 u;refine Bx (kk N ?_);refine qA fun a5 P=>Au (iV 0) (l_k P (Aq (D (rT (iV 0) ?_))));rw[Er,Fb fun j hj=>f j (by omega)]
theorem Bab{xs:List Nat}{vl:Value}(rl:Val Y vl (Bw xs:List Int))(hb:∀n∈xs,n<8):CallsH (CX mn X) 36 #[vl] Y Z (rP Y Z (.int .u64 ((Bf xs:Nat):Int))):=by
 have hxl:(Bw xs).length=xs.length:=Fc;refine Bq 18 [2] Ceo rfl fun Q w a0=>qA fun K y=>Au (.int .u64 0) (qC y fun O E=>Au (.int .u64 0) (Ary rfl rfl E fun P R F G=>Av vl ?_));have g5:=Val.len rl;refine l_v (Ci (el:=3) Ccu rfl rl) (Av (iV 0) (l_k G (Ao (Cc (fun mm ee dd Y' Z'=>∃(i:Nat) (a:Nat),(xs.length-i)=mm/\[]=dd/\Y=Y'/\Z=Z'/\ee 6=vl/\ee 7=(iV ((Bw xs).length:Nat))/\ee 3=(.int .u64 (a:Int))/\ee 8=iV i/\(i<=xs.length)/\(a=Bf (xs.take i))/\True) (m:=_) ⟨0,0,rfl,rfl,rfl,rfl,rfl,rfl,rfl,rfl,Hr _,rfl,trivial⟩ ?_))));rintro m6 W _ _ _ ⟨i,a,rfl,rfl,rfl,rfl,g,h,f,d,a1,k,_⟩;refine qA fun T H=>l_v (Da d h) (Asa H fun U I=>Bp (t:=decide ((i:Int)<(((Bw xs).length:Nat):Int))) rfl (fun c=>?_) (fun c=>?_))
 ·have J:=lZ1 c;refine Al (kk I ?_);refine Ai fun L B=>Ao (qA fun M C=>?_);obtain⟨V,j⟩:=Ed (xs:=Bw xs) (i:=i) (by omega);obtain⟨b,e,x⟩:=Ts j;subst x;have hqn:=hb b (lZ5 e);have hqb:=Aha (hb b (lZ5 e));have hmb:Bf (xs.take i)<2^8:=Sl fun n hn=>hb n (Bdp hn);obtain⟨hqa,hqc⟩:=hqb;refine Arw (Ch i Ccu ty3 g rl (q:=(i:Int)) d rfl j) fun a2 u=>?_;have⟨YQ,ZQ⟩:=At.rng u;refine l_v (Bc ty3 rfl u) (Au (iV b) (l_k C (qB (l_v (Ah (v:=.int .u64 (a:Int)) f) (Av (iV b) (l_v (Md (p:=1) (q:=b) rfl rfl rfl (by omega) (z:=(((1 <<< b):Nat):Int)) hqa) (l_v (Bfu (p:=a) (q:=1 <<< b) rfl rfl (by omega) (by omega)) (Au (.int .u64 (((a ||| (1 <<< b)):Nat):Int)) (l_k B (qB (l_v (Br d rfl (z:=(((i+1):Nat):Int)) wrE) (Av (iV ((i+1):Nat)) (Ac ?_)))))))))))));refine⟨_,?_,(i+1),(a ||| (1 <<< b)),rfl,rfl,rfl,rfl,g,h,rfl,rfl,(by omega),(by rw[Bbm e,k]),trivial⟩;omega
 have J:=lZ2 c;refine Bx (kk F ?_);refine qA fun N D=>l_v (Ah (v:=.int .u64 (a:Int)) f) (Au (.int .u64 (a:Int)) (l_k D (Aq (w (rT (.int .u64 (a:Int)) ?_)))));rw[k,show i=xs.length by omega,Aav]
theorem Asl{x:Nat}(hx:x<256):CallsH (CX mn X) 52 #[.int .u64 (x:Int)] Y Z (fun w Y' Z'=>Ro.le Y Y'/\Z'=Z/\Val Y' w (Bw (Bv x):List Int)):=by
 have a5:=Sk (x:=x);refine Bq 21 [2] Ces rfl fun Q J a6=>qA fun K1 K=>Au nS (Arx rfl rfl K fun K2 O=>Au nS (Ary rfl rfl O fun K3 K4 P R=>Av (.int .u64 (x:Int)) (Arv (Cj (Apo (x:=x) (by omega)) Tryz.func88 ?_))));refine Av (iV 0) (l_k R (Ao (Cc (fun mm ee dd Y' Z'=>∃(i:Nat) (a:Value) (d:Own),(Ie x-i)=mm/\[]=dd/\Ro.le Y Y'/\(d++Z)=Z'/\ee 0=(.int .u64 (x:Int))/\ee 6=(iV ((Ie x):Nat))/\ee 3=a/\ee 7=iV i/\(i<=Ie x)/\Grow Y' 3 a (Bw ((List.range i).filter (Gw x))) d/\True) (m:=_) ⟨0,nS,[],rfl,rfl,Cfb,rfl,rfl,rfl,rfl,rfl,Hr _,Hm,trivial⟩ ?_)));rintro m5 e5 _ a1 _ ⟨i,a,d,rfl,rfl,k,rfl,g,j,h,e,a7,b,_⟩;refine qA fun K6 T=>l_v (Da e j) (Asa T fun K7 U=>Bp (t:=decide ((i:Int)<(((Ie x):Nat):Int))) rfl (fun f=>?_) (fun f=>?_))
 ·have YQ:=lZ1 f;refine Al (kk U ?_);refine Ai fun K9 u=>Ao (qA fun a2 L=>l_v (Ah (v:=iV i) e) (Au (iV i) (Arx rfl rfl L fun a3 M=>l_v (Ah (v:=.int .u64 (x:Int)) g) (Av (iV i) (l_v (Lc (p:=x) (q:=i) rfl rfl rfl (by omega)) (l_v (Nv (p:=x>>>i) (q:=1) rfl rfl (Nl (by omega))) (l_v (Ek rfl rfl) (l_k M (Bp (t:=((((x>>>i) &&& 1):Nat):Int)==1) rfl (fun c=>?_) (fun c=>?_))))))))))
  ·have H:=bitM.symm.trans c;have W:=Jr c;refine qB (l_v (Ah (v:=a) h) (Av (iV i) (Arv (Bi (α:=Int) (xs:=[(i:Int)]) (vs:=[iV i]) Ccu ty3 zr3 rfl (by decide) (Dk (os:=[.tmp 16]) ⟨rfl,trivial⟩) ⟨Cv.2 ⟨rfl,by constructor<;>omega⟩,trivial⟩ rfl (by decide) fun n F E=>?_))))
   have C:Grow a1 3 (.slice (some ⟨n,0,none⟩) 1 1) ([(i:Int)]:List Int) [(n,oC F.toArray 3)]:=Bs E rfl (by decide);refine Ca C fun a8 y ZQ=>?_;replace b:=Grow.mono y b;refine Arv (Gc (Z:=Z) (gr:=d) (xs:=Bw ((List.range i).filter (Gw x))) (ys:=([(i:Int)]:List Int)) Ccu Ccu (Ab Cea) rfl nL rfl rfl rfl rfl b ZQ (by have:=Alb (p:=Gw x) (i:=i);simp only[lZ3,lZ9,Nq];omega) fun B G D=>?_);refine Au B (l_k u (qB (l_v (Br e rfl (z:=(((i+1):Nat):Int)) wrE) (Av (iV ((i+1):Nat)) (Ac ?_)))));refine⟨_,?_,(i+1),B,G,rfl,rfl,(Cfc k y),rfl,g,j,rfl,rfl,(by omega),(Fy (by rw[Aps H]) D),trivial⟩;omega
  have I:=bitM.symm.trans c;have W:=Jq c;refine Al (kk u ?_);refine qB (l_v (Br e rfl (z:=(((i+1):Nat):Int)) wrE) (Av (iV ((i+1):Nat)) (Ac ?_)));refine⟨_,?_,(i+1),a,d,rfl,rfl,k,rfl,g,j,h,rfl,(by omega),(Fy (by rw[Apr I]) b),trivial⟩;omega
 have YQ:=lZ2 f;refine Bx (kk P ?_);refine qA fun a4 N=>l_v (Ah (v:=a) h) (Au a (l_k N (Hc b fun a9 V a0=>Aq (J ⟨Cfc k V,rfl,Abz (v:=a) rfl (Val.cast ?_ a0)⟩))))
 ·rw[show i=Ie x by omega];rfl
end
section
def isK(v:Value)(k:ByteArray):Bool:=match v with | .string k'=>decide (k'=k)|_=>false
theorem Bdj{v:Value}{k:ByteArray}:isK v k=true↔v = .string k:=by cases v<;>simp[isK]
def Nd(k:ByteArray):List MapEntry->Nat->Option (Nat×Value)
 | [],_=>none
 | en::es,i=>if isK en.key k=true then some (i,en.val) else Nd k es (i+1)
def Bcr(es:List MapEntry):Prop:=∀en∈es,(∃k,en.key = .string k)/\∃z,en.val = .int .i64 z
def Xp(es:Array MapEntry)(f:ByteArray->Option Int):Prop:=Bcr es.toList/\∀k,(Nd k es.toList 0).map (·.2)=(f k).map (Value.int .i64)
def Qp(f:ByteArray->Option Int)(k:ByteArray)(z:Int):ByteArray->Option Int:=fun k'=>if k'=k then some z else f k'
theorem Aml:Xp #[] (fun _=>none):=⟨fun en h=>(by cases h),fun k=>rfl⟩
theorem Apj{k:ByteArray}:∀(es:List MapEntry) (i:Nat),Bcr es->Instr.findNow .string (.string k) es i=some (Nd k es i)
 | [],_,_=>rfl
 | en::es,i,h=>by
  obtain⟨⟨k',h1⟩,_⟩:=h en mC;have ih:=Apj (k:=k) es (i+1) fun x hx=>h x (lZ0 _ hx);simp only[Instr.findNow,h1,Instr.sameNow,Nd];by_cases hk:k=k'
  ·subst hk;have a:(k==k)=true:=by rw[Aec];simp
   simp[isK,a]
  ·have b:(k==k')=false:=by
    rw[Aec];simp only[beq_eq_false_iff_ne,ne_eq];intro e;apply hk;rw[ByteArray.toList_eq,ByteArray.toList_eq]at e;exact ByteArray.ext (Bms.1 e)
   have c:isK (Value.string k') k=false:=Px fun e=>hk e.symm;simp[b,c,ih]
theorem Abj{k:ByteArray}:∀{es:List MapEntry} {i:Nat} {r:Nat×Value},Nd k es i=some r->∃j en,r.1=i+j/\es[j]?=some en/\en.key = .string k/\en.val=r.2
 | [],_,_,h=>by cases h
 | en::es,i,r,h=>by
  unfold Nd at h;split at h
  ·rename_i hk;cases h;exact⟨0,en,rfl,rfl,Bdj.1 hk,rfl⟩
  ·obtain⟨j,en',h1,h2,h3,h4⟩:=Abj h;exact⟨j+1,en',by omega,by simpa using h2,h3,h4⟩
theorem Apl{k:ByteArray}{en:MapEntry}:∀{es:List MapEntry} {i:Nat},Nd k (es++[en]) i=match Nd k es i with|some r=>some r|none=>if isK en.key k=true then some (i+es.length,en.val) else none
 | [],i=>by simp[Nd]
 | x::es,i=>by
  rw[Sz,Nd,Nd];by_cases hx:isK x.key k=true
  ·rw[if_pos hx,if_pos hx]
  ·rw[if_neg hx,if_neg hx,Apl];cases Nd k es (i+1) with
   | some r=>rfl
   | none=>simp only[lZ9];rw[show i+1+es.length=i+(es.length+1) by omega]
theorem Apm{k k':ByteArray}{w:Value}:∀{es:List MapEntry} {i j:Nat} {v:Value},Nd k es i=some (i+j,v) ->
  (Nd k' (es.modify j fun e=>{e with key:=.string k,val:=w}) i).map (·.2)=if k'=k then some w else (Nd k' es i).map (·.2)
 | [],_,_,_,h=>by cases h
 | en::es,i,j,v,h=>by
  unfold Nd at h;by_cases hk:isK en.key k=true
  ·rw[if_pos hk]at h;have hj:j=0:=by
    have:=congrArg (fun o:Option (Nat×Value)=>(o.map (·.1)).getD 0) h;simp at this;omega
   subst hj;rw[List.modify_zero_cons];unfold Nd;by_cases hkk:k'=k
   ·subst hkk;simp[isK]
   ·have a:isK (Value.string k) k'=false:=Px fun e=>hkk e.symm;simp[hkk,Bdj.1 hk,a]
  ·rw[if_neg hk]at h;obtain⟨j',_,b,_⟩:=Abj h;simp only at b;have hj:j=j'+1:=by omega
   subst hj;rw[List.modify_succ_cons];unfold Nd;by_cases hx:isK en.key k'=true
   ·have hkk:k'≠k:=fun e=>hk (by rw[<-e];exact hx);simp[hx,hkk]
   ·rw[if_neg hx,if_neg hx];exact Apm (v:=v) (by rw[h,show i+1+j'=i+(j'+1) by omega])
section
variable{C:Ctx}{e:Env}{ds:List Deferred}{Y:Ro}{Z:Own}{K:Value->List Deferred->Ro->Own->Prop}{rd:Option Nat}{dd:Option Tmp}
variable{ty:TypeId}{pos:String}{af:Array Edge}{g:Option (Nat×Bool)}{x y u:Operand}{t:TypeId}{P:Program}{kt et:TypeId}{k:ByteArray}{es:Array MapEntry}{f:ByteArray->Option Int}
theorem Ari(hk:P.underlying kt=some .string)(hs:Xp es f){Q:Option (Nat×Value)->Own->Prop}(h:Q (Nd k es.toList 0) Z):wpS P Y (Instr.findKey kt (.string k) es.toList) Z Q:=by show wpS P Y ((underlying kt).bind _) Z Q;rw[Ad];refine Az hk ?_;simp only[Apj (k:=k) es.toList 0 hs.1];exact h
theorem Bnj(hs:Xp es f)(k:ByteArray):(Nd k es.toList 0=none↔f k=none):=by have:=hs.2 k;cases h:Nd k es.toList 0<;>cases h':f k<;>rw[h,h']at this<;>simp at this ⊢
theorem Aes{Y9:Ro}{A:Own}{r ck:Nat}{ok:Bool}(hT:P.underlying t=some (.map kt et))(hk:P.underlying kt=some .string)(hz:Fw P et (.int .i64 0))(hs:Xp es f)
  (hx:Af e x = .map (some r)) (hy:Af e y = .string k) (hi:(r,Res.obj (.map es ck))∈A) :
  Aez P Y9 A e (.lookup t x y ok) ty (if ok then .tuple #[.int .i64 ((f k).getD 0),.bool (f k).isSome] else .int .i64 ((f k).getD 0)):=fun Y' Z d pos af g hS=>by
 show wpS P Y' ((Instr.lookup t (Af e x) (Af e y) ok).bind fun v=>Sem.pure (Next.value v)) Z _;rw[Ad,hx,hy];show wpS P Y' ((underlying t).bind _) Z _;rw[Ad];refine Az hT ?_;show wpS P Y' ((getObj r).bind _) Z _;rw[Ad];refine⟨_,.inr (hS.2 _ hi),rfl,?_⟩;show wpS P Y' ((Instr.checkKey es.isEmpty 10000 kt (.string k)).bind _) Z _;rw[Ad];refine Qo (m:=9999) hk ?_;show wpS P Y' ((Instr.findKey kt (.string k) es.toList).bind _) Z _;rw[Ad];refine Ari hk hs ?_;have a:=hs.2 k;cases hf:Nd k es.toList 0 with
 | none =>
  have b:=(Bnj hs k).1 hf;rw[b];show wpS P Y' ((zeroValue et).bind _) Z _;rw[Ad];refine Jz hz ?_;cases ok<;>exact⟨rfl,rfl⟩
 | some q =>
  rw[hf]at a;cases b:f k with
  | none=>rw[b]at a;cases a
  | some z =>
   rw[b]at a;have e:q.2 = .int .i64 z:=by simpa using a
   simp only[Amb,Bmq];rw[<-e];cases ok<;>exact⟨rfl,rfl⟩
theorem Auk{i r ck:Nat}{z:Int}(hT:C.P.underlying t=some (.map kt et))(hk:C.P.underlying kt=some .string)(hs:Xp es f)
  (hx:Af e x = .map (some r)) (hy:Af e y = .string k) (hu:Af e u = .int .i64 z) (hi:Z[i]?=some (r,.obj (.map es ck)))
  (h:∀es' ck',Xp es' (Qp f k z)->K undef ds Y (Z.set i (r,.obj (.map es' ck')))):wpS C.P Y (execOp (Af e) ⟨dd,.mapUpdate t x y u,ty,pos,af,g⟩) Z (NextH C K rd ds Y):=by
 show wpS C.P Y ((Instr.mapUpdate t (Af e x) (Af e y) (Af e u)).bind _) Z _;refine Ahc ?_;rw[hx,hy,hu];show wpS C.P Y ((underlying t).bind _) Z _;rw[Ad];refine Az hT ?_;show wpS C.P Y ((getObj r).bind _) Z _;rw[Ad];refine⟨_,.inr (lZ5 hi),rfl,?_⟩;show wpS C.P Y ((Instr.checkKey false 10000 kt (.string k)).bind _) Z _;rw[Ad];refine Qo (m:=9999) hk ?_;show wpS C.P Y ((Instr.findKey kt (.string k) es.toList).bind _) Z _;rw[Ad];refine Ari hk hs ?_;cases hf:Nd k es.toList 0 with
 | none =>
  refine⟨rfl,i,_,hi,rfl,h _ _ ⟨fun en hen=>?_,fun k'=>?_⟩⟩
  ·rw[Bdw,Ho,Mk]at hen;rcases hen with hen|rfl
   ·exact hs.1 en hen
   ·exact⟨⟨k,rfl⟩,z,rfl⟩
  ·rw[Bdw,Apl];unfold Qp;by_cases hkk:k'=k
   ·subst hkk;rw[hf];simp[isK]
   ·have a:isK (Value.string k) k'=false:=Px fun e=>hkk e.symm;rw[if_neg hkk,<-hs.2 k'];cases Nd k' es.toList 0<;>simp[a]
 | some q =>
  obtain⟨j,en,n,b,c,p⟩:=Abj hf;show wpS C.P Y ((Instr.keyThatStays (((es[q.1]?).map (·.key)).getD _) _).bind _) Z _;have hj:q.1=j:=by omega
  have hq:es[q.1]?=some en:=by rw[hj,<-Bhn];exact b
  rw[Ad,hq];refine Xt (by show en.key=_;rw[c]) ?_;refine⟨rfl,i,_,hi,rfl,h _ _ ⟨fun en' hen=>?_,fun k'=>?_⟩⟩
  ·rw[Bmi]at hen;obtain⟨m,hm⟩:=Sr hen;rw[List.getElem?_modify]at hm;cases hx:es.toList[m]? with
   | none=>rw[hx]at hm;simp at hm
   | some en0 =>
    rw[hx]at hm;have d:=hs.1 en0 (lZ5 hx);by_cases hqm:q.1=m
    ·simp[hqm]at hm;subst hm;exact⟨⟨k,rfl⟩,z,rfl⟩
    ·simp[hqm]at hm;subst hm;exact d
  ·rw[Bmi];have:=Apm (k':=k') (w:=.int .i64 z) (show Nd k es.toList 0=some (0+q.1,q.2) by rw[hf,Te]);rw[this];unfold Qp;by_cases hkk:k'=k
   ·rw[if_pos hkk,if_pos hkk];rfl
   ·rw[if_neg hkk,if_neg hkk,hs.2 k']
end
end
section
abbrev Iz:=ByteArray->Option Int
theorem Amr{es:Array MapEntry}{f f':Iz}(e:f=f')(h:Xp es f):Xp es f':=e ▸ h
def Ams:Iz:=fun _=>none
def Sc(f:Iz)(s:ByteArray):Int:=if Hg s then (if (f s).isSome then 5 else 0) else 4
theorem Atw{f:Iz}{s:ByteArray}(h:Hg s=false):Sc f s=4:=by unfold Sc;rw[h];rfl
theorem Atx{f:Iz}{s:ByteArray}(h:Hg s=true)(h':(f s).isSome=true):Sc f s=5:=by unfold Sc;rw[h,h'];rfl
theorem Ber{f:Iz}{s:ByteArray}(h:Hg s=true)(h':(f s).isSome=false):Sc f s=0:=by unfold Sc;rw[h,h'];rfl
def Ic(l:List ByteArray):Iz:=l.foldl (fun f s=>Qp f s (-1)) Ams
def Ix(f:Iz)(l:List LLot):Iz:=l.foldl (fun f x=>Qp f x.name (Eo x)) f
def tkP(f:Iz)(l:List LPart):Iz:=l.foldl (fun f p=>Qp f p.of_ ((f p.of_).getD 0+p.grams)) f
def tkM(l:List LLot):Iz:=l.foldl (fun f x=>tkP f x.parts) Ams
def Ib(l:List LPart)(s:ByteArray):Bool:=l.any fun p=>s.toList==p.of_.toList
def Sg(m t:Iz)(ps:List LPart)(p:LPart):Int :=
 if (m p.of_).isNone then 6 else if Ib ps p.of_ then 5 else if inR p.grams 1 100000=false then 1
 else if 0<=(m p.of_).getD 0/\(m p.of_).getD 0<(tkP t ps p.of_).getD 0+p.grams then 8 else 0
section
variable{m t:Iz}{ps:List LPart}{p:LPart}
theorem Ben(h:(m p.of_).isSome=false):Sg m t ps p=6:=by unfold Sg;rw[if_pos (by cases hm:m p.of_ with|none=>rfl|some z=>rw[hm]at h;cases h)]
theorem Ajb{o:Option Int}(h:o.isSome=true):¬o.isNone=true:=by cases o with|none=>cases h|some z=>simp
theorem Atv(h:(m p.of_).isSome=true)(h2:Ib ps p.of_=true):Sg m t ps p=5:=by unfold Sg;rw[if_neg (Ajb h),if_pos h2]
theorem Atu(h:(m p.of_).isSome=true)(h2:Ib ps p.of_=false)(h3:inR p.grams 1 100000=false):Sg m t ps p=1:=by unfold Sg;rw[if_neg (Ajb h),if_neg (by simp[h2]),if_pos h3]
theorem Beo(h:(m p.of_).isSome=true)(h2:Ib ps p.of_=false)(h3:inR p.grams 1 100000=true)(h4:0<=(m p.of_).getD 0)(h5:(m p.of_).getD 0<(tkP t ps p.of_).getD 0+p.grams):Sg m t ps p=8:=by unfold Sg;rw[if_neg (Ajb h),if_neg (by simp[h2]),if_neg (by simp[h3]),if_pos ⟨h4,h5⟩]
theorem Aix(h:(m p.of_).isSome=true)(h2:Ib ps p.of_=false)(h3:inR p.grams 1 100000=true)(h4:0<=(m p.of_).getD 0->(tkP t ps p.of_).getD 0+p.grams<=(m p.of_).getD 0):Sg m t ps p=0:=by unfold Sg;rw[if_neg (Ajb h),if_neg (by simp[h2]),if_neg (by simp[h3]),if_neg (by rintro⟨a,b⟩;have:=h4 a;omega)]
end
theorem Bio{f:Iz}{k:ByteArray}{z:Int}:(Qp f k z k).getD 0=z:=by simp[Qp]
def Agq(m t:Iz)(l:List LPart)(i:Nat):Int:=match l[i]? with|some p=>Sg m t (l.take i) p|none=>0
theorem Ia{m t:Iz}{l:List LPart}{i:Nat}{p:LPart}{v:Int}(h:l[i]?=some p)(hv:Sg m t (l.take i) p=v):Agq m t l i=v:=by unfold Agq;rw[h];exact hv
theorem Aln{l:List LPart}{i:Nat}{p:LPart}(h:l[i]?=some p)(H:∀q∈l.take i,1<=q.grams/\q.grams<=100000)(hp:1<=p.grams/\p.grams<=100000):∀q∈l.take (i+1),1<=q.grams/\q.grams<=100000:=fun q hq=>by
 rw[Wa,h]at hq;rcases Ho.1 hq with hq|hq
 ·exact H q hq
 ·rw[Mk.1 hq];exact hp
def Hv(m t:Iz)(l:LLot):Int:=Hl l.parts.length (Agq m t l.parts)
def Jp(l:List ByteArray)(i:Nat):Int:=match l[i]? with|some s=>Sc (Ic (l.take i)) s|none=>0
def Afx(m t:Iz)(x:LLot):Int:=if Hg x.name=false then 4 else if (m x.name).isSome then 5 else if inR x.parts.length 1 6=false then 2 else Hv m t x
def Nr(b:LBook)(i:Nat):Int:=match b.lots[i]? with|some x=>Afx (Ix (Ic b.fields) (b.lots.take i)) (tkM (b.lots.take i)) x|none=>0
def Hd(b:LBook):Int:=if 5<b.fields.length then 2 else orF (Hl b.fields.length (Jp b.fields)) (if 8<b.lots.length then 2 else Hl b.lots.length (Nr b))
theorem Bhc{l:List ByteArray}{i:Nat}{s:ByteArray}(h:l[i]?=some s):Ic (l.take (i+1))=Qp (Ic (l.take i)) s (-1):=by unfold Ic;rw[Wa,h,Axd];rfl
theorem Zr{f:Iz}{l:List LLot}{i:Nat}{x:LLot}(h:l[i]?=some x):Ix f (l.take (i+1))=Qp (Ix f (l.take i)) x.name (Eo x):=by unfold Ix;rw[Wa,h,Axd];rfl
theorem Ael{f:Iz}{l:List LPart}{i:Nat}{p:LPart}(h:l[i]?=some p):tkP f (l.take (i+1))=Qp (tkP f (l.take i)) p.of_ ((tkP f (l.take i) p.of_).getD 0+p.grams):=by unfold tkP;rw[Wa,h,Axd];rfl
theorem Aek{l:List LLot}{i:Nat}{x:LLot}(h:l[i]?=some x):tkM (l.take (i+1))=tkP (tkM (l.take i)) x.parts:=by unfold tkM;rw[Wa,h,Axd];rfl
theorem Acd{l:List LPart}{i:Nat}{p:LPart}(h:l[i]?=some p)(k:ByteArray):(k.toList==p.of_.toList||Ib (l.take i) k)=Ib (l.take (i+1)) k:=by unfold Ib;rw[Wa,h,List.any_append];simp[Bool.or_comm]
def Bnd(f:Iz)(lo hi:Int):Prop:=∀k z,f k=some z->lo<=z/\z<=hi
theorem Avb{lo hi:Int}:Bnd Ams lo hi:=fun _ _ h=>(by cases h)
theorem Air{f:Iz}{lo hi:Int}(h:Bnd f lo hi)(h0:lo<=0/\0<=hi)(k:ByteArray):lo<=(f k).getD 0/\(f k).getD 0<=hi:=by
 cases hk:f k with
 | none=>exact h0
 | some z=>exact h k z hk
theorem Zf{f:Iz}{lo hi z:Int}(h:Bnd f lo hi)(hz:lo<=z/\z<=hi)(k:ByteArray):Bnd (Qp f k z) lo hi:=fun k' z' h'=>by
 unfold Qp at h';split at h'
 ·cases h';exact hz
 ·exact h k' z' h'
theorem Bnd.mono{f:Iz}{lo hi lo' hi':Int}(h:Bnd f lo hi)(h1:lo'<=lo)(h2:hi<=hi'):Bnd f lo' hi':=fun k z hk=>by have:=h k z hk;omega
theorem Aug{B:Int}(hB:0<=B):∀{l:List LPart} {t:Iz},(∀p∈l,1<=p.grams/\p.grams<=100000)->Bnd t 0 B->Bnd (tkP t l) 0 (B+100000*(l.length:Int))
 | [],t,_,h=>h.mono (Abx _) (by simp)
 | p::l,t,hp,h=>by
  have h1:=hp p mC;have a:=Air h ⟨Abx _,hB⟩ p.of_;have:=Aug (B:=B+100000) (by omega) (l:=l) (t:=Qp t p.of_ ((t p.of_).getD 0+p.grams)) (fun q hq=>hp q (lZ0 _ hq)) (Zf (h.mono (Abx _) (by omega)) ⟨by omega,by omega⟩ _);exact this.mono (Abx _) (by rw[lZ9];omega)
theorem Wj:∀{l:List LPart},(∀p∈l,1<=p.grams/\p.grams<=100000)->0<=Xc l/\Xc l<=100000*(l.length:Int)
 | [],_=>⟨Abx _,Abx _⟩
 | p::l,h=>by
  have h1:=h p mC;have a:=Wj fun q hq=>h q (lZ0 _ hq);rw[Xc,lZ9];omega
section
variable{m t:Iz}{x:LLot}{b:LBook}{i:Nat}{v:Int}
theorem Bve(h:Hg x.name=false):Afx m t x=4:=by unfold Afx;rw[if_pos h]
theorem Bni(h:Hg x.name=true)(h1:(m x.name).isSome=true):Afx m t x=5:=by unfold Afx;rw[if_neg (by simp[h]),if_pos h1]
theorem Bvd(h:Hg x.name=true)(h1:(m x.name).isSome=false)(h2:inR x.parts.length 1 6=false):Afx m t x=2:=by unfold Afx;rw[if_neg (by simp[h]),if_neg (by simp[h1]),if_pos h2]
theorem Yj(h:Hg x.name=true)(h1:(m x.name).isSome=false)(h2:inR x.parts.length 1 6=true):Afx m t x=Hv m t x:=by unfold Afx;rw[if_neg (by simp[h]),if_neg (by simp[h1]),if_neg (by simp[h2])]
theorem Nh(h:b.lots[i]?=some x)(hv:Afx (Ix (Ic b.fields) (b.lots.take i)) (tkM (b.lots.take i)) x=v):Nr b i=v:=by unfold Nr;rw[h];exact hv
theorem Uk{l:List ByteArray}{s:ByteArray}(h:l[i]?=some s)(hv:Sc (Ic (l.take i)) s=v):Jp l i=v:=by unfold Jp;rw[h];exact hv
theorem Bel(h:5<b.fields.length):Hd b=2:=by unfold Hd;rw[if_pos h]
theorem Bbl(h:b.fields.length<=5)(hv:Hl b.fields.length (Jp b.fields)=v)(h0:v≠0):Hd b=v:=by unfold Hd;rw[if_neg (by omega),Ry (by rw[hv];exact h0),hv]
theorem Bem(h:b.fields.length<=5)(h1:Hl b.fields.length (Jp b.fields)=0)(h2:8<b.lots.length):Hd b=2:=by unfold Hd;rw[if_neg (by omega),Gr h1,if_pos h2]
theorem Yk(h:b.fields.length<=5)(h1:Hl b.fields.length (Jp b.fields)=0)(h2:b.lots.length<=8)(hv:Hl b.lots.length (Nr b)=v):Hd b=v:=by unfold Hd;rw[if_neg (by omega),Gr h1,if_neg (by omega),hv]
end
end
section
def CallsP(C:Ctx)(f:FuncId)(args:Array Value)(Y:Ro)(Z:Own)(R X:Value->Ro->Own->Prop):Prop :=
 ∀c cs,GoesH C (fun fr cs' Y' Z'=>cs'=cs/\((∃v,fr=Frame.finish c v/\R v Y' Z')∨∃x,fr=Frame.raise c [⟨x,false,false⟩]/\X x Y' Z')) (Frame.enter C.P f args .normal) (c::cs) Y Z
def RoundP(C:Ctx)(l:Nat)(f:FuncId)(tmps:Array Value)(assign body:Code)(Y:Ro)(Z:Own)(R X:Value->Ro->Own->Prop):Prop :=
 ∀c cs,GoesH C (fun fr cs' Y' Z'=>cs'=cs/\((∃v,fr=Frame.finish c v/\R v Y' Z')∨∃x,fr=Frame.raise c [⟨x,false,false⟩]/\X x Y' Z')) (Frame.round l f tmps assign body .normal) (c::cs) Y Z
theorem CallsP.mono{C:Ctx}{f:FuncId}{args:Array Value}{Y:Ro}{Z:Own}{R R' X X':Value->Ro->Own->Prop}(h:CallsP C f args Y Z R X)(hr:∀v Y' Z',R v Y' Z'->R' v Y' Z')(hx:∀v Y' Z',X v Y' Z'->X' v Y' Z'):CallsP C f args Y Z R' X' :=
 fun c cs=>(h c cs).mono fun _ _ _ _ ⟨d,a⟩=>⟨d,a.elim (fun⟨v,a,b⟩=>.inl ⟨v,a,hr _ _ _ b⟩) fun⟨v,a,b⟩=>.inr ⟨v,a,hx _ _ _ b⟩⟩
theorem RoundP.mono{C:Ctx}{l:Nat}{f:FuncId}{tmps:Array Value}{assign body:Code}{Y:Ro}{Z:Own}{R R' X X':Value->Ro->Own->Prop}(h:RoundP C l f tmps assign body Y Z R X)(hr:∀v Y' Z',R v Y' Z'->R' v Y' Z')(hx:∀v Y' Z',X v Y' Z'->X' v Y' Z'):RoundP C l f tmps assign body Y Z R' X' :=
 fun c cs=>(h c cs).mono fun _ _ _ _ ⟨d,a⟩=>⟨d,a.elim (fun⟨v,a,b⟩=>.inl ⟨v,a,hr _ _ _ b⟩) fun⟨v,a,b⟩=>.inr ⟨v,a,hx _ _ _ b⟩⟩
def NextP(C:Ctx)(K:Value->List Deferred->Ro->Own->Prop)(X:Value->Ro->Own->Prop)(ds:List Deferred)(Y:Ro)(nx:Next)(Z:Own):Prop :=
 match nx with
 | .enter f args=>CallsP C f args Y Z (fun v Y' Z'=>K v ds Y' Z') X
 | .round l f tmps assign body=>RoundP C l f tmps assign body Y Z (fun v Y' Z'=>K v ds Y' Z') X
 | _=>False
theorem NextP.mono{C:Ctx}{K K':Value->List Deferred->Ro->Own->Prop}{X X':Value->Ro->Own->Prop}{ds:List Deferred}{Y:Ro}{nx:Next}{Z:Own}(h:NextP C K X ds Y nx Z)(hk:∀v ds Y Z,K v ds Y Z->K' v ds Y Z)(hx:∀v Y Z,X v Y Z->X' v Y Z):NextP C K' X' ds Y nx Z:=by
 cases nx<;>simp only[NextP]at h ⊢
 ·exact h.mono (fun _ _ _ h=>hk _ _ _ _ h) hx
 ·exact h.mono (fun _ _ _ h=>hk _ _ _ _ h) hx
section
variable{C:Ctx}{V:Ps}{b:FB}{n:Nat}{l₀ rest:List Oper}{Q:Env->List Deferred->Ro->Own->Prop}{e:Env}{ds:List Deferred}{Y:Ro}{Z:Own}
theorem Amz{tm:Array Value}{todo:List Item}{x:Value}:Frame.raise (Fr b tm ds todo) [⟨x,false,false⟩]=FrP b tm ds todo x:=rfl
theorem Bxb{o:Oper}(hw:Bz l₀.toArray o e=true)(h:wpS C.P Y (execOp (Af e) o) Z (NextP C (fun v=>Ew C V b n l₀ rest Q (Ja e o.dst v)) (fun x Y' Z'=>V x e ds Y' Z') ds Y)):Ew C V b n l₀ (o::rest) Q e ds Y Z:=by
 intro pre j hs hk tm k cs ht;have ho:l₀.toArray[pre.length]?=some o:=by subst j;simp
 rw[lZ9,Abo];have m:∀e ds Y Z,Ew C V b n l₀ rest Q e ds Y Z->Up C V b n l₀.toArray (List.range' (pre.length+1) rest.length) Q e ds Y Z:=fun e ds Y Z h'=>by
  have:=h' (pre++[o]) (by rw[j];simp) hs hk;simpa using this
 have hev:=ht.eval b ds (.inRegion l₀.toArray (pre.length::List.range' (pre.length+1) rest.length)::k);refine .step (fun fr' cs' Z'=>∃nx,NextP C (fun v=>Ew C V b n l₀ rest Q (Ja e o.dst v)) (fun x Y' Z'=>V x e ds Y' Z') ds Y nx Z'/\Ss C.P (Fr b tm ds (.inRegion l₀.toArray (pre.length::List.range' (pre.length+1) rest.length)::k)) cs nx fr' cs') (fun W y=>?_) ?_
 ·obtain⟨nx,Z',W',es,g,a,p,q⟩:=Rr _ Z _ W #[] h y;have hd:∀c,o.op = .defer c->b.round=none:=by
   intro c hc;have hx:∃d,nx = .defer d:=by
    have w:execOp (Af e) o=(resolve (Af e) c o.type).bind fun d=>pure (Next.defer d):=by
     unfold execOp;rw[hc];rfl
    rw[w,Sem.runT_bind']at g;split at g
    ·rename_i a' w' es' _;have:(Result.ok (Next.defer a') w',es')=(Result.ok nx W',es):=g;simp only[Prod.mk.injEq,Result.ok.injEq]at this;exact⟨a',this.1.1.symm⟩
    ·simp at g
   obtain⟨d,rfl⟩:=hx;exact a.elim
  have hnx:∃fr' cs',Ss C.P (Fr b tm ds (.inRegion l₀.toArray (pre.length::List.range' (pre.length+1) rest.length)::k)) cs nx fr' cs':=by
   cases nx<;>simp only[NextP]at a<;>exact⟨_,_,rfl,rfl⟩
  obtain⟨fr',cs',es',t,i,u⟩:=Sx (s:=execOp (Af e) o) (by exact hk) (by simp[Fr]) g hnx;refine⟨fr',cs',W',es',Z',?_,p,fun ev he=>Atf q (u ev he),nx,a,i⟩;rw[Np ho (by rw[Ij hs ht];exact hw) hd,hev];exact t
 ·rintro fr' cs' Z' ⟨nx,a,i⟩;cases nx<;>simp only[NextP]at a
  case enter f args =>
   obtain⟨rfl,rfl⟩:=i;refine(a _ cs).bind ?_;rintro _ _ Y' Z'' ⟨rfl,⟨v,rfl,hv⟩|⟨x,rfl,hx⟩⟩
   ·rw[Ju ho];exact m _ _ _ _ hv _ k _ (Jj hs ht ho v)
   ·exact .stop (.inr ⟨rfl,x,tm,_,ds,_,ht.2,Amz,hx⟩)
  case round l f tmps assign body =>
   obtain⟨rfl,rfl⟩:=i;refine(a _ cs).bind ?_;rintro _ _ Y' Z'' ⟨rfl,⟨v,rfl,hv⟩|⟨x,rfl,hx⟩⟩
   ·rw[Ju ho];exact m _ _ _ _ hv _ k _ (Jj hs ht ho v)
   ·exact .stop (.inr ⟨rfl,x,tm,_,ds,_,ht.2,Amz,hx⟩)
theorem Bta{dd:Option Tmp}{x:Operand}{ty t:TypeId}{pos:String}{af:Array Edge}{g:Option (Nat×Bool)}{u:Value}(hw:Bz l₀.toArray ⟨dd,.panic x,ty,pos,af,g⟩ e=true)(hx:Af e x = .iface t u)(hv:V (.iface t u) e ds Y Z):Ew C V b n l₀ (⟨dd,.panic x,ty,pos,af,g⟩::rest) Q e ds Y Z:=by
 intro pre a hs hk tm k cs ht;have ho:l₀.toArray[pre.length]?=some ⟨dd,.panic x,ty,pos,af,g⟩:=by subst a;simp
 rw[lZ9,Abo];have hev:=ht.eval b ds (.inRegion l₀.toArray (pre.length::List.range' (pre.length+1) rest.length)::k);refine Eh (fr':=FrP b tm ds (.inRegion l₀.toArray (pre.length::List.range' (pre.length+1) rest.length)::k) (.iface t u)) (cs':=cs) (fun W=>?_) (.stop (.inr ⟨rfl,_,tm,_,ds,_,ht.2,rfl,hv⟩));rw[Np ho (by rw[Ij hs ht];exact hw) (fun c hc=>by cases hc),hev];have hr:(execOp (Af e) ⟨dd,.panic x,ty,pos,af,g⟩).runT C.P W #[]=(.halt (.panic (.iface t u)) W,#[]):=by
  show ((Instr.panic (Af e x)).bind _:Sem Next).runT C.P W #[]=_;rw[hx];rfl
 simp[stepG.apply,-Sem.runT_eq,hr,GStep.after,seen,Conc.G,Fr,FrP,Frame.raise]
end
section
variable{C:Ctx}{V:Ps}{b:FB}{n:Nat}{e:Env}{ds:List Deferred}{Y:Ro}{Z:Own}
theorem Ahk{S:Cy}{tm:Array Value}{todo:List Item}{x:Value}{c:Frame}{cs:List Frame}{fn:Func}(hf:C.P.funcs[b.fn]?=some fn)(h:GoesH C S (Frame.raise c [⟨x,false,false⟩]) cs Y Z):GoesH C S (FrP b tm [] todo x) (c::cs) Y Z :=
 Eh (fun W=>by
  simp[Conc.G,stepG,FrP,Fr,unwind,Frame.catches,hf]) h
theorem Avj{f:FuncId}{fn:Func}{c:Code}{args:List Value}{R X:Value->Ro->Own->Prop}(hf:C.P.funcs[f]?=some fn)(hc:fn.body=some c)(hn:fn.ntmps=n)(ha:args.length<=n)
  (h:WpP C (fun x _ ds Y' Z'=>ds=[]/\X x Y' Z') ⟨f,.normal,none⟩ n c (fun ex e ds Y' Z'=>(∀id,ex ≠ .exit id)/\Aki C fn R e Y' ds Z') (Pn args) [] Y Z):CallsP C f args.toArray Y Z R X:=by
 intro c' cs;have g:Frame.enter C.P f args.toArray .normal=Fr ⟨f,.normal,none⟩ (args.toArray++Array.replicate (n-args.toArray.size) undef) [] [.code c]:=by
  simp[Frame.enter,hf,hc,hn,Fr]
 rw[g];refine(h _ [] (c'::cs) (Tn ha)).bind ?_;rintro _ _ Y' Z' (⟨rfl,ex,tm',e',ds',a,i,⟨j,k⟩,d,rfl⟩|⟨rfl,x,tm',_,ds',a,_,rfl,rfl,hX⟩)
 ·have fin:∀a,GoesH C (fun fr cs' Y' Z'=>cs'=cs/\((∃v,fr=Frame.finish c' v/\R v Y' Z')∨∃x,fr=Frame.raise c' [⟨x,false,false⟩]/\X x Y' Z')) {Fr ⟨f,.normal,none⟩ tm' ds' a with mode:=.returning} (c'::cs) Y' Z' :=
   fun a=>Ahz (b:=⟨f,.normal,none⟩) hf rfl i k fun v Y'' Z'' hv=>.stop ⟨rfl,.inl ⟨v,rfl,hv⟩⟩
  cases ex with
  | normal =>
   cases d;exact Eh (fr':={Fr ⟨f,.normal,none⟩ tm' ds' [] with mode:=.returning}) (cs':=c'::cs) (fun W=>by simp[Conc.G,stepG,stepG.exec,Fr]) (fin _)
  | exit id=>exact absurd rfl (j id)
  | ret =>
   obtain⟨pre,rfl⟩:=d;exact Eh (fr':={Fr ⟨f,.normal,none⟩ tm' ds' (.code .ret::(pre++[])) with mode:=.returning}) (cs':=c'::cs) (fun W=>by simp[Conc.G,stepG,stepG.exec,Fr]) (fin _)
 ·exact Ahk (b:=⟨f,.normal,none⟩) hf (.stop ⟨rfl,.inr ⟨x,rfl,hX⟩⟩)
end
end
section
theorem Akn{mn:Bool}{X:Frame->List Frame->Ro->Own->Cy->Prop}{Y:Ro}{Z:Own}{n:Nat}{s:List UInt8}(hn:n<=60000)(hb:s.length<=60000):CallsH (CX mn X) 60 #[iV n,.string (bs s)] Y Z (rP Y Z (.string (bs (Wd n s)))):=by have hc:=Brp n s;refine Bq 23 [4] Tryz.func60 rfl fun Q e u=>qA fun k f=>Au (.string (ByteArray.mk #[])) (qC f fun m g=>Av (iV n) (Av (.string (bs s)) (Arv (Bm (vs:=[iV n,.string (bs s)]) (v:=iV ((Lg n s):Nat)) (Akm (n:=n) (s:=s) (by omega) (by omega)) Cey rfl rfl ⟨rfl,rfl,trivial⟩ ?_))));refine Au (iV ((Lg n s):Nat)) (qC g fun t h=>Av (.string (bs s)) (l_v (Arn (p:=s) (q:=([32,35]:List UInt8)) rfl rfl (by first|omega|(simp only[lZ3,lZ9,Nq,Jb,Qk]at *;omega))) (Av (iV ((Lg n s):Nat)) (l_v (Cbg (p:=(((Lg n s):Nat):Int)) (q:=10) rfl rfl (by omega) (z:=((((Lg n s)/10):Nat):Int)) wrR) (l_v (Br rfl rfl (z:=(((48+((Lg n s)/10)):Nat):Int)) wrE) (l_v (Acf (p:=(((48+((Lg n s)/10)):Nat):Int)) (z:=(((48+((Lg n s)/10)):Nat):Int)) Cdd Cdo rfl (Anq (by omega) (by omega))) (Av (iV ((Lg n s):Nat)) (l_v (Bqh (p:=(((Lg n s):Nat):Int)) (q:=10) rfl rfl (by omega) (z:=((((Lg n s)%10):Nat):Int)) rfl) (l_v (Br rfl rfl (z:=(((48+((Lg n s)%10)):Nat):Int)) wrE) (l_v (Acf (p:=(((48+((Lg n s)%10)):Nat):Int)) (z:=(((48+((Lg n s)%10)):Nat):Int)) Cdd Cdo rfl (Anq (by omega) (by omega))) (Arv (Bi (α:=UInt8) (xs:=[UInt8.ofNat ((((48+((Lg n s)/10)):Nat):Int)).toNat,UInt8.ofNat ((((48+((Lg n s)%10)):Nat):Int)).toNat]) (vs:=[.int .u8 (((48+((Lg n s)/10)):Nat):Int),.int .u8 (((48+((Lg n s)%10)):Nat):Int)]) Cdc ty5 zr5 rfl (by decide) (Dk (os:=[.tmp 14,.tmp 18]) ⟨rfl,rfl,trivial⟩) ⟨Bpz (by omega) (by omega),Bpz (by omega) (by omega),trivial⟩ rfl (by decide) fun a d c=>?_))))))))))));have b:Grow Y 5 (.slice (some ⟨a,0,none⟩) 2 2) ([UInt8.ofNat ((((48+((Lg n s)/10)):Nat):Int)).toNat,UInt8.ofNat ((((48+((Lg n s)%10)):Nat):Int)).toNat]:List UInt8) [(a,oC d.toArray 5)]:=Bs c rfl (by decide);refine Ca b fun w i j=>l_v (Bzd (el:=5) Cdc Ccs Cdo rfl j) (l_v (Arn (p:=s++([32,35]:List UInt8)) (q:=([UInt8.ofNat ((((48+((Lg n s)/10)):Nat):Int)).toNat,UInt8.ofNat ((((48+((Lg n s)%10)):Nat):Int)).toNat]:List UInt8)) rfl rfl (by first|omega|(simp only[lZ3,lZ9,Nq,Jb,Qk]at *;omega))) (l_v (Arn (p:=(s++([32,35]:List UInt8))++([UInt8.ofNat ((((48+((Lg n s)/10)):Nat):Int)).toNat,UInt8.ofNat ((((48+((Lg n s)%10)):Nat):Int)).toNat]:List UInt8)) (q:=([10]:List UInt8)) rfl rfl (by first|omega|(simp only[lZ3,lZ9,Nq,Jb,Qk]at *;omega))) (Au (.string (bs (((s++([32,35]:List UInt8))++([UInt8.ofNat ((((48+((Lg n s)/10)):Nat):Int)).toNat,UInt8.ofNat ((((48+((Lg n s)%10)):Nat):Int)).toNat]:List UInt8))++([10]:List UInt8)))) (l_k h (Aj (Cez i) (Aq (e ⟨rfl,rfl,eT (.string (bs (((s++([32,35]:List UInt8))++([UInt8.ofNat ((((48+((Lg n s)/10)):Nat):Int)).toNat,UInt8.ofNat ((((48+((Lg n s)%10)):Nat):Int)).toNat]:List UInt8))++([10]:List UInt8)))) ?_⟩)))))));rfl
def Un(a:ByteArray):Bool:=decide (a.data.toList.length<=200)&&Nx a.data.toList
def Aby(ls:List ByteArray)(j:Nat):Bool:=match ls[j]? with|some a=>Un a|none=>true
def Ahm(k:List UInt8)(n:Nat):List UInt8:=Wd 0 (([98,111,111,107,32]++k)++[32]++Oj n)
def Pj:List ByteArray->Nat->List UInt8
 | [],_=>[]
 | a::ls,n=>Wd n a.data.toList++Pj ls (n+1)
def Buu(k:List UInt8)(ls:List ByteArray):List UInt8:=Ahm k ls.length++Pj ls 1
def Pe(k:List UInt8)(ls:List ByteArray):Int:=if Hg (bs k)=false then 4 else if 90<ls.length then 2 else if ls.all Un=true then 0 else 3
def Vp(k:List UInt8)(ls:List ByteArray):List UInt8:=if Pe k ls=0 then Buu k ls else []
theorem Bgf(x y:List ByteArray)(n:Nat):Pj (x++y) n=Pj x n++Pj y (n+x.length):=by
 induction x generalizing n with
 | nil=>simp[Pj]
 | cons a x ih=>rw[Sz,Pj,Pj,ih,lZ9,show n+1+x.length=n+(x.length+1) by omega,Gv]
theorem Azs{ls:List ByteArray}{i:Nat}{a:ByteArray}(h:ls[i]?=some a):Pj (ls.take (i+1)) 1=Pj (ls.take i) 1++Wd (i+1) a.data.toList:=by
 rw[Wa,h,Bgf];have:(ls.take i).length=i:=by rw[Jb];have:=(lZ4.1 h).1;omega
 rw[this,Alu 1 i];simp[Pj]
theorem Zq(n:Nat)(p:List UInt8):(Wd n p).length=p.length+5:=by simp[Wd,Bzw]
theorem Bgg(ls:List ByteArray)(i n:Nat)(h:∀j,j<i->Aby ls j=true):(Pj (ls.take i) n).length<=205*i:=by
 have key:∀(x:List ByteArray) (n:Nat),(∀a∈x,Un a=true)->(Pj x n).length<=205*x.length:=by
  intro x;induction x with
  | nil=>intro n _;simp[Pj]
  | cons a x ih =>
   intro n hx;have c:=hx a mC;have d:=ih (n+1) fun b hb=>hx b (lZ0 _ hb);unfold Un at c;simp only[Oc,decide_eq_true_eq]at c;rw[Pj,lZ3,Zq,lZ9];omega
 refine To (key _ n fun a ha=>?_) (Nat.mul_le_mul_left _ (by rw[Jb];omega));obtain⟨j,hj⟩:=Sr ha;rw[Bdu]at hj;split at hj
 ·rename_i hlt;have:=h j hlt;unfold Aby at this;rw[hj]at this;exact this
 ·cases hj
theorem Btb{ls:List ByteArray}{i:Nat}{a:ByteArray}(h:ls[i]?=some a)(h1:a.data.toList.length<=200)(h2:Nx a.data.toList=true):Aby ls i=true:=by unfold Aby;rw[h];simp only[Un,h2,Bool.and_true,decide_eq_true_eq];exact h1
theorem all_t{ls:List ByteArray}(h:∀j,j<ls.length->Aby ls j=true):ls.all Un=true:=by rw[Rd];intro a ha;obtain⟨j,hj⟩:=Sr ha;have:=h j (lZ4.1 hj).1;unfold Aby at this;rw[hj]at this;exact this
theorem But{ls:List ByteArray}{i:Nat}{a:ByteArray}(h:ls[i]?=some a)(hn:200<a.data.toList.length∨Nx a.data.toList=false):ls.all Un=false:=by
 cases hp:ls.all Un with
 | false=>rfl
 | true =>
  have:=Rd.1 hp a (lZ5 h);simp only[Un,Oc,decide_eq_true_eq]at this;rcases hn with hn|hn
  ·omega
  ·rw[hn]at this;cases this.2
theorem Byy{k:List UInt8}{ls:List ByteArray}(h:Hg (bs k)=false):Pe k ls=4/\Vp k ls=[]:=by
 have:Pe k ls=4:=by unfold Pe;rw[if_pos h]
 exact⟨this,by unfold Vp;rw[this];rfl⟩
theorem Byx{k:List UInt8}{ls:List ByteArray}(h:Hg (bs k)=true)(h2:90<ls.length):Pe k ls=2/\Vp k ls=[]:=by
 have:Pe k ls=2:=by unfold Pe;rw[if_neg (by rw[h];simp),if_pos h2]
 exact⟨this,by unfold Vp;rw[this];rfl⟩
theorem Bqf{k:List UInt8}{ls:List ByteArray}(h:Hg (bs k)=true)(h2:ls.length<=90)(h3:ls.all Un=false):Pe k ls=3/\Vp k ls=[]:=by
 have:Pe k ls=3:=by unfold Pe;rw[if_neg (by rw[h];simp),if_neg (by omega),if_neg (by rw[h3];simp)]
 exact⟨this,by unfold Vp;rw[this];rfl⟩
theorem Byw{k:List UInt8}{ls:List ByteArray}(h:Hg (bs k)=true)(h2:ls.length<=90)(h3:ls.all Un=true):Pe k ls=0/\Vp k ls=Buu k ls:=by
 have:Pe k ls=0:=by unfold Pe;rw[if_neg (by rw[h];simp),if_neg (by omega),if_pos h3]
 exact⟨this,by unfold Vp;rw[this];rfl⟩
end
section
variable{mn:Bool}{X:Frame->List Frame->Ro->Own->Cy->Prop}{Y:Ro}{Z:Own}
theorem Bkf{n:Nat}(hn:n<100):CallsH (CX mn X) 93 #[iV n] Y Z (rP Y Z (.string (bs (Oj n)))):=by refine Bq 5 [2] Tryz.func93 rfl fun Q a f=>qA fun d b=>Au (.string (ByteArray.mk #[])) (qC b fun e c=>Av (iV n) (Arv (Bm (vs:=[iV n,iV 10]) (v:=.string (bs (Oj n))) (Bgj (n:=n) hn) Tryz.func140 rfl rfl ⟨rfl,rfl,trivial⟩ ?_)));refine Au (.string (bs (Oj n))) (l_k c (Aq (a (rT (.string (bs (Oj n))) ?_))));rfl
theorem Bqz{n:Nat}(hn:n<100):CallsH (CX mn X) 61 #[iV n] Y Z (rP Y Z (.string (bs (Oj n)))):=by refine Bq 5 [2] Tryz.func61 rfl fun Q a f=>qA fun d b=>Au (.string (ByteArray.mk #[])) (qC b fun e c=>Av (iV n) (Arv (Bm (vs:=[iV n]) (v:=.string (bs (Oj n))) (Bkf (n:=n) hn) Tryz.func93 rfl rfl ⟨rfl,trivial⟩ ?_)));refine Au (.string (bs (Oj n))) (l_k c (Aq (a (rT (.string (bs (Oj n))) ?_))));rfl
theorem Bre{k:List UInt8}{ls:List ByteArray}{vl:Value}(hk:k.length<=50000)(rl:Val Y vl ls)(hz:∀(j:Nat) (a:ByteArray),ls[j]?=some a->a.data.toList.length<=60000):CallsH (CX mn X) 26 #[.string (bs k),vl] Y Z (rP Y Z (.tuple #[.string (bs (Vp k ls)),iV (Pe k ls)])):=by
 refine Bq 48 [4,5] Tryz.func26 rfl fun Q g bh=>qA fun K1 k1=>Au (.string (ByteArray.mk #[])) (Au (iV 0) (Asa k1 fun K2 k2=>Ao (qA fun K3 k3=>Av (.string (bs k)) (Arv (Bm (vs:=[.string (bs k)]) (v:=.bool (Hg (bs k))) (Acy (by first|omega|(rw[Nj];omega))) Ceh rfl rfl ⟨rfl,trivial⟩ ?_)))));refine l_v (Iy rfl) (Au (.bool (!(Hg (bs k)))) (l_k k3 (Bp (t:=!(Hg (bs k))) rfl (fun E=>?_) (fun E=>?_))))
 ·have b5:=not_eq_t E;refine qA fun K6 k6=>Au (.string (ByteArray.mk #[])) (Au (iV 4) (l_k k6 (Aq (g ⟨rfl,rfl,Eq.trans (b:=.tuple #[.string (ByteArray.mk #[]),iV 4]) (Mp (r:=4) (r':=5) (rs:=[]) (v:=.string (ByteArray.mk #[])) (v':=iV 4) (vs:=[]) ⟨rfl,rfl,trivial⟩) ?_⟩))));have hw:=Byy (ls:=ls) b5;rw[hw.1,hw.2];rfl
 have x:=Fp E;refine qA fun K8 k8=>Av vl ?_;have g9:=Val.len rl;refine l_v (Ci (el:=9) Ccv rfl rl) (l_v (Gl (p:=(ls.length:Int)) (q:=90) rfl rfl) (Au (.bool (decide ((ls.length:Int)>90))) (l_k k8 (Bp (t:=decide ((ls.length:Int)>90)) rfl (fun B=>?_) (fun B=>?_)))))
 ·have an:=lZ1 B;refine qA fun au a8=>Au (.string (ByteArray.mk #[])) (Au (iV 2) (l_k a8 (Aq (g ⟨rfl,rfl,Eq.trans (b:=.tuple #[.string (ByteArray.mk #[]),iV 2]) (Mp (r:=4) (r':=5) (rs:=[]) (v:=.string (ByteArray.mk #[])) (v':=iV 2) (vs:=[]) ⟨rfl,rfl,trivial⟩) ?_⟩))));have hw:=Byx (ls:=ls) x (by omega);rw[hw.1,hw.2];rfl
 have hdl:(Oj ls.length).length<=20:=Bkq (by omega);have an:=lZ2 B;refine Al (kk k2 ?_);refine qA fun av a9=>Arv (Ct Bzj fun e=>?_);refine qC a9 fun aw aa=>Av (.string (bs k)) (l_v (Arn (p:=bZ1) (q:=k) rfl rfl (by first|omega|(simp only[lZ3,lZ9,Nq,Jb,Qk]at *;omega))) (l_v (Arn (p:=bZ1++k) (q:=([32]:List UInt8)) rfl rfl (by first|omega|(simp only[lZ3,lZ9,Nq,Jb,Qk]at *;omega))) (Av vl ?_)));have bc:=Val.len rl;refine l_v (Ci (el:=9) Ccv rfl rl) (Arv (Bm (vs:=[iV (ls.length:Int)]) (v:=.string (bs (Oj ls.length))) (Bqz (n:=ls.length) (by omega)) Tryz.func61 rfl rfl ⟨rfl,trivial⟩ ?_));refine l_v (Arn (p:=(bZ1++k)++([32]:List UInt8)) (q:=Oj ls.length) rfl rfl (by first|omega|(simp only[lZ3,lZ9,Nq,Jb,Qk]at *;omega))) (Arv (Bm (vs:=[iV 0,.string (bs (((bZ1++k)++([32]:List UInt8))++(Oj ls.length)))]) (v:=.string (bs (Wd 0 (((bZ1++k)++([32]:List UInt8))++(Oj ls.length))))) (Akn (n:=0) (s:=((bZ1++k)++([32]:List UInt8))++(Oj ls.length)) (by omega) (by first|omega|(simp only[lZ3,lZ9,Nq];omega))) Tryz.func60 rfl rfl ⟨rfl,rfl,trivial⟩ ?_));refine Arv (Cm (vs:=[pV e,.string (bs (Wd 0 (((bZ1++k)++([32]:List UInt8))++(Oj ls.length))))]) (Akc (r:=e) (s:=Wd 0 (((bZ1++k)++([32]:List UInt8))++(Oj ls.length))) Hm (by first|omega|(simp only[Zq,lZ3,lZ9,Nq]at *;omega))) Ceu rfl rfl ⟨rfl,rfl,trivial⟩ fun bo br c0 a2=>?_);obtain⟨G,aq,a0,a5,V,J⟩:=a2;replace G:=G.symm;replace J:=J.symm;subst G J a5;refine qE aa fun ax ay ab ac=>Av vl ?_;have bd:=Val.len rl;refine l_v (Ci (el:=9) Ccv rfl rl) (Av (iV 0) (l_k ac (Ao (Aj (Cfa Asc) (Cc (fun mm ee dd Y' Z'=>∃(i:Nat) (N:Value) (M:Own),(ls.length-i)=mm/\[]=dd/\Ro.le Y Y'/\(M++((e,oC #[pV e,N] 131)::Z))=Z'/\ee 6=pV e/\ee 26=vl/\ee 27=(iV (ls.length:Int))/\ee 28=iV i/\(i<=ls.length)/\(∀j,j<i->Aby ls j=true)/\Grow Y' 5 N (Ahm k ls.length++Pj (ls.take i) 1) M/\True) (m:=_) ⟨0,aq,a0,rfl,rfl,Cfb,rfl,rfl,rfl,rfl,rfl,Hr _,fun j h=>absurd h (Td _),Fy (by simp only[Pj,List.take_zero,Tb,Abs];rfl) V,trivial⟩ ?_)))));rintro bj bb _ bt _ ⟨i,N,M,rfl,rfl,u,rfl,F,P,R,y,bk,O,w,_⟩;replace rl:=Val.mono u rl;have bf:=Bgg ls i 1 O;have bg:(Ahm k ls.length).length<=100000:=by unfold Ahm;rw[Zq];simp only[lZ3,lZ9,Nq];omega
 refine qA fun az ad=>l_v (Da y R) (Asa ad fun b0 ae=>Bp (t:=decide ((i:Int)<(ls.length:Int))) rfl (fun C=>?_) (fun C=>?_))
 ·have ao:=lZ1 C;refine Al (kk ae ?_);refine Ai fun b1 af=>Ao (qA fun b2 ag=>l_v (Ah (v:=iV i) y) ?_);obtain⟨c,f⟩:=Ed (xs:=ls) (i:=i) (by omega);have bi:=hz _ _ f;refine Arw (Ch i Ccv ty9 P rl (q:=(i:Int)) y rfl f) fun bn U=>?_;have be:c.data.toList.length<2^60:=At.slen U;refine l_v (Pk ty9 rfl U) (Au (iV i) (Au (.string c) (qE ag fun b3 b6 ah T=>Av (.string c) (l_v (Pi Ccs (p:=c.data.toList) rfl) (l_v (Gl (p:=(c.data.toList.length:Int)) (q:=200) rfl rfl) (Av (.bool (decide ((c.data.toList.length:Int)>200))) (Cn (decide ((c.data.toList.length:Int)>200)) (fun d=>?_) (fun d=>?_))))))))
  ·have ap:=lZ1 d;refine Ap (gN rfl d) (Ap (gN rfl d) (Ap (gN rfl d) (l_v (Bt rfl d (v:=bT) rfl) (l_k T (Co rfl rfl (qA fun b8 ai=>Au (.string (ByteArray.mk #[])) (Au (iV 3) (l_k ai (Hc w fun bu al bl=>Aj Ghost.drop (Aj (Cez (Cfc u al)) (Aq (g ⟨rfl,rfl,Eq.trans (b:=.tuple #[.string (ByteArray.mk #[]),iV 3]) (Mp (r:=4) (r':=5) (rs:=[]) (v:=.string (ByteArray.mk #[])) (v':=iV 3) (vs:=[]) ⟨rfl,rfl,trivial⟩) ?_⟩))))))))))));have hw:=Bqf (ls:=ls) x (by omega) (But f (.inl (by omega)));rw[hw.1,hw.2];rfl
  have ap:=lZ2 d;refine l_M (.string c) (qF d) rfl (Ae (qF d) (Bm (vs:=[.string c]) (v:=.bool (Nx c.data.toList)) (Bcw (s:=c.data.toList) (by omega)) Tryz.func62 rfl rfl ⟨rfl,trivial⟩ ?_));refine Aa (qF d) (Iy rfl) (l_v (Bn rfl d (v:=.bool (!(Nx c.data.toList))) rfl) (l_k T (Bp (t:=!(Nx c.data.toList)) rfl (fun D=>?_) (fun D=>?_))))
  ·have YQ:=not_eq_t D;refine qA fun b9 aj=>Au (.string (ByteArray.mk #[])) (Au (iV 3) (l_k aj (Hc w fun bv am bm=>Aj Ghost.drop (Aj (Cez (Cfc u am)) (Aq (g ⟨rfl,rfl,Eq.trans (b:=.tuple #[.string (ByteArray.mk #[]),iV 3]) (Mp (r:=4) (r':=5) (rs:=[]) (v:=.string (ByteArray.mk #[])) (v':=iV 3) (vs:=[]) ⟨rfl,rfl,trivial⟩) ?_⟩))))));have hw:=Bqf (ls:=ls) x (by omega) (But f (.inr YQ));rw[hw.1,hw.2];rfl
  have ZQ:=Fp D;refine Al (kk ah ?_);refine qB (Av (iV i) (l_v (Br rfl rfl (z:=(((i+1):Nat):Int)) wrE) (Av (.string c) (Arv (Bm (vs:=[iV ((i+1):Nat),.string c]) (v:=.string (bs (Wd (i+1) c.data.toList))) (Akn (n:=i+1) (s:=c.data.toList) (by omega) (by first|omega|(simp only[lZ3,lZ9,Nq];omega))) Tryz.func60 rfl rfl ⟨rfl,rfl,trivial⟩ ?_)))));refine Bj (Cfa Asd) (Arv (Cm (vs:=[pV e,.string (bs (Wd (i+1) c.data.toList))]) (Akd (r:=e) (s:=Wd (i+1) c.data.toList) w (by first|omega|(simp only[Zq,lZ3,lZ9,Nq]at *;omega))) Ceu rfl rfl ⟨F,rfl,trivial⟩ fun bp bx c1 a3=>?_));obtain⟨H,ar,a1,a6,W,K⟩:=a3;replace H:=H.symm;replace K:=K.symm;subst H K a6;refine l_k af (qB (l_v (Br y rfl (z:=(((i+1):Nat):Int)) wrE) (Av (iV ((i+1):Nat)) (Bj (Cfa Asc) (Ac ?_)))));refine⟨_,?_,(i+1),ar,a1,rfl,rfl,u,rfl,F,P,R,rfl,(by omega),(Eg O (Btb f (by omega) ZQ)),(Fy (by rw[Azs f,Gv]) W),trivial⟩;omega
 have ao:=lZ2 C;refine Bx (kk ab ?_);refine qA fun ba ak=>Bj (Cfa Asd) (Arv (Cm (vs:=[pV e]) (Bgh (r:=e) w (by unfold Ahm Wd;simp)) Tryz.func63 rfl rfl ⟨F,trivial⟩ fun bq bz c2 a4=>?_));obtain⟨I,L,a7⟩:=a4;replace I:=I.symm;replace L:=L.symm;subst I L a7;refine Au (.string (bs (Ahm k ls.length++Pj (ls.take i) 1))) (Au (iV 0) (l_k ak (Aj (Cez u) (Aq (g ⟨rfl,rfl,Eq.trans (b:=.tuple #[.string (bs (Ahm k ls.length++Pj (ls.take i) 1)),iV 0]) (Mp (r:=4) (r':=5) (rs:=[]) (v:=.string (bs (Ahm k ls.length++Pj (ls.take i) 1))) (v':=iV 0) (vs:=[]) ⟨rfl,rfl,trivial⟩) ?_⟩)))));have hw:=Byw (ls:=ls) x (by omega) (all_t fun j hj=>O j (by omega));rw[hw.1,hw.2];rw[show i=ls.length by omega,Aav];rfl
end
section
theorem Zi{C:Ctx}{f:FuncId}{fn:Func}{c:Code}{n:Nat}{args:List Value}{Y:Ro}{Z:Own}{R X:Value->Ro->Own->Prop}(rs:List Nat)(hf:C.P.funcs[f]?=some fn)(hc:fn.body=some c)(hn:fn.ntmps=n)(ha:Nat.ble args.length n=true)(hr:fn.results=(rs.map ResultVar.tmp).toArray)
  (h:∀Q:Hu,(∀e Y' Z',R (Abp rs e) Y' Z'->Q .ret e [] Y' Z')->(∀e Y' Z',R (Abp rs e) Y' Z'->Q .normal e [] Y' Z')->WpP C (fun x _ ds Y' Z'=>ds=[]/\X x Y' Z') ⟨f,.normal,none⟩ n c Q (Pn args) [] Y Z):CallsP C f args.toArray Y Z R X :=
 Avj hf hc hn (lZ6 ha) (h _ (fun e Y' Z' hR=>⟨fun id h=>(by cases h),Lm (Q:=fun v Z'=>R v Y' Z') hr hR⟩) (fun e Y' Z' hR=>⟨fun id h=>(by cases h),Lm (Q:=fun v Z'=>R v Y' Z') hr hR⟩))
section
variable{C:Ctx}{V:Ps}{b:FB}{n:Nat}{l₀ rest:List Oper}{Q:Env->List Deferred->Ro->Own->Prop}{e:Env}{ds:List Deferred}{Y:Ro}{Z:Own}
variable{ty:TypeId}{pos:String}{af:Array Edge}{g:Option (Nat×Bool)}{op:Op}
theorem Iv{d:Nat}(hw:Bz l₀.toArray ⟨some d,op,ty,pos,af,g⟩ e=true)(h:wpS C.P Y (execOp (Af e) ⟨some d,op,ty,pos,af,g⟩) Z (NextP C (fun v=>Ew C V b n l₀ rest Q (upd e d v)) (fun x Y' Z'=>V x e ds Y' Z') ds Y)):Ew C V b n l₀ (⟨some d,op,ty,pos,af,g⟩::rest) Q e ds Y Z:=Bxb hw h
theorem Jy{K:Value->List Deferred->Ro->Own->Prop}{dd:Option Tmp}{f:FuncId}{fn:Func}{args:List Operand}{tys:Array TypeId}{vs:List Value}{R X X':Value->Ro->Own->Prop}(hc:CallsP C f vs.toArray Y Z R X)(hf:C.P.funcs[f]?=some fn)(hn:(fn.name == "runtime.NumGoroutine")=false)(hb:fn.body.isNone=false)
  (hv:EvL e args vs) (h:∀v Y' Z',R v Y' Z'->K v ds Y' Z') (hx:∀v Y' Z',X v Y' Z'->X' v Y' Z'):wpS C.P Y (execOp (Af e) ⟨dd,.call ⟨.value (.func f),args.toArray,tys⟩,ty,pos,af,g⟩) Z (NextP C K X' ds Y):=by have hv':=hv.map;show wpS C.P Y (invoke (.fn (.func f) #[]) (#[]++args.toArray.map (Af e))) Z _;show wpS C.P Y (callFunc f ((#[]++args.toArray.map (Af e)) ++ #[])) Z _;rw[Adt,Abm,hv'];exact Mr hf hn hb (hc.mono h hx)
end
abbrev Bzf:List Value:=[.int .i64 0,.int .i64 0]
theorem Bqk:Fw Tryz.prog 140 (.agg #[.int .i64 0,.int .i64 0]):=⟨_,Ab Tryz.typeInfo140,rfl⟩
abbrev Bzg:List Value:=[.int .i64 0,.string ⟨#[]⟩,.int .i64 0,.slice none 0 0]
theorem Bzl:Fw Tryz.prog 143 (.agg #[.int .i64 0,.string ⟨#[]⟩,.int .i64 0,.slice none 0 0]):=⟨_,Ab Tryz.typeInfo143,rfl⟩
def Xe(ln f:Int):Value:=.iface 140 (.agg #[.int .i64 ln,.int .i64 f])
end
section
theorem Ow{mn:Bool}{X:Frame->List Frame->Ro->Own->Cy->Prop}{Y:Ro}{Z:Own}{r:Nat}{ln f:Int}{ok:Bool}{v1 v2 v3:Value}(hf:I64 ln):CallsP (CX mn X) 67 #[pV r,.bool ok,iV f] Y ((r,oC #[iV ln,v1,v2,v3] 143)::Z) (fun w Y' Z'=>Y'=Y/\Z'=(r,oC #[.int .i64 ln,v1,v2,v3] 143)::Z/\ok=true/\w = .tuple #[]) (fun x Y' Z'=>Y'=Y/\Z'=(r,oC #[.int .i64 ln,v1,v2,v3] 143)::Z/\ok=false/\x=Xe ln f):=by
 refine Zi (n:=15) (args:=[pV r,.bool ok,iV f]) [] Cdh rfl rfl rfl rfl fun Q h d=>?_;refine qA fun g e=>Av (.bool ok) (l_v (Iy rfl) (l_k e (Bp (t:=!(ok)) rfl (fun a=>?_) (fun a=>?_))))
 ·have b:=not_eq_t a;refine qB (Av (pV r) (l_v (Ck rfl) (l_v (Cb Cda rfl rfl ty3.2 (by decide) rfl rfl) (Arv (Dt (i:=0) (v:=iV ln) ty3.1 rfl rfl rfl ?_)))));refine Av (iV f) (l_v (Dn (ns:=[1,1]) (vs:=[(0,(iV ln)),(1,(iV f))]) (zc:=Bzf) (cs:=[iV ln,iV f]) Cds Bqk rfl ⟨ty3.2,⟨_,Ab Cdr,rfl⟩,trivial⟩ (EvB.map ⟨⟨rfl,rfl⟩,⟨rfl,rfl⟩,trivial⟩) ((Be (cs:=[iV ln]) rfl rfl nL).trans ((Be (cs:=[iV f]) rfl rfl nL).trans rfl))) (l_v (Bcn Cds rfl rfl) (Bta rfl rfl ⟨rfl,?_⟩)));exact⟨rfl,rfl,b,rfl⟩
 have c:=Fp a;refine Al (d _ _ _ ⟨rfl,rfl,c,rfl⟩)
end
section
def Aze:List UInt8:=[98,111,111,107]
def Nk(t:List UInt8):Bool:=match Fs t with
 | [a,b,c]=>a==Aze&&b != []&&Agm c
 | _=>false
def Vw(t:List UInt8):List UInt8:=(Fs t).getD 1 []
def Xm(t:List UInt8):Int:=Ail ((Fs t).getD 2 [])
section
variable{t:List UInt8}{L:List ByteArray}
theorem Ajo(hL:L=bw (Fs t)){i:Nat}{a:ByteArray}(h:L[i]?=some a):(Fs t)[i]?=some a.data.toList:=by
 subst hL;unfold bw at h;rw[Oz]at h;cases hs:(Fs t)[i]? with
 | none=>rw[hs]at h;cases h
 | some w=>rw[hs]at h;cases h;rfl
theorem Bka(hL:L=bw (Fs t)):L.length=(Fs t).length:=by subst hL;unfold bw;rw[Uu]
theorem Aaj:∀{s acc:List UInt8} {w:List UInt8},w∈Rg 32 acc s->w.length<=acc.length+s.length
 | [],acc,w,h=>by
  simp only[Rg,Mk]at h;subst h;simp
 | c::s,acc,w,h=>by
  unfold Rg at h;split at h
  ·rcases lZ7.1 h with rfl|h
   ·simp
   ·have:=Aaj h;simp at this ⊢;omega
  ·have:=Aaj h;simp at this ⊢;omega
theorem Aul(hL:L=bw (Fs t)){i:Nat}{a:ByteArray}(h:L[i]?=some a):a.data.toList.length<=t.length:=by have:=Aaj (lZ5 (Ajo hL h));simpa using this
theorem Bso(hL:L=bw (Fs t))(h:L.length≠3):Nk t=false:=by
 rw[Bka hL]at h;unfold Nk;split
 ·rename_i he;rw[he]at h;exact absurd rfl h
 ·rfl
theorem Atl(hL:L=bw (Fs t))(h3:L.length=3):∃a b c,Fs t=[a,b,c]:=by
 rw[Bka hL]at h3
 match hs:Fs t,h3 with
 | [a,b,c],_=>exact⟨a,b,c,rfl⟩
theorem Bsp(hL:L=bw (Fs t))(h3:L.length=3){a:ByteArray}(h0:L[0]?=some a)(ha:a.data.toList≠Aze):Nk t=false:=by obtain⟨x,y,z,hs⟩:=Atl hL h3;have h:=Ajo hL h0;rw[hs]at h;simp at h;subst h;unfold Nk;rw[hs];simp only[Bme];exact .inl (.inl (by simpa using ha))
theorem Bsq(hL:L=bw (Fs t))(h3:L.length=3){a:ByteArray}(h1:L[1]?=some a)(ha:a.data.toList=[]):Nk t=false:=by obtain⟨x,y,z,hs⟩:=Atl hL h3;have h:=Ajo hL h1;rw[hs]at h;simp at h;subst h;unfold Nk;rw[hs,ha];simp
theorem Bsr(hL:L=bw (Fs t))(h3:L.length=3){a:ByteArray}(h2:L[2]?=some a)(ha:Agm a.data.toList=false):Nk t=false:=by obtain⟨x,y,z,hs⟩:=Atl hL h3;have h:=Ajo hL h2;rw[hs]at h;simp at h;subst h;unfold Nk;rw[hs];simp only[ha,Bec]
theorem Bwv(hL:L=bw (Fs t))(h3:L.length=3){a b c:ByteArray}(h0:L[0]?=some a)(h1:L[1]?=some b)(h2:L[2]?=some c)(ha:a.data.toList=Aze)(hb:b.data.toList≠[])(hc:Agm c.data.toList=true):Nk t=true/\Vw t=b.data.toList/\Xm t=Ail c.data.toList:=by obtain⟨x,y,z,hs⟩:=Atl hL h3;have d:=Ajo hL h0;have e:=Ajo hL h1;have f:=Ajo hL h2;rw[hs]at d e f;simp at d e f;subst d e f;refine⟨?_,by unfold Vw;rw[hs];rfl,by unfold Xm;rw[hs];rfl⟩;unfold Nk;rw[hs];simp only[ha,hc,Bool.and_true];simp[hb]
end
end
section
def rdT(s:List UInt8):List UInt8:=List.drop 0 (List.take ((Dp s).length-4) (Dp s))
def rdC(s:List UInt8):List UInt8:=List.drop ((Dp s).length-4) (List.take (Dp s).length (Dp s))
def Um(s:List UInt8):Bool:=Afi s&&Nx (Dp s)&&decide (4<=(Dp s).length)
def rdF(n:Nat)(s:List UInt8):Int :=
 if Um s=false then 3 else if Vr (rdC s)=false then 3 else if n=0/\Nk (rdT s)=false then 3 else if 200<(rdT s).length then 3
 else if ckR (rdC s)≠Lg n (rdT s) then 9 else if n≠0 then 0 else if Hg (bs (Vw (rdT s)))=false then 4 else if inR (Xm (rdT s)) 0 90=false then 2 else 0
def rdS(n:Nat)(kd:List UInt8)(mn:Int)(xs:List ByteArray)(s:List UInt8):List UInt8×Int×List ByteArray:=if n=0 then (Vw (rdT s),Xm (rdT s),xs) else (kd,mn,xs++[bs (rdT s)])
variable{n:Nat}{s:List UInt8}
theorem Bao(h:Afi s=false∨Nx (Dp s)=false∨(Dp s).length<4):Um s=false:=by
 unfold Um;rcases h with h|h|h
 ·rw[h];rfl
 ·rw[h,Bec];rfl
 ·rw[Px (by omega),Bec]
theorem Bwu(h1:Afi s=true)(h2:Nx (Dp s)=true)(h3:4<=(Dp s).length):Um s=true:=by unfold Um;rw[h1,h2,Qn h3];rfl
theorem Byf(h:Um s=false):rdF n s=3:=by unfold rdF;rw[if_pos h]
theorem Ccb(hA:Um s=true)(h:Vr (rdC s)=false):rdF n s=3:=by unfold rdF;rw[if_neg (by rw[hA];simp),if_pos h]
theorem Ccc(hA:Um s=true)(hB:Vr (rdC s)=true)(hn:n=0)(h:Nk (rdT s)=false):rdF n s=3:=by unfold rdF;rw[if_neg (by rw[hA];simp),if_neg (by rw[hB];simp),if_pos ⟨hn,h⟩]
theorem Biq(hC:n=0->Nk (rdT s)=true):¬(n=0/\Nk (rdT s)=false):=fun⟨b,a⟩=>by rw[hC b]at a;cases a
theorem Cav(hA:Um s=true)(hB:Vr (rdC s)=true)(hC:n=0->Nk (rdT s)=true)(h:200<(rdT s).length):rdF n s=3:=by unfold rdF;rw[if_neg (by rw[hA];simp),if_neg (by rw[hB];simp),if_neg (Biq hC),if_pos h]
theorem Caw(hA:Um s=true)(hB:Vr (rdC s)=true)(hC:n=0->Nk (rdT s)=true)(hD:(rdT s).length<=200)(h:ckR (rdC s)≠Lg n (rdT s)):rdF n s=9:=by unfold rdF;rw[if_neg (by rw[hA];simp),if_neg (by rw[hB];simp),if_neg (Biq hC),if_neg (by omega),if_pos h]
theorem Cca(hA:Um s=true)(hB:Vr (rdC s)=true)(hC:n=0->Nk (rdT s)=true)(hD:(rdT s).length<=200)(hE:ckR (rdC s)=Lg n (rdT s))(hn:n≠0):rdF n s=0:=by unfold rdF;rw[if_neg (by rw[hA];simp),if_neg (by rw[hB];simp),if_neg (Biq hC),if_neg (by omega),if_neg (by simp[hE]),if_pos hn]
theorem Ccd(hA:Um s=true)(hB:Vr (rdC s)=true)(hC:n=0->Nk (rdT s)=true)(hD:(rdT s).length<=200)(hE:ckR (rdC s)=Lg n (rdT s))(hn:n=0)(h:Hg (bs (Vw (rdT s)))=false):rdF n s=4:=by unfold rdF;rw[if_neg (by rw[hA];simp),if_neg (by rw[hB];simp),if_neg (Biq hC),if_neg (by omega),if_neg (by simp[hE]),if_neg (by omega),if_pos h]
theorem Cce(hA:Um s=true)(hB:Vr (rdC s)=true)(hC:n=0->Nk (rdT s)=true)(hD:(rdT s).length<=200)(hE:ckR (rdC s)=Lg n (rdT s))(hn:n=0)(hk:Hg (bs (Vw (rdT s)))=true)(h:inR (Xm (rdT s)) 0 90=false):rdF n s=2:=by unfold rdF;rw[if_neg (by rw[hA];simp),if_neg (by rw[hB];simp),if_neg (Biq hC),if_neg (by omega),if_neg (by simp[hE]),if_neg (by omega),if_neg (by rw[hk];simp),if_pos h]
theorem Ccf(hA:Um s=true)(hB:Vr (rdC s)=true)(hC:n=0->Nk (rdT s)=true)(hD:(rdT s).length<=200)(hE:ckR (rdC s)=Lg n (rdT s))(hn:n=0)(hk:Hg (bs (Vw (rdT s)))=true)(h:inR (Xm (rdT s)) 0 90=true):rdF n s=0:=by unfold rdF;rw[if_neg (by rw[hA];simp),if_neg (by rw[hB];simp),if_neg (Biq hC),if_neg (by omega),if_neg (by simp[hE]),if_neg (by omega),if_neg (by rw[hk];simp),if_neg (by rw[h];simp)]
theorem Aty:(rdT s).length<=(Dp s).length:=by unfold rdT;rw[Qk,Jb];omega
theorem Yc:(Dp s).length<=s.length:=by unfold Dp;split<;>simp
theorem Blq{t:List UInt8}:(Vw t).length<=t.length:=by
 unfold Vw;cases h:(Fs t)[1]? with
 | none=>rw[Wx,h];simp
 | some w =>
  rw[Wx,h];have:=Aaj (lZ5 h);simpa using this
theorem Awd{t:List UInt8}:I64 (Xm t):=by have:=Bes (s:=(Fs t).getD 2 []);unfold Xm I64;omega
end
section
theorem Bup{C:Ctx}{V V':Ps}{b:FB}{n:Nat}{c:Code}{Q:Hu}{e:Env}{ds:List Deferred}{Y:Ro}{Z:Own}(h:WpP C V b n c Q e ds Y Z)(hv:∀x e ds Y Z,V x e ds Y Z->V' x e ds Y Z):WpP C V' b n c Q e ds Y Z :=
 fun tm k cs ht=>(h tm k cs ht).mono fun _ _ _ _ hs=>hs.elim .inl fun⟨a,x,tm',e',ds',i,d,g,f⟩=>.inr ⟨a,x,tm',e',ds',i,d,g,hv _ _ _ _ _ f⟩
section
variable{C:Ctx}{n:Nat}{e:Env}{Y:Ro}{Z:Own}
theorem Ayq{l:Nat}{f:FuncId}{fn:Func}{tm:Array Value}{assign body:Code}{R XP:Value->Ro->Own->Prop}(hf:C.P.funcs[f]?=some fn)(ht:EnvOf n tm e)
  (h:WpC C ⟨f,.normal,some l⟩ n assign (fun ex e1 ds1 Y1 Z1=>ex = .normal/\ds1=[]/\∃i r,Z1[i]?=some (l,.obj (.loop r))/\r.state = .ready /\
   WpP C (fun x _ ds Y2 Z2=>ds=[]/\XP x Y2 Z2) ⟨f,.normal,some l⟩ n body (fun ex _ _ Y2 Z2=>∃i2 r2,Z2[i2]?=some (l,.obj (.loop r2)) /\
    R (.bool (Pf ex).isNone) Y2 (Z2.set i2 (l,.obj (.loop {r2 with state:=if (Pf ex).isNone then .ready else .done,pending:=Pf ex})))) e1 [] Y1 (Z1.set i (l,.obj (.loop {r with state:=.busy})))) e [] Y Z) :
  RoundP C l f tm assign body Y Z R XP:=by
 intro c' cs;have e1:Frame.round l f tm assign body .normal=Fr ⟨f,.normal,some l⟩ tm [] [.code assign,.beginRound,.code body]:=rfl;rw[e1];refine(h.stops tm [.beginRound,.code body] (c'::cs) ht).bind ?_;rintro _ _ Y1 Z1 ⟨rfl,ex,d,e1,ds1,g,p,⟨rfl,rfl,i,r,hi,hr,hb⟩,c,rfl⟩;cases c;refine Lw (f:=fun (_:Unit)=>(Fr ⟨f,.normal,some l⟩ d [] [.code body],c'::cs)) (s:=Instr.beginRound l) (Q:=fun _ Z'=>Z'=Z1.set i (l,.obj (.loop {r with state:=.busy}))) (fun W u W' es a=>?_) (Ut hi hr rfl) ?_
 ·refine⟨seen C.P f es,?_,fun e he=>Lh he⟩;have m:(do (some l).elim (stuck "beginRound: no round") Instr.beginRound;pure Next.skip:Sem Next).runT C.P W #[]=(.ok Next.skip W',es):=by
   show ((Instr.beginRound l).bind fun _=>Sem.pure Next.skip).runT C.P W #[]=_;rw[Sem.runT_bind',a];rfl
  simp only[Conc.G,stepG,stepG.exec,Fr,stepG.apply,if_true,m,GStep.after];simp only[Frame.finish];rfl
 rintro u Z' rfl;refine(hb d [] (c'::cs) p).bind ?_;rintro _ _ Y2 Z2 (⟨rfl,ex,q,t,j,g,w,⟨i2,r2,k,hR⟩,c,rfl⟩|⟨rfl,x,q,_,j,g,_,rfl,rfl,hX⟩);rotate_left
 ·exact Ahk (b:=⟨f,.normal,some l⟩) hf (.stop ⟨rfl,.inr ⟨x,rfl,hX⟩⟩)
 refine Lw (f:=fun v=>(Frame.finish c' v,cs)) (s:=Instr.endRound l (Pf ex)) (Q:=fun v Z'=>R v Y2 Z') (fun W v W' es a=>?_) (Xs k hR) fun v Z' hv=>.stop ⟨rfl,.inl ⟨v,rfl,hv⟩⟩;refine⟨seen C.P f es,?_,fun e he=>Lh he⟩;cases ex with
 | normal =>
  cases c;simp only[Pf]at a;simp[Conc.G,stepG,stepG.exec,Fr,-Sem.runT_eq,a,doReturn,GStep.after]
 | exit id =>
  obtain⟨pre,hp,rfl⟩:=c;have hno:exitTo id (pre++[])=none:=by rw[Mj hp];rfl
  simp only[Pf]at a;simp only[Tb]at hno;simp[Conc.G,stepG,stepG.exec,Fr,-Sem.runT_eq,a,hno,doReturn,GStep.after]
 | ret =>
  obtain⟨pre,rfl⟩:=c;simp only[Pf]at a;simp[Conc.G,stepG,stepG.exec,Fr,-Sem.runT_eq,a,doReturn,GStep.after]
end
def Auv(C:Ctx)(l:Nat)(x:Value)(Y:Ro)(Z:Own)(R XP:Value->Ro->Own->Prop):Prop :=
 ∀ds,wpS C.P Y (Instr.yield l #[x]) Z (NextP C (fun v ds' Y' Z'=>ds'=ds/\R v Y' Z') XP ds Y)
def Bcq(f:Value)(Y9:Ro)(O:Own)(ys:List Value):Prop :=
 ∃(k:FuncId) (fn:Func) (caps:List Value),f = .func (.func k) #[] caps.toArray/\Tryz.prog.funcs[k]?=some fn/\(fn.name == "runtime.NumGoroutine")=false/\fn.body.isNone=false /\
  ∀(mn:Bool) (X:Frame->List Frame->Ro->Own->Cy->Prop) (l:Nat) (I:List Value->Ro->Own->Prop) (XP:Value->Ro->Own->Prop) (Y:Ro) (Z:Own),Ro.le Y9 Y->(∀pre Y Y' Z,Ro.le Y Y'->I pre Y Z->I pre Y' Z)->I [] Y Z ->
   (∀pre x post Y' Z' pfx,ObjsO pfx->ys=pre++x::post->Ro.le Y Y'->I pre Y' Z'->Auv (CX mn X) l x Y' (pfx++Z') (fun v Y'' Z''=>∃τ,Z''=pfx++τ/\Ro.le Y' Y''/\v = .bool true/\I (pre++[x]) Y'' τ) (fun v Y'' Z''=>Ro.le Y' Y''/\∃τ,Z''=pfx++τ/\XP v Y'' τ)) ->
   CallsP (CX mn X) k (.func (.yield l) #[] #[]::caps).toArray Y (O++Z) (fun _ Y' Z'=>Ro.le Y Y'/\I ys Y' Z') (fun v Y' Z'=>Ro.le Y Y'/\∃O' τ,ObjsO O'/\Z'=O'++τ/\XP v Y' τ)
section
variable{mn:Bool}{X:Frame->List Frame->Ro->Own->Cy->Prop}{V:Ps}{b:FB}{n:Nat}{e:Env}{ds:List Deferred}{Y:Ro}{Z:Own}{K:Value->List Deferred->Ro->Own->Prop}{X':Value->Ro->Own->Prop}{dd:Option Tmp}{x y:Operand}{v:Value}{ty:TypeId}{pos:String}{af:Array Edge}{g:Option (Nat×Bool)}
theorem Ant{l:Nat}{tys:Array TypeId}{R XP:Value->Ro->Own->Prop}(hx:Af e x = .func (.yield l) #[] #[])(hy:Af e y=v)(hY:Auv (CX mn X) l v Y Z R XP)(h:∀w Y' Z',R w Y' Z'->K w ds Y' Z')(hp:∀w Y' Z',XP w Y' Z'->X' w Y' Z') :
  wpS (CX mn X).P Y (execOp (Af e) ⟨dd,.call ⟨.value x,#[y],tys⟩,ty,pos,af,g⟩) Z (NextP (CX mn X) K X' ds Y):=by
 have b:(#[y]:Array Operand).map (Af e) = #[v]:=by simp[hy]
 show wpS Tryz.prog Y ((Deferred.ofValue (Af e x) ((#[y]:Array Operand).map (Af e))).bind _) Z _;rw[hx,b];show wpS Tryz.prog Y (Instr.yield l (#[] ++ #[v])) Z _;have a:(#[] ++ #[v]:Array Value) = #[v]:=by simp
 rw[a];exact Eu (fun nx Z' hn=>hn.mono (by rintro w ds' Y' Z' ⟨rfl,hR⟩;exact h w Y' Z' hR) hp) _ _ (hY ds)
theorem ObjsO.cat{a b:Own}(h:ObjsO a)(h':ObjsO b):ObjsO (a++b):=fun x hx=>(Ho.1 hx).elim (h x) (h' x)
theorem Aip{f:Operand}{q:Nat}{fnb:Func}{assign body:Code}{Q:Hu}{fv:Value}{O:Own}{ys:List Value}(J:List Value->Ro->Own->Prop)(XP:Value->Ro->Own->Prop)(hr:b.round=none)(hk:b.kind = .normal)(hfn:Tryz.prog.funcs[b.fn]?=some fnb)(hq:q<n)(hf:Af e f=fv)(hF:Bcq fv Y O ys)
  (hJm:∀pre Y Y' Z,Ro.le Y Y'->J pre Y Z->J pre Y' Z) (hJ:J [] Y Z)
  (hbody:∀l pre x post Y' τ,ys=pre++x::post->Ro.le Y Y'->J pre Y' τ->∀pfx:Own,ObjsO pfx ->
   WpC (CX mn X) ⟨b.fn,.normal,some l⟩ n assign (fun ex e1 ds1 Y1 Z1=>ex = .normal/\ds1=[]/\Ro.le Y' Y1/\∃τ1,Z1=pfx++τ1 /\
    ∀pfx2:Own,ObjsO pfx2->WpP (CX mn X) (fun v _ ds Y2 Z2=>ds=[]/\Ro.le Y1 Y2/\∃τ2,Z2=pfx2++τ2/\XP v Y2 τ2) ⟨b.fn,.normal,some l⟩ n body (fun ex _ _ Y2 Z2=>Ro.le Y1 Y2/\∃τ2,Z2=pfx2++τ2/\ex = .normal/\J (pre++[x]) Y2 τ2) e1 [] Y1 (pfx2++τ1)) (upd e q x) [] Y' (pfx++τ))
  (hend:∀r Y' τ,Ro.le Y Y'->J ys Y' τ->Q .normal e ({target:=.collected r,args:=#[]}::ds) Y' ((r,.obj (.deferred (some [])))::τ))
  (hpan:∀v r Y' O' τ,ObjsO O'->Ro.le Y Y'->XP v Y' τ->V v e ({target:=.collected r,args:=#[]}::ds) Y' (O'++(r,.obj (.deferred (some [])))::τ)) :
  WpP (CX mn X) V b n (.rangeFunc f #[q] assign body) Q e ds Y (O++Z):=by
 intro tm k cs ht;obtain⟨kk,fn,m,rfl,p,u,w,y⟩:=hF;refine Lw (s:=Instr.enterLoop b.fn tm #[q] assign body none)
  (f:=fun lm=>(Frame.enter Tryz.prog kk (Value.func (.yield lm.1) #[] #[]::m).toArray .normal,Fr b tm (lm.2++ds) (.inRangeFunc lm.1::k)::cs))
  (Q:=fun lm Z'=>∃r,lm.2=[{target:=.collected r,args:=#[]}]/\Z'=(lm.1,Res.obj (.loop {state:=.ready,pending:=none,fn:=b.fn,tmps:=tm,params:=#[q],assign,body,defers:=r}))::(r,.obj (.deferred (some [])))::(O++Z))
  (fun W lm W' es g=>?_) (Vj fun r l=>⟨r,rfl,rfl⟩) ?_
 ·exact Abv hr hk (by rw[ht.eval];exact hf) (P:=Tryz.prog) p u w g
 rintro⟨l,E⟩ Z' ⟨r,hm,rfl⟩;simp only at hm;subst hm
 let L:Loop:={state:=.ready,pending:=none,fn:=b.fn,tmps:=tm,params:=#[q],assign,body,defers:=r}
 have B:=y mn X l (fun pre Y' Z'=>∃τ,Z'=(l,Res.obj (.loop L))::(r,.obj (.deferred (some [])))::τ/\J pre Y' τ) (fun v Y' Z'=>∃L' τ,Z'=(l,Res.obj (.loop L'))::(r,.obj (.deferred (some [])))::τ/\XP v Y' τ) Y ((l,Res.obj (.loop L))::(r,.obj (.deferred (some [])))::Z) .refl
  (fun pre Y1 Y2 Z1 hle ⟨τ,e1,c⟩=>⟨τ,e1,hJm _ _ _ _ hle c⟩) ⟨Z,rfl,hJ⟩ (fun pre x post Y' Z' pfx hpo hys hle ⟨τ,e1,c⟩ ds'=>?_)
 ·refine .ghost (Cfa (Z':=O++((l,Res.obj (.loop L))::(r,.obj (.deferred (some [])))::Z)) ?_) ?_
  ·have C:(([(l,Res.obj (.loop L)),(r,.obj (.deferred (some [])))]:Own)++(O++Z)).Perm (O++([(l,Res.obj (.loop L)),(r,.obj (.deferred (some [])))]++Z)):=Bmy _ _ _;exact C
  refine(B (Fr b tm ([{target:=.collected r,args:=#[]}]++ds) (.inRangeFunc l::k)) cs).bind ?_;rintro _ cs' Y' Z' ⟨hcs,⟨v,rfl,hle,τ,rfl,hJ'⟩|⟨v,rfl,hle,O',τ',hO',rfl,L',τ,rfl,hX⟩⟩
  ·subst hcs;have e1:(Fr b tm ([{target:=.collected r,args:=#[]}]++ds) (.inRangeFunc l::k)).finish v=Fr b tm ([{target:=.collected r,args:=#[]}]++ds) (.endRangeFunc l::k):=rfl;rw[e1];refine Lw (s:=Instr.endLoop l) (f:=fun j=>(Fr b tm ([{target:=.collected r,args:=#[]}]++ds) ((j.map Item.code).toList++k),cs')) (Q:=fun j Z''=>j=none/\Z''=(l,Res.obj (.loop {L with state:=.exhausted}))::(r,.obj (.deferred (some [])))::τ) (fun W j W' es g=>?_) (Zz rfl ⟨rfl,rfl⟩) ?_
   ·exact⟨seen Tryz.prog b.fn es ++ #[],by simp[Conc.G,stepG,stepG.exec,Fr,-Sem.runT_eq,g,GStep.after],fun ev he=>Lh (by simpa using he)⟩
   ·rintro j Z'' ⟨rfl,rfl⟩;exact .ghost Ghost.drop (.stop (.inl ⟨rfl,.normal,tm,e,_,k,ht,hend r Y' τ hle hJ',rfl,rfl⟩))
  ·subst hcs;refine .stop (.inr ⟨rfl,v,tm,_,_,_,ht.2,Amz,?_⟩);have:=hpan v r Y' (O'++[(l,Res.obj (.loop L'))]) τ (hO'.cat Aea) hle hX;rw[Gv]at this;exact this
 ·subst e1;rw[Ars];refine Afw (i:=pfx.length) Azq (by simp[L]) ?_;show RoundP (CX mn X) l b.fn _ assign body Y' _ _ _;have etm:((L.params.zip #[x]).foldl (fun tmps (t,a)=>tmps.setIfInBounds t a) L.tmps)=tm.setIfInBounds q x:=by simp[L]
  rw[etm];refine Ayq (fn:=fnb) hfn (ht.put hq x) ?_;refine Adw (hbody l pre x post Y' τ hys hle c (pfx++[(l,Res.obj (.loop L)),(r,.obj (.deferred (some [])))]) hpo.add) ?_;rintro ex e1 ds1 Y1 Z1 ⟨rfl,rfl,h,τ1,rfl,hb⟩;refine⟨rfl,rfl,pfx.length,L,Azq,rfl,?_⟩;rw[Bfl];have hb':=hb (pfx++[(l,Res.obj (.loop {L with state:=.busy})),(r,.obj (.deferred (some [])))]) hpo.add;refine Bup (Adw hb' ?_) ?_
  ·rintro ex c D Y2 Z2 ⟨d,τ2,rfl,rfl,z⟩;refine⟨pfx.length,{L with state:=.busy},Azq,rfl,?_⟩;rw[Bfl,<-Ars];exact⟨_,rfl,h.trans d,rfl,τ2,rfl,z⟩
  ·rintro v _ ds Y2 Z2 ⟨rfl,d,τ2,rfl,hX⟩;refine⟨rfl,h.trans d,_,?_,{L with state:=.busy},τ2,rfl,hX⟩;rw[<-Ars]
end
end
section
theorem Bhj{t:List UInt8}{k:Nat}{Y9:Ro}(hb:t.length<=60000):Bcq (.func (.func 94) #[] #[.pointer (some ⟨k,0,none⟩)]) Y9 [(k,Res.obj (.cells #[.string (bs t)] 9 (0,0)))] ((Fk [] t).map (fun l:List UInt8=>Value.string (bs l))):=by
 refine⟨_,_,[.pointer (some ⟨k,0,none⟩)],rfl,Tryz.func94,rfl,rfl,?_⟩;intro mn X l I XP Y Z hle a9 hI hy;refine Zi (n:=25) (args:=[.func (.yield l) #[] #[],.pointer (some ⟨k,0,none⟩)]) [] Tryz.func94 rfl rfl rfl rfl fun Q aa H=>?_;refine Ao ?_;refine Cc (fun mm ee dd Y' Z'=>∃(s:List UInt8) (pre:List (List UInt8)) (y:Own),(s.length)=mm/\[]=dd/\Ro.le Y Y'/\((k,Res.obj (Obj.cells #[.string (bs s)] 9 (0,0)))::y)=Z'/\ee 0=(.func (.yield l) #[] #[])/\ee 1=(.pointer (some ⟨k,0,none⟩))/\(Fk [] t=pre++Fk [] s)/\(s.length<=60000)/\I (pre.map (fun l:List UInt8=>Value.string (bs l))) Y' y/\True) (m:=_) ⟨t,[],Z,rfl,rfl,Cfb,rfl,rfl,rfl,rfl,hb,hI,trivial⟩ ?_;rintro m1 e1 _ ae _ ⟨s,pre,y,rfl,rfl,b,rfl,g,a,f,ab,u,_⟩;refine Ai fun K2 R=>?_;refine Ai fun K3 T=>?_;refine Ag rfl rfl ?_;refine Ae rfl (Dt (i:=0) (v:=.string (bs s)) ⟨_,Ccs,rfl⟩ a rfl rfl ?_);refine Aa rfl (Pi Ccs (p:=s) rfl) ?_;refine Aa rfl (Gl (p:=((s.length:Nat):Int)) (q:=0) rfl rfl) ?_;refine Ac ?_;apply T;refine Bp (t:=decide (((s.length:Nat):Int)>0)) rfl (fun w=>?_) (fun w=>?_)
 ·have q4:=lZ1 w;refine Al ?_;apply R;refine Ao ?_;refine Ai fun K5 U=>?_;refine Ag rfl rfl ?_;refine Aa rfl (Cp (v:=.string (ByteArray.mk #[])) rfl) ?_;refine Ac ?_;apply U;refine Ai fun K6 C=>?_;refine Ai fun K7 V=>?_;refine Ag rfl rfl ?_;refine Ae rfl (Dt (i:=0) (v:=.string (bs s)) ⟨_,Ccs,rfl⟩ a rfl rfl ?_);refine Ae rfl (Bm (vs:=[.string (bs s),.int .u8 10]) (v:=.int .i64 (Qz (10:UInt8) s)) (Bgk (p:=s) (c:=(10:UInt8))) Tryz.func95 rfl rfl ⟨rfl,rfl,trivial⟩ ?_);refine Aa rfl (Cp (v:=.int .i64 (Qz (10:UInt8) s)) rfl) ?_;refine Ac ?_;apply V;refine Ai fun K8 W=>?_;refine Ag rfl rfl ?_;refine Aa rfl (Ah (v:=.int .i64 (Qz (10:UInt8) s)) rfl) ?_;refine Aa rfl (Uy (p:=Qz (10:UInt8) s) (q:=0) rfl rfl) ?_;refine Ac ?_;apply W;refine Bp (t:=decide ((Qz (10:UInt8) s)>=0)) rfl (fun d=>?_) (fun d=>?_)
  ·obtain⟨m,B,a8,e⟩:=Bht d;have q9:=lZ1 d;refine Og ((k,Res.obj (Obj.cells #[.string (bs s)] 9 (0,0)))::[]) [0,1,2,3,4,5,6,7,8] (by kernel_rfl) rfl rfl ?_;refine Aay (i:=0) [o1,o0,o0,o0,o0,o0,o0,o0,o0,o0] rfl (by kernel_rfl) rfl ⟨Cfb,(by repeat first|exact Anm|refine Ani ?_|refine Anj ?_|refine Anh ?_|refine Ank ?_)⟩ rfl (Fj (v:=.string (bs s)) ⟨_,Ccs,rfl⟩ a mC rfl) ?_;refine Aay (i:=1) [o1,o1,o0,o0,o0,o0,o0,o0,o0,o0] rfl (by kernel_rfl) rfl ⟨Cfb,(by repeat first|exact Anm|refine Ani ?_|refine Anj ?_|refine Anh ?_|refine Ank ?_)⟩ rfl (Yld.o (Ah (v:=.int .i64 (m:Int)) (congrArg (Value.int .i64) B))) ?_;refine Aay (i:=2) [o1,o1,o1,o0,o0,o0,o0,o0,o0,o0] rfl (by kernel_rfl) rfl ⟨Cfb,(by repeat first|exact Anm|refine Ani ?_|refine Anj ?_|refine Anh ?_|refine Ank ?_)⟩ rfl (Yld.o (Br (p:=(m:Int)) (q:=1) rfl rfl (z:=(((m+1):Nat):Int)) (Bo (by first|rfl|omega|(push_cast;rfl)) (by omega) (by omega)))) ?_;refine Aay (i:=3) [o1,o1,o1,o1,o0,o0,o0,o0,o0,o0] rfl (by kernel_rfl) rfl ⟨Cfb,(by repeat first|exact Anm|refine Ani ?_|refine Anj ?_|refine Anh ?_|refine Ank ?_)⟩ rfl (Yld.o (Azo (p:=s) (l:=0) (h:=m+1) Ccs rfl (.inl ⟨rfl,rfl⟩) (.inr ⟨_,rfl,rfl⟩) (by first|omega|(simp only[Jb,Qk]at *;omega)) (by first|omega|(simp only[Jb,Qk]at *;omega)))) ?_;refine Aay (i:=4) [o1,o1,o1,o1,o1,o0,o0,o0,o0,o0] rfl (by kernel_rfl) rfl ⟨Cfb,(by repeat first|exact Anm|refine Ani ?_|refine Anj ?_|refine Anh ?_|refine Ank ?_)⟩ rfl (Fj (v:=.string (bs s)) ⟨_,Ccs,rfl⟩ a mC rfl) ?_;refine Aay (i:=5) [o1,o1,o1,o1,o1,o1,o0,o0,o0,o0] rfl (by kernel_rfl) rfl ⟨Cfb,(by repeat first|exact Anm|refine Ani ?_|refine Anj ?_|refine Anh ?_|refine Ank ?_)⟩ rfl (Yld.o (Ah (v:=.int .i64 (m:Int)) (congrArg (Value.int .i64) B))) ?_;refine Aay (i:=6) [o1,o1,o1,o1,o1,o1,o1,o0,o0,o0] rfl (by kernel_rfl) rfl ⟨Cfb,(by repeat first|exact Anm|refine Ani ?_|refine Anj ?_|refine Anh ?_|refine Ank ?_)⟩ rfl (Yld.o (Br (p:=(m:Int)) (q:=1) rfl rfl (z:=(((m+1):Nat):Int)) (Bo (by first|rfl|omega|(push_cast;rfl)) (by omega) (by omega)))) ?_;refine Aay (i:=7) [o1,o1,o1,o1,o1,o1,o1,o1,o0,o0] rfl (by kernel_rfl) rfl ⟨Cfb,(by repeat first|exact Anm|refine Ani ?_|refine Anj ?_|refine Anh ?_|refine Ank ?_)⟩ rfl (Yld.o (Azo (p:=s) (l:=m+1) (h:=s.length) Ccs rfl (.inr ⟨_,rfl,rfl⟩) (.inl ⟨rfl,rfl⟩) (by first|omega|(simp only[Jb,Qk]at *;omega)) (by first|omega|(simp only[Jb,Qk]at *;omega)))) ?_;refine Bbr (i:=8) [o1,o1,o1,o1,o1,o1,o1,o1,o1,o0] rfl (by kernel_rfl) rfl ⟨Cfb,(by repeat first|exact Anm|refine Ani ?_|refine Anj ?_|refine Anh ?_|refine Ank ?_)⟩ rfl (Yld.o (Cp (v:=.string (bs ((s.take (m+1)).drop 0))) rfl)) ⟨Cfb,(by repeat first|exact Anm|refine Ani ?_|refine Anj ?_|refine Anh ?_|refine Ank ?_)⟩ ?_;refine Bet (i:=9) [o1,o1,o1,o1,o1,o1,o1,o1,o1,o1] rfl (by kernel_rfl) (by kernel_rfl) rfl rfl (Cz (j:=0) (v:=.string (bs ((s.take s.length).drop (m+1)))) ⟨_,Ab Cdw,rfl⟩ a rfl rfl rfl nL ?_);refine Se rfl ?_;apply C;refine Ai fun a6 O=>?_;refine Ag rfl rfl ?_;refine Aa rfl (Ah (v:=.func (.yield l) #[] #[]) g) ?_;refine Aa rfl (Ah (v:=.string (bs ((s.take (m+1)).drop 0))) rfl) ?_;refine Iv rfl (Ant (v:=.string (bs ((s.take (m+1)).drop 0))) rfl rfl (hy (pre.map (fun l:List UInt8=>Value.string (bs l))) (.string (bs ((s.take (m+1)).drop 0))) ((Fk [] ((s.take s.length).drop (m+1))).map (fun l:List UInt8=>Value.string (bs l))) _ _ [(k,Res.obj (Obj.cells #[.string (bs ((s.take s.length).drop (m+1)))] 9 (0,0)))] Aea (by rw[f,e,Lo,Je]) b u) (fun ac a0 a2 F=>?_) fun x a0 a2 hx=>⟨rfl,?_⟩);rotate_left
   ·obtain⟨lp,τ,hs,hX⟩:=hx;subst hs;exact⟨b.trans lp,[(k,_)],τ,Aea,rfl,hX⟩
   obtain⟨a4,K,YQ,M,D⟩:=F;subst K;subst M;refine Aa rfl (Iy (k:=true) rfl) ?_;refine Ac ?_;apply O;refine Cg rfl (not_t rfl) ?_;refine Al ?_;refine⟨_,?_,((s.take s.length).drop (m+1)),(pre++[(s.take (m+1)).drop 0]),a4,rfl,rfl,(Cfc b YQ),rfl,g,a,(by rw[f,e,Gv];rfl),(by simp only[Jb,Qk,Nq]at *;omega),(Yp (by rw[Lo];rfl) D),trivial⟩;simp only[Jb,Qk,Nq]at *;omega
  have e:=Bhs d (by omega);have q9:=lZ2 d;refine Ag rfl rfl ?_;refine Ae rfl (Dt (i:=0) (v:=.string (bs s)) ⟨_,Ccs,rfl⟩ a rfl rfl ?_);refine Aa rfl (Cp (v:=.string (bs s)) rfl) ?_;refine Cx rfl (Cz (j:=0) (v:=.string (ByteArray.mk #[])) ⟨_,Ab Cdw,rfl⟩ a rfl rfl rfl nL ?_);refine Ac ?_;apply C;refine Ai fun a7 P=>?_;refine Ag rfl rfl ?_;refine Aa rfl (Ah (v:=.func (.yield l) #[] #[]) g) ?_;refine Aa rfl (Ah (v:=.string (bs s)) rfl) ?_;refine Iv rfl (Ant (v:=.string (bs s)) rfl rfl (hy (pre.map (fun l:List UInt8=>Value.string (bs l))) (.string (bs s)) ((Fk [] ([]:List UInt8)).map (fun l:List UInt8=>Value.string (bs l))) _ _ [(k,Res.obj (Obj.cells #[.string (ByteArray.mk #[])] 9 (0,0)))] Aea (by rw[f,e,Lo,Je];rfl) b u) (fun ad a1 a3 G=>?_) fun x a1 a3 hx=>⟨rfl,?_⟩);rotate_left
  ·obtain⟨lp,τ,hs,hX⟩:=hx;subst hs;exact⟨b.trans lp,[(k,_)],τ,Aea,rfl,hX⟩
  obtain⟨a5,L,ZQ,N,E⟩:=G;subst L;subst N;refine Aa rfl (Iy (k:=true) rfl) ?_;refine Ac ?_;apply P;refine Cg rfl (not_t rfl) ?_;refine Al ?_;refine⟨_,?_,([]:List UInt8),(pre++[s]),a5,rfl,rfl,(Cfc b ZQ),rfl,g,a,(by rw[f,e,Gv];rfl),(by simp only[Jb,Qk,Nq]at *;omega),(Yp (by rw[Lo];rfl) E),trivial⟩;simp only[Jb,Qk,Nq]at *;omega
 have q4:=lZ2 w;refine Aj Ghost.drop ?_;refine Bx ?_;refine H _ _ _ ?_;have J:s=[]:=Atp (by omega);refine⟨b,?_⟩;rw[f,J,show Fk [] ([]:List UInt8)=[] from rfl,Tb];exact u
end
section
def RecovP(C:Ctx)(g:FuncId)(args:Array Value)(x:Value)(Y:Ro)(Z:Own)(R:Ro->Own->Prop):Prop :=
 ∀c cs,c.mode = .panicking [⟨x,false,false⟩]->GoesH C (fun fr cs' Y' Z'=>fr={c with mode:=.returning}/\cs'=cs/\R Y' Z') (Frame.enter C.P g args .deferred) (c::cs) Y Z
def DefersP(C:Ctx)(g:FuncId)(args:Array Value)(Y:Ro)(Z:Own)(R:Ro->Own->Prop):Prop :=
 ∀c cs,c.mode = .returning->GoesH C (fun fr cs' Y' Z'=>fr=c/\cs'=cs/\R Y' Z') (Frame.enter C.P g args .deferred) (c::cs) Y Z
theorem Bfq{C:Ctx}{V:Ps}{b:FB}{n:Nat}{c:Code}{Q:Hu}{e:Env}{ds:List Deferred}{Y:Ro}{Z:Own}(h:WpP C (fun x e ds Y Z=>∃Y' Z',Ghost Y Z Y' Z'/\V x e ds Y' Z') b n c Q e ds Y Z):WpP C V b n c Q e ds Y Z :=
 fun tm k cs ht=>(h tm k cs ht).bind fun _ _ _ _ hs=>hs.elim (fun hs=>.stop (.inl hs)) fun⟨a,x,tm',e',ds',g,d,f,Y',Z',hg,hV⟩=>.ghost hg (.stop (.inr ⟨a,x,tm',e',ds',g,d,f,hV⟩))
section
variable{C:Ctx}{n:Nat}{e:Env}{Y:Ro}{Z:Own}
theorem Apy{P:Program}{f:FuncId}{fn:Func}{args fs:Array Value}(hf:P.funcs[f]?=some fn)(hn:(fn.name == "runtime.NumGoroutine")=false)(hb:fn.body.isNone=false)(W:World) :
  (invoke (.fn (.func f) fs) args).runT P W #[]=(.ok (.enter f (args++fs)) W,#[]):=by show (callFunc f (args++fs)).runT P W #[]=_;show (program.bind _:Sem Next).runT P W #[]=_;rw[Sem.runT_bind'];show Sem.runT P (match P.funcs[f]? with|none=>_|some fn=>_) W #[]=_;rw[hf];simp only[hn,hb];rfl
theorem Ape{g:FuncId}{fn:Func}{S:Cy}{tm:Array Value}{ex:Ex}{todo:List Item}{c c':Frame}{cs:List Frame}(hf:C.P.funcs[g]?=some fn)(hr:fn.results = #[])(hx:∀id,ex ≠ .exit id)(ht:Pl ex [] todo)
  (hc:∀W,doReturn C.P C.main {Fr ⟨g,.deferred,none⟩ tm [] (match ex with | .normal=>[]|_=>todo) with mode:=.returning} (c::cs) none (.tuple #[]) W = .go (Conc.G c' cs) W) (h:GoesH C S c' cs Y Z):GoesH C S (Fr ⟨g,.deferred,none⟩ tm [] todo) (c::cs) Y Z:=by
 have fin:∀todo,(∀W,doReturn C.P C.main {Fr ⟨g,.deferred,none⟩ tm [] todo with mode:=.returning} (c::cs) none (.tuple #[]) W = .go (Conc.G c' cs) W)->GoesH C S {Fr ⟨g,.deferred,none⟩ tm [] todo with mode:=.returning} (c::cs) Y Z:=by
  intro todo hc;refine Eh (fr':=c') (cs':=cs) (fun W=>?_) h;have hrs:(results fn tm).runT C.P W #[]=(.ok (.tuple #[]) W,#[]):=by
   unfold results;rw[hr,Bbg];rfl
  have:=hc W;simp only[Fr,Conc.G]at this;simp[Conc.G,stepG,Fr,unwind,hf,-Sem.runT_eq,hrs,GStep.after,seen,this]
 cases ex with
 | normal =>
  cases ht;exact Eh (fr':={Fr ⟨g,.deferred,none⟩ tm [] [] with mode:=.returning}) (cs':=c::cs) (fun W=>by simp[Conc.G,stepG,stepG.exec,Fr]) (fin _ hc)
 | exit id=>exact absurd rfl (hx id)
 | ret =>
  obtain⟨pre,rfl⟩:=ht;exact Eh (fr':={Fr ⟨g,.deferred,none⟩ tm [] (.code .ret::(pre++[])) with mode:=.returning}) (cs':=c::cs) (fun W=>by simp[Conc.G,stepG,stepG.exec,Fr]) (fin _ hc)
theorem Apd{g:FuncId}{fn:Func}{S:Cy}{id d:Nat}{tys:Array TypeId}{ty:TypeId}{pos:String}{af:Array Edge}{rest:Code}{args:List Value}{x:Value}{c c':Frame}{cs:List Frame}(hf:C.P.funcs[g]?=some fn)(hc:fn.body=some (.seq (.region id #[⟨some d,.call ⟨.builtin .recover,#[],tys⟩,ty,pos,af,none⟩] false) rest))(hn:fn.ntmps=n)(ha:Nat.ble args.length n=true)(hd:Nat.blt d n=true)
  (hm:(tryRecover (Fr ⟨g,.deferred,none⟩ #[] [] []) (c::cs)=some (x,c'::cs))∨(tryRecover (Fr ⟨g,.deferred,none⟩ #[] [] []) (c::cs)=none/\x = .nilIface/\c'=c))
  (h:∀tm,EnvOf n tm (upd (Pn args) d x)->GoesH C S (Fr ⟨g,.deferred,none⟩ tm [] [.code rest]) (c'::cs) Y Z):GoesH C S (Frame.enter C.P g args.toArray .deferred) (c::cs) Y Z:=by
 have e:Frame.enter C.P g args.toArray .deferred=Fr ⟨g,.deferred,none⟩ (args.toArray++Array.replicate (n-args.toArray.size) undef) [] [.code (.seq (.region id #[⟨some d,.call ⟨.builtin .recover,#[],tys⟩,ty,pos,af,none⟩] false) rest)]:=by
  simp[Frame.enter,hf,hc,hn,Fr]
 rw[e];have hE:=Tn (args:=args) (n:=n) (lZ6 ha);generalize (args.toArray++Array.replicate (n-args.toArray.size) undef)=tm at hE;generalize hops:#[(⟨some d,.call ⟨.builtin .recover,#[],tys⟩,ty,pos,af,none⟩:Oper)]=ops;have ho:ops[0]?=some ⟨some d,.call ⟨.builtin .recover,#[],tys⟩,ty,pos,af,none⟩:=by subst hops;rfl
 have hsz:ops.size=1:=by subst hops;rfl
 have hs:Fu n ops=true:=by
  subst hops;have:d<n:=by simpa using hd
  simp[Fu,this]
 refine Eh (fr':=Fr ⟨g,.deferred,none⟩ tm [] [.code (.region id ops false),.code rest]) (cs':=c::cs) (fun W=>by simp[Conc.G,stepG,stepG.exec,Fr]) ?_;refine Eh (fr':=Fr ⟨g,.deferred,none⟩ tm [] [.inRegion ops [0],.code rest]) (cs':=c::cs) (fun W=>by simp[Conc.G,stepG,stepG.exec,Fr,hsz,List.range,List.range.loop]) ?_;refine Eh (fr':=Fr ⟨g,.deferred,none⟩ (tm.setIfInBounds d x) [] [.inRegion ops [],.code rest]) (cs':=c'::cs) (fun W=>?_) ?_
 ·have hst:=Np (C:=C) (b:=⟨g,.deferred,none⟩) (ds:=[]) (tm:=tm) (k:=[.code rest]) (cs:=c::cs) (rest:=[]) ho (by rw[Ij hs hE];rfl) (fun c' h'=>by cases h') W;refine hst.trans ?_;have hev:=hE.eval ⟨g,.deferred,none⟩ [] (.inRegion ops [0]::[.code rest]);rw[hev];have hr:(execOp (Af (Pn args)) ⟨some d,.call ⟨.builtin .recover,#[],tys⟩,ty,pos,af,none⟩).runT C.P W #[]=(.ok .recover W,#[]):=rfl;have a:=Ju (b:=⟨g,.deferred,none⟩) (ds:=[]) (rest:=[]) (tm:=tm) (k:=[.code rest]) ho x;rcases hm with hm|⟨hm,rfl,rfl⟩
  ·have hm':tryRecover (Fr ⟨g,.deferred,none⟩ tm [] (.inRegion ops [0]::[.code rest])) (c::cs)=some (x,c'::cs):=hm;simp only[Fr]at hm' a;simp[stepG.apply,-Sem.runT_eq,hr,GStep.after,Conc.G,Fr,seen,hm',a]
  ·have hm':tryRecover (Fr ⟨g,.deferred,none⟩ tm [] (.inRegion ops [0]::[.code rest])) (c'::cs)=none:=hm;simp only[Fr]at hm' a;simp[stepG.apply,-Sem.runT_eq,hr,GStep.after,Conc.G,Fr,seen,hm',a]
 refine Eh (fr':=Fr ⟨g,.deferred,none⟩ (tm.setIfInBounds d x) [] [.code rest]) (cs':=c'::cs) (fun W=>by simp[Conc.G,stepG,stepG.exec,Fr]) ?_;exact h _ (hE.put (by simpa using hd) x)
theorem Bpg{g:FuncId}{fn:Func}{id d:Nat}{tys:Array TypeId}{ty:TypeId}{pos:String}{af:Array Edge}{rest:Code}{args:List Value}{x:Value}{R:Ro->Own->Prop}(hf:C.P.funcs[g]?=some fn)(hc:fn.body=some (.seq (.region id #[⟨some d,.call ⟨.builtin .recover,#[],tys⟩,ty,pos,af,none⟩] false) rest))(hn:fn.ntmps=n)(hr:fn.results = #[])(ha:Nat.ble args.length n=true)(hd:Nat.blt d n=true)
  (h:∀Q:Hu,(∀ex e Y' Z',(∀id,ex ≠ .exit id)->R Y' Z'->Q ex e [] Y' Z')->WpC C ⟨g,.deferred,none⟩ n rest Q (upd (Pn args) d x) [] Y Z):RecovP C g args.toArray x Y Z R:=by
 rintro c cs hm;refine Apd hf hc hn ha hd (x:=x) (c':={c with mode:=.panicking [⟨x,true,false⟩]}) (.inl ?_) fun tm ht=>?_
 ·simp[tryRecover,Fr,hm]
 refine((h (fun ex _ ds Y' Z'=>(∀id,ex ≠ .exit id)/\ds=[]/\R Y' Z') (fun _ _ _ _ b a=>⟨b,rfl,a⟩)).stops tm [] _ ht).bind ?_;rintro _ _ Y' Z' ⟨rfl,ex,tm',e',ds',j,b,⟨a,rfl,f⟩,i,rfl⟩;refine Ape hf hr a i (c':={c with mode:=.returning}) (fun W=>?_) (.stop ⟨rfl,rfl,f⟩);simp[doReturn,Fr,Conc.G]
theorem Bgx{g:FuncId}{fn:Func}{id d:Nat}{tys:Array TypeId}{ty:TypeId}{pos:String}{af:Array Edge}{rest:Code}{args:List Value}{R:Ro->Own->Prop}(hf:C.P.funcs[g]?=some fn)(hc:fn.body=some (.seq (.region id #[⟨some d,.call ⟨.builtin .recover,#[],tys⟩,ty,pos,af,none⟩] false) rest))(hn:fn.ntmps=n)(hr:fn.results = #[])(ha:Nat.ble args.length n=true)(hd:Nat.blt d n=true)
  (h:∀Q:Hu,(∀ex e Y' Z',(∀id,ex ≠ .exit id)->R Y' Z'->Q ex e [] Y' Z')->WpC C ⟨g,.deferred,none⟩ n rest Q (upd (Pn args) d .nilIface) [] Y Z):DefersP C g args.toArray Y Z R:=by
 rintro c cs hm;refine Apd hf hc hn ha hd (x:=.nilIface) (c':=c) (.inr ⟨?_,rfl,rfl⟩) fun tm ht=>?_
 ·simp[tryRecover,Fr,hm]
 refine((h (fun ex _ ds Y' Z'=>(∀id,ex ≠ .exit id)/\ds=[]/\R Y' Z') (fun _ _ _ _ b a=>⟨b,rfl,a⟩)).stops tm [] _ ht).bind ?_;rintro _ _ Y' Z' ⟨rfl,ex,tm',e',ds',j,b,⟨a,rfl,f⟩,i,rfl⟩;refine Ape hf hr a i (c':=c) (fun W=>?_) (.stop ⟨rfl,rfl,f⟩);simp[doReturn,Fr,Conc.G,hm]
def Aic(C:Ctx)(fn:Func)(R:Value->Ro->Own->Prop)(e:Env):List Deferred->Ro->Own->Prop
 | [],Y,Z=>wpS C.P Y (Hp fn e) Z (fun v Z'=>R v Y Z')
 | d::ds,Y,Z=>(∃r i,d.target = .collected r/\Z[i]?=some (r,.obj (.deferred (some [])))/\Aic C fn R e ds Y (Z.set i (r,.obj (.deferred none)))) ∨
   ∃g fs gn,d.target = .fn (.func g) fs/\C.P.funcs[g]?=some gn/\(gn.name == "runtime.NumGoroutine")=false/\gn.body.isNone=false/\DefersP C g (d.args++fs) Y Z (Aic C fn R e ds)
def Bfy(C:Ctx)(fn:Func)(R:Value->Ro->Own->Prop)(e:Env)(x:Value):List Deferred->Ro->Own->Prop
 | [],_,_=>False
 | d::ds,Y,Z=>(∃r i,d.target = .collected r/\Z[i]?=some (r,.obj (.deferred (some [])))/\Bfy C fn R e x ds Y (Z.set i (r,.obj (.deferred none)))) ∨
   ∃g fs gn,d.target = .fn (.func g) fs/\C.P.funcs[g]?=some gn/\(gn.name == "runtime.NumGoroutine")=false/\gn.body.isNone=false/\RecovP C g (d.args++fs) x Y Z (Aic C fn R e ds)
variable{b:FB}{S:Cy}{fn:Func}{R:Value->Ro->Own->Prop}{tm:Array Value}{todo:List Item}{c:Frame}{cs:List Frame}{ds:List Deferred}
theorem Apq(hf:C.P.funcs[b.fn]?=some fn)(hk:b.kind = .normal)(ht:∀i,tm.getD i undef=e i)(h:Aic C fn R e ds Y Z)(hS:∀v Y' Z',R v Y' Z'->GoesH C S (Frame.finish c v) cs Y' Z') :
  GoesH C S {Fr b tm ds todo with mode:=.returning} (c::cs) Y Z:=by
 induction ds generalizing Y Z with
 | nil =>
  refine Lw (f:=fun v=>(Frame.finish c v,cs)) (s:=Hp fn e) (Q:=fun v Z'=>R v Y Z') (fun W v W' es hr=>?_) h fun v Z' hv=>hS v Y Z' hv;rw[<-Abq (n:=tm.size) ⟨rfl,ht⟩]at hr;exact⟨seen C.P b.fn es,by simp[Conc.G,stepG,Fr,unwind,hf,-Sem.runT_eq,hr,doReturn,hk,GStep.after],fun e he=>Lh he⟩
 | cons d ds ih =>
  obtain⟨tgt,args⟩:=d;rcases h with⟨r,i,hd,hi,h⟩|⟨g,fs,gn,hd,a,j,k,h⟩
  ·simp only at hd;subst hd;refine Lw (f:=fun (l:List Deferred)=>({Fr b tm (l++ds) todo with mode:=.returning},c::cs)) (s:=Instr.takeDeferred r) (Q:=fun l Z'=>l=[]/\Aic C fn R e ds Y Z') (fun W l W' es hr=>?_) (Ajr hi ⟨rfl,h⟩) ?_
   ·exact⟨seen C.P b.fn es,by simp[Conc.G,stepG,Fr,unwind,-Sem.runT_eq,hr,GStep.after],fun e he=>Lh he⟩
   ·rintro l Z' ⟨rfl,h⟩;exact ih h
  ·simp only at hd;subst hd;refine Eh (fr':=Frame.enter C.P g (args++fs) .deferred) (cs':={Fr b tm ds todo with mode:=.returning}::c::cs) (fun W=>?_) ?_
   ·have hr:=Apy (args:=args) (fs:=fs) a j k W;simp[Conc.G,stepG,Fr,unwind,callDeferred,-Sem.runT_eq,hr,GStep.after,seen]
   ·refine(h _ (c::cs) rfl).bind ?_;rintro _ _ Y' Z' ⟨rfl,rfl,h⟩;exact ih h
theorem Bhe{x:Value}(hf:C.P.funcs[b.fn]?=some fn)(hk:b.kind = .normal)(ht:∀i,tm.getD i undef=e i)(h:Bfy C fn R e x ds Y Z)(hS:∀v Y' Z',R v Y' Z'->GoesH C S (Frame.finish c v) cs Y' Z') :
  GoesH C S (FrP b tm ds todo x) (c::cs) Y Z:=by
 induction ds generalizing Y Z with
 | nil=>exact h.elim
 | cons d ds ih =>
  obtain⟨tgt,args⟩:=d;rcases h with⟨r,i,hd,hi,h⟩|⟨g,fs,gn,hd,a,j,k,h⟩
  ·simp only at hd;subst hd;refine Lw (f:=fun (l:List Deferred)=>(FrP b tm (l++ds) todo x,c::cs)) (s:=Instr.takeDeferred r) (Q:=fun l Z'=>l=[]/\Bfy C fn R e x ds Y Z') (fun W l W' es hr=>?_) (Ajr hi ⟨rfl,h⟩) ?_
   ·exact⟨seen C.P b.fn es,by simp[Conc.G,stepG,Fr,FrP,unwind,-Sem.runT_eq,hr,GStep.after],fun e he=>Lh he⟩
   ·rintro l Z' ⟨rfl,h⟩;exact ih h
  ·simp only at hd;subst hd;refine Eh (fr':=Frame.enter C.P g (args++fs) .deferred) (cs':=FrP b tm ds todo x::c::cs) (fun W=>?_) ?_
   ·have hr:=Apy (args:=args) (fs:=fs) a j k W;simp[Conc.G,stepG,Fr,FrP,unwind,callDeferred,-Sem.runT_eq,hr,GStep.after,seen]
   ·refine(h _ (c::cs) rfl).bind ?_;rintro _ _ Y' Z' ⟨rfl,rfl,h⟩;exact Apq (b:=b) (tm:=tm) (todo:=todo) hf hk ht h hS
theorem Bgu{f:FuncId}{code:Code}{args:List Value}(hf:C.P.funcs[f]?=some fn)(hc:fn.body=some code)(hn:fn.ntmps=n)(ha:Nat.ble args.length n=true)
  (h:∀Q:Hu,(∀e ds Y' Z',Aic C fn R e ds Y' Z'->Q .ret e ds Y' Z')->(∀e ds Y' Z',Aic C fn R e ds Y' Z'->Q .normal e ds Y' Z')->WpP C (fun x e ds Y' Z'=>Bfy C fn R e x ds Y' Z') ⟨f,.normal,none⟩ n code Q (Pn args) [] Y Z):CallsH C f args.toArray Y Z R:=by
 intro c' cs;have d:Frame.enter C.P f args.toArray .normal=Fr ⟨f,.normal,none⟩ (args.toArray++Array.replicate (n-args.toArray.size) undef) [] [.code code]:=by
  simp[Frame.enter,hf,hc,hn,Fr]
 rw[d];refine(h (fun ex e ds Y' Z'=>(∀id,ex ≠ .exit id)/\Aic C fn R e ds Y' Z') (fun _ _ _ _ h=>⟨fun id h=>(by cases h),h⟩) (fun _ _ _ _ h=>⟨fun id h=>(by cases h),h⟩) _ [] (c'::cs) (Tn (lZ6 ha))).bind ?_;rintro _ _ Y' Z' (⟨rfl,ex,tm',e',ds',a,g,⟨i,j⟩,c,rfl⟩|⟨rfl,x,tm',e',ds',a,ht,rfl,hX⟩)
 ·have fin:∀a,GoesH C (fun fr cs' Y' Z'=>∃v,fr=Frame.finish c' v/\cs'=cs/\R v Y' Z') {Fr ⟨f,.normal,none⟩ tm' ds' a with mode:=.returning} (c'::cs) Y' Z' :=
   fun a=>Apq (b:=⟨f,.normal,none⟩) hf rfl g.2 j fun v Y'' Z'' hv=>.stop ⟨v,rfl,rfl,hv⟩
  cases ex with
  | normal =>
   cases c;exact Eh (fr':={Fr ⟨f,.normal,none⟩ tm' ds' [] with mode:=.returning}) (cs':=c'::cs) (fun W=>by simp[Conc.G,stepG,stepG.exec,Fr]) (fin _)
  | exit id=>exact absurd rfl (i id)
  | ret =>
   obtain⟨pre,rfl⟩:=c;exact Eh (fr':={Fr ⟨f,.normal,none⟩ tm' ds' (.code .ret::(pre++[])) with mode:=.returning}) (cs':=c'::cs) (fun W=>by simp[Conc.G,stepG,stepG.exec,Fr]) (fin _)
 ·exact Bhe (b:=⟨f,.normal,none⟩) hf rfl ht hX fun v Y'' Z'' hv=>.stop ⟨v,rfl,rfl,hv⟩
theorem Bae{f:FuncId}{code:Code}{args:List Value}(hf:C.P.funcs[f]?=some fn)(hc:fn.body=some code)(hn:fn.ntmps=n)(ha:Nat.ble args.length n=true)
  (h:∀Q:Hu,(∀e ds Y' Z',Aic C fn (fun v Y Z=>∃Y' Z',Ghost Y Z Y' Z'/\R v Y' Z') e ds Y' Z'->Q .ret e ds Y' Z')->(∀e ds Y' Z',Aic C fn (fun v Y Z=>∃Y' Z',Ghost Y Z Y' Z'/\R v Y' Z') e ds Y' Z'->Q .normal e ds Y' Z') ->
   WpP C (fun x e ds Y Z=>∃Y' Z',Ghost Y Z Y' Z'/\Bfy C fn (fun v Y Z=>∃Y' Z',Ghost Y Z Y' Z'/\R v Y' Z') e x ds Y' Z') ⟨f,.normal,none⟩ n code Q (Pn args) [] Y Z):CallsH C f args.toArray Y Z R:=by intro c' cs;refine(Bgu (R:=fun v Y Z=>∃Y' Z',Ghost Y Z Y' Z'/\R v Y' Z') hf hc hn ha (fun Q a b=>Bfq (h Q a b)) c' cs).bind ?_;rintro _ _ Y' Z' ⟨v,rfl,rfl,Y'',Z'',hg,hR⟩;exact .ghost hg (.stop ⟨v,rfl,rfl,hR⟩)
end
section
variable{C:Ctx}{V:Ps}{b:FB}{n:Nat}{e:Env}{ds:List Deferred}{Y:Ro}{Z:Own}{K:Value->List Deferred->Ro->Own->Prop}{dd:Option Tmp}{ty:TypeId}{pos:String}{af:Array Edge}{gd:Option (Nat×Bool)}
theorem Bjd{x:Operand}{g:FuncId}{fs:List Value}{tys:Array TypeId}(hx:Af e x = .func (.func g) #[] fs.toArray)(h:K undef ({target:=.fn (.func g) fs.toArray,args:=#[]}::ds) Y Z) :
  wpS C.P Y (execOp (Af e) ⟨dd,.defer ⟨.value x,#[],tys⟩,ty,pos,af,gd⟩) Z (NextH C K none ds Y):=by
 have a:execOp (Af e) ⟨dd,.defer ⟨.value x,#[],tys⟩,ty,pos,af,gd⟩=Sem.pure (Next.defer {target:=.fn (.func g) fs.toArray,args:=#[]}):=by
  show ((Deferred.ofValue (Af e x) ((#[]:Array Operand).map (Af e))).bind fun d=>Sem.pure (Next.defer d))=_;rw[hx];simp[Deferred.ofValue,Sem.bind,pure]
 rw[a];exact⟨rfl,h⟩
theorem Bnw{l₀:List Oper}{id:Nat}{Q:Hu}(A:Own)(pz:List Nat)(hm:C.P.follows .mixedOrders=true)(hs:Nm n l₀=true)(hk:b.kind ≠ .early)
  (h:El C b l₀.toArray (fun e ds Y Z=>Q .normal e ds Y Z) pz (leO Y A) l₀.length (List.replicate l₀.length false).toArray e ds Y Z):WpP C V b n (.region id l₀.toArray true) Q e ds Y Z :=
 Vk pz (leO Y A) hm (Ih hs) hk (by simpa using h)
theorem Aiy{C:Ctx}{b:FB}{l₀:List Oper}{Q:Env->List Deferred->Ro->Own->Prop}{e:Env}{ds:List Deferred}{Y Y9:Ro}{Z A:Own}{pz:List Nat}{fuel:Nat}
  {i:Nat} {op:Op} {ty:TypeId} {pos:String} {af:Array Edge} {g:Option (Nat×Bool)} {li:List Bool}
  (li':List Bool) (hli:li.set i true=li') (hr:Dl l₀ li=[i]) (hi:l₀[i]?=some ⟨none,op,ty,pos,af,g⟩) (hw:Bz l₀.toArray ⟨none,op,ty,pos,af,g⟩ e=true)
  (h:wpS C.P Y (execOp (Af e) ⟨none,op,ty,pos,af,g⟩) Z (NextH C (fun _ ds' Y' Z'=>leO Y9 A Y' Z'/\El C b l₀.toArray Q pz (leO Y9 A) fuel li'.toArray e ds' Y' Z') b.round ds Y)) :
  El C b l₀.toArray Q pz (leO Y9 A) (fuel+1) li.toArray e ds Y Z:=by refine Mz ((Hh _ _).trans hr) (by simp) fun j hj=>?_;rw[Mk]at hj;subst hj;unfold OpH;simp only[Me,hi,Mo hli];rw[if_pos hw];exact Eu (fun nx Z' hn=>hn.mono fun v ds Y Z hh=>⟨fun _=>hh.1,hh.2⟩) _ _ h
theorem Bnx{l₀:List Oper}{id:Nat}{Q:Hu}(A:Own)(k:Nat)(pz:List Nat)(hm:C.P.follows .mixedOrders=true)(hs:Nm n l₀=true)(hk:b.kind = .normal)(hd:∃oL,l₀.drop k=[oL])(hg:Adh (l₀.take k)=true)(hc:Amp (l₀.take k) l₀=true)
  (h:∀K:Env->List Deferred->Ro->Own->Prop,(∀e ds Y Z,Ew C V b n l₀ (l₀.drop k) (fun e ds Y Z=>Q .normal e ds Y Z) e ds Y Z->K e ds Y Z)->El C b (l₀.take k).toArray K pz (leO Y A) (l₀.take k).length (List.replicate (l₀.take k).length false).toArray e ds Y Z):WpP C V b n (.region id l₀.toArray true) Q e ds Y Z:=by
 obtain⟨oL,hd⟩:=hd;have hl:l₀.take k++[oL]=l₀:=by rw[<-hd,Aig]
 have hs':=Ih hs;have hk':b.kind ≠ .early:=by rw[hk];simp
 have c:=h (fun e ds Y Z=>Up C V b n l₀.toArray [(l₀.take k).length] (fun e ds Y Z=>Q .normal e ds Y Z) e ds Y Z) fun e ds Y Z ho=>by
  have:=ho (l₀.take k) (Aig k l₀).symm hs' hk';rw[hd]at this;exact this
 have g:l₀.toArray.size=(l₀.take k).length+1:=by
  rw[Aik];have:=congrArg List.length hl;simp only[lZ3,Vy]at this;omega
 intro tm ks cs ht;refine .step (fun fr' cs' Z'=>∃t,fr'=Fr b tm ds (.inRegion l₀.toArray (Region.linearise .any l₀.toArray t)::ks)/\cs'=cs/\Z'=Z) (fun W a=>?_) ?_
 ·refine⟨_,cs,{W with drawn:=W.drawn+1},#[],Z,?_,?_,by simp,W.tape W.drawn (.order b.fn id),rfl,rfl,rfl⟩
  ·simp[Conc.G,stepG,stepG.exec,Fr,choose,Sem.run,Question.forced,Question.cut,Region.schedule,hm]
  ·have:=Trans.refl a;exact⟨⟨a.ro,a.own,a.nd,a.dj⟩,this.size,this.keys,this.kept,this.fresh,this.frame,this.ends,this.chans,this.chansKept,this.crowds,this.crowdsKept,rfl,rfl,rfl⟩
 ·rintro _ _ j ⟨t,rfl,hcs,hZ⟩;replace hZ:=hZ.symm;replace hcs:=hcs.symm;subst hZ hcs;have key:=Aap (C:=C) (b:=b) (n:=n) (l':=l₀.take k) (oL:=oL) (Q:=fun e ds Y Z=>Q .normal e ds Y Z) (pz:=pz) (S:=leO Y A) (by rw[hl];exact hs') hk' hg (by rw[hl];exact hc) (fun e ds Y Z h=>by rw[hl];exact h) (l₀.take k).length t (List.replicate (l₀.take k).length false) e ds Y Z (by simp) (by
   unfold Mh;rw[Rd];intro i hi;have:(List.replicate (l₀.take k).length false).getD i false=false:=by
    rw[Wx,Bly];split<;>rfl
   rw[this];rfl) c
  rw[hl]at key;have d:Region.linearise .any l₀.toArray t=Region.linearise.go .any l₀.toArray ((l₀.take k).length+1) t (List.replicate (l₀.take k).length false++[false]).toArray []:=by
   unfold Region.linearise;rw[g];congr 1;rw[<-List.replicate_succ',List.toArray_replicate]
  rw[d];refine(key tm ks cs ht).mono ?_;rintro _ _ Y' Z' (⟨rfl,tm',e',ds',f,c,rfl⟩|hp)
  ·exact .inl ⟨rfl,.normal,tm',e',ds',ks,f,c,rfl,rfl⟩
  ·exact .inr hp
end
end
section
variable{mn:Bool}{X:Frame->List Frame->Ro->Own->Cy->Prop}{Y:Ro}{Z:Own}
theorem Bwe{q2 q3 q4 q5:Nat}{va vb vc vd:Value} :DefersP (CX mn X) 64 #[pV q2,pV q3,pV q4,pV q5] Y ((q2,oC #[va] 9)::((q3,oC #[vb] 22)::((q4,oC #[vc] 3)::((q5,oC #[vd] 30)::Z)))) (fun Y' Z'=>Y'=Y/\Z'=(q2,oC #[va] 9)::(q3,oC #[vb] 22)::(q4,oC #[vc] 3)::(q5,oC #[vd] 30)::Z):=by refine Bgx (n:=17) (args:=[pV q2,pV q3,pV q4,pV q5]) Cev rfl rfl rfl rfl rfl fun Q hq=>?_;refine Ao (Ai fun c a=>Ge rfl (fun h=>by cases h) (l_v (Aro (w:=.nilIface) (b:=true) Tryz.underlying20 (.inl ⟨rfl,rfl⟩) rfl) (l_k a (Co rfl rfl (Ge rfl (fun h=>by cases h) (Au .nilIface (Ac ?_)))))));refine hq _ _ _ _ (fun _ h=>by cases h) ⟨rfl,rfl⟩
theorem Bwf{q2 q3 q4 q5:Nat}{va vb vc vd:Value}{ln f:Int} :RecovP (CX mn X) 64 #[pV q2,pV q3,pV q4,pV q5] (Xe ln f) Y ((q2,oC #[va] 9)::((q3,oC #[vb] 22)::((q4,oC #[vc] 3)::((q5,oC #[vd] 30)::Z)))) (fun Y' Z'=>Y'=Y/\Z'=(q2,oC #[.string ⟨#[]⟩] 9)::(q3,oC #[nS] 22)::(q4,oC #[.int .i64 ln] 3)::(q5,oC #[.int .i64 f] 30)::Z):=by refine Bpg (n:=17) (args:=[pV q2,pV q3,pV q4,pV q5]) Cev rfl rfl rfl rfl rfl fun Q hq=>?_;refine Ao (Ai fun g a=>Ge rfl (fun h=>by cases h) (l_v (Aro (w:=Xe ln f) (b:=false) Tryz.underlying20 (.inr ⟨_,_,rfl,rfl⟩) rfl) (l_k a (Cg rfl rfl (Ai fun k c=>Ge rfl (fun h=>by cases h) (l_v (Bjk Cds rfl rfl) (l_v (Bk (vs:=#[.agg #[.int .i64 ln,.int .i64 f],bT]) rfl (v:=bT) rfl) (l_v (Bk (vs:=#[.agg #[.int .i64 ln,.int .i64 f],bT]) rfl (v:=.agg #[.int .i64 ln,.int .i64 f]) rfl) (l_k c (Co rfl rfl (Ai fun m d=>Ge rfl (fun h=>by cases h) (Arv (Ct Bqk fun e=>?_)))))))))))));refine Cx rfl (Li (i:=0) (vs:=[iV ln,iV f]) (c':=[iV ln,iV f]) ⟨_,Ab Tryz.typeInfo140,rfl⟩ rfl rfl rfl rfl (Zh ⟨rfl,rfl,trivial⟩) rfl nL rfl ?_);refine l_k d (Aab (Bnw ((e,oC #[iV ln,iV f] 140)::[]) [0,1,2,3] (by kernel_rfl) rfl (fun h=>by cases h) (Dr 0 (zT 1 7) rfl ⟨Cfb,sB⟩ rfl (Yld.o (Cb Cds rfl rfl ty3.2 (by decide) rfl rfl)) (Dr 1 (zT 2 6) rfl ⟨Cfb,sB⟩ rfl (Fj (v:=iV ln) ty3.1 rfl mC rfl) (Dr 2 (zT 3 5) rfl ⟨Cfb,sB⟩ rfl (Yld.o (Cb Cds rfl rfl ⟨_,Ab Cdr,rfl⟩ (by decide) rfl rfl)) (Dr 3 (zT 4 4) rfl ⟨Cfb,sB⟩ rfl (Fj (v:=iV f) ⟨_,Tryz.underlying30,rfl⟩ rfl mC rfl) (Aiy (i:=4) (zT 5 3) rfl (by kernel_rfl) rfl rfl (Cz (j:=1) (v:=.string (ByteArray.mk #[])) ty9.2 rfl rfl rfl rfl nL ⟨⟨Cfb,sB⟩,?_⟩))))))));refine Aiy (i:=5) (zT 6 2) rfl (by kernel_rfl) rfl rfl (Cz (j:=2) (v:=nS) Hw.2 rfl rfl rfl rfl nL ⟨⟨Cfb,sB⟩,?_⟩);refine Aiy (i:=6) (zT 7 1) rfl (by kernel_rfl) rfl rfl (Cz (j:=3) (v:=iV ln) ty3.2 rfl rfl rfl rfl nL ⟨⟨Cfb,sB⟩,?_⟩);refine Ys 7 (zT 8 0) rfl rfl (Cz (j:=4) (v:=iV f) ⟨_,Ab Cdr,rfl⟩ rfl rfl rfl rfl nL ?_);refine Se rfl ?_;show Vl _ .normal _ _ _ _;refine Yn Ghost.drop (Adc (hq _ _ _ _ (fun _ h=>by cases h) ⟨rfl,rfl⟩))
end
section
def Agt(n:Nat)(kd:List UInt8)(my:Int)(xs:List ByteArray):List (List UInt8)->(Int×Int) ⊕ (Nat×List UInt8×Int×List ByteArray)
 | []=>.inr (n,kd,my,xs)
 | l::ls=>if rdF n l=0 then Agt (n+1) (rdS n kd my xs l).1 (rdS n kd my xs l).2.1 (rdS n kd my xs l).2.2 ls else .inl (((n+1:Nat):Int),rdF n l)
def Qw(s:List UInt8):List UInt8×List ByteArray×Int×Int :=
 if 60000<s.length then ([],[],0,2)
 else match Agt 0 [] 0 [] (Fk [] s) with
  | .inl (ln,f)=>([],[],ln,f)
  | .inr (n,kd,my,xs)=>if n=0 then ([],[],0,3) else if (xs.length:Int)≠my then ([],[],0,2) else (kd,xs,0,0)
def Ajf(p:List (List UInt8))(n:Nat)(kd:List UInt8)(my:Int)(xs:List ByteArray):Prop:=(∀q,Agt 0 [] 0 [] (p++q)=Agt n kd my xs q)/\n=p.length/\xs.length<=n/\I64 my
theorem Bpd:Ajf [] 0 [] 0 []:=⟨fun _=>rfl,rfl,Nat.le.refl,by unfold I64;omega⟩
section
variable{p q:List (List UInt8)}{n:Nat}{kd kd' l s:List UInt8}{my my':Int}{xs xs':List ByteArray}
theorem Buc(hf:rdF n l=0):Agt n kd my xs (l::q)=Agt (n+1) (rdS n kd my xs l).1 (rdS n kd my xs l).2.1 (rdS n kd my xs l).2.2 q:=by rw[Agt,if_pos hf]
theorem Bpe(hf:rdF n l≠0):Agt n kd my xs (l::q) = .inl (((n+1:Nat):Int),rdF n l):=by rw[Agt,if_neg hf]
theorem Bip(h:Ajf p n kd my xs)(hf:rdF n l=0)(hs:rdS n kd my xs l=(kd',my',xs')):Ajf (p++[l]) (n+1) kd' my' xs':=by
 obtain⟨a,b,d,c⟩:=h;refine⟨fun q=>?_,by simp[b],?_,?_⟩
 ·rw[Gv,Bmf,a];rw[Buc hf,hs]
 ·unfold rdS at hs;split at hs
  ·simp only[Prod.mk.injEq]at hs;rw[<-hs.2.2];omega
  ·simp only[Prod.mk.injEq]at hs;rw[<-hs.2.2,lZ3];simp;omega
 ·unfold rdS at hs;split at hs
  ·simp only[Prod.mk.injEq]at hs;rw[<-hs.2.1];exact Awd
  ·simp only[Prod.mk.injEq]at hs;rw[<-hs.2.1];exact c
theorem Bpc(h:Ajf p n kd my xs)(hL:Fk [] s=p++l::q)(hf:rdF n l≠0):Agt 0 [] 0 [] (Fk [] s) = .inl (((n+1:Nat):Int),rdF n l):=by rw[hL,h.1,Bpe hf]
theorem Wy:∀{s acc:List UInt8},(Fk acc s).length<=acc.length+s.length
 | [],acc=>by
  unfold Fk;split
  ·simp
  ·rename_i h;have:0<acc.length:=Bdr.2 h;simp;omega
 | x::r,acc=>by
  unfold Fk;split
  ·have:=Wy (s:=r) (acc:=[]);simp at this ⊢;omega
  ·have:=Wy (s:=r) (acc:=acc++[x]);simp at this ⊢;omega
theorem Bye(h:Ajf p n kd my xs)(hL:Fk [] s=p++l::q)(hs:s.length<=60000):n<=59999:=by have a:=Wy (s:=s) (acc:=[]);rw[hL]at a;have:=h.2.1;simp at a;omega
theorem Anb(h:Ajf (Fk [] s) n kd my xs):Agt 0 [] 0 [] (Fk [] s) = .inr (n,kd,my,xs):=by have:=h.1 [];rw[Tb]at this;rw[this];rfl
theorem Byi(h:60000<s.length):Qw s=([],[],0,2):=by unfold Qw;rw[if_pos h]
theorem Byj{ln f:Int}(hs:s.length<=60000)(h:Agt 0 [] 0 [] (Fk [] s) = .inl (ln,f)):Qw s=([],[],ln,f):=by unfold Qw;rw[if_neg (by omega),h]
theorem Byk(hs:s.length<=60000)(h:Ajf (Fk [] s) n kd my xs)(hn:n=0):Qw s=([],[],0,3):=by unfold Qw;rw[if_neg (by omega),Anb h];simp only[];rw[if_pos hn]
theorem Byl(hs:s.length<=60000)(h:Ajf (Fk [] s) n kd my xs)(hn:n≠0)(hx:(xs.length:Int)≠my):Qw s=([],[],0,2):=by unfold Qw;rw[if_neg (by omega),Anb h];simp only[];rw[if_neg hn,if_pos hx]
theorem Bym(hs:s.length<=60000)(h:Ajf (Fk [] s) n kd my xs)(hn:n≠0)(hx:(xs.length:Int)=my):Qw s=(kd,xs,0,0):=by unfold Qw;rw[if_neg (by omega),Anb h];simp only[];rw[if_neg hn,if_neg (by simp[hx])]
end
theorem DefersP.ghost{C:Ctx}{g:FuncId}{args:Array Value}{Y Y':Ro}{Z Z':Own}{R:Ro->Own->Prop}(hg:Ghost Y Z Y' Z')(h:DefersP C g args Y' Z' R):DefersP C g args Y Z R:=fun c cs hm=>.ghost hg (h c cs hm)
theorem RecovP.ghost{C:Ctx}{g:FuncId}{args:Array Value}{x:Value}{Y Y':Ro}{Z Z':Own}{R:Ro->Own->Prop}(hg:Ghost Y Z Y' Z')(h:RecovP C g args x Y' Z' R):RecovP C g args x Y Z R:=fun c cs hm=>.ghost hg (h c cs hm)
theorem DefersP.mono{C:Ctx}{g:FuncId}{args:Array Value}{Y:Ro}{Z:Own}{R R':Ro->Own->Prop}(h:DefersP C g args Y Z R)(hr:∀Y Z,R Y Z->R' Y Z):DefersP C g args Y Z R':=fun c cs hm=>(h c cs hm).mono fun _ _ _ _ ⟨a,b,d⟩=>⟨a,b,hr _ _ d⟩
theorem RecovP.mono{C:Ctx}{g:FuncId}{args:Array Value}{x:Value}{Y:Ro}{Z:Own}{R R':Ro->Own->Prop}(h:RecovP C g args x Y Z R)(hr:∀Y Z,R Y Z->R' Y Z):RecovP C g args x Y Z R':=fun c cs hm=>(h c cs hm).mono fun _ _ _ _ ⟨a,b,d⟩=>⟨a,b,hr _ _ d⟩
abbrev pt0(k:Nat):Value:=.pointer (some ⟨k,0,none⟩)
abbrev Bud(k2 k3 k4 k5:Nat)(a b c d:Value)(τ:Own):Own:=(k2,Res.obj (.cells #[a] 9 (0,0)))::(k3,Res.obj (.cells #[b] 22 (0,0)))::(k4,Res.obj (.cells #[c] 3 (0,0)))::(k5,Res.obj (.cells #[d] 30 (0,0)))::τ
abbrev Bfg(k2 k3 k4 k5:Nat):Deferred:={target:=.fn (.func 64) [pt0 k2,pt0 k3,pt0 k4,pt0 k5].toArray,args:=#[]}
def Xx(s:List UInt8)(Y9:Ro)(Z9:Own)(w:Value)(Y':Ro)(Z':Own):Prop:=Ro.le Y9 Y'/\∃v gr,Z'=gr++Z9/\Grow Y' 9 v (Qw s).2.1 gr/\w = .tuple #[.string (bs (Qw s).1),v,.int .i64 (Qw s).2.2.1,.int .i64 (Qw s).2.2.2]/\((Qw s).2.2.2≠0->v = .slice none 0 0/\gr=[])
section
variable{mn:Bool}{X:Frame->List Frame->Ro->Own->Cy->Prop}{fn:Func}{R:Value->Ro->Own->Prop}{e:Env}{k2 k3 k4 k5 r:Nat}{a b c d:Value}{Y:Ro}{τ:Own}
theorem Agu(hr:fn.results=[ResultVar.cell 2 9,ResultVar.cell 3 22,ResultVar.cell 4 3,ResultVar.cell 5 30].toArray)(h2:e 2=pt0 k2)(h3:e 3=pt0 k3)(h4:e 4=pt0 k4)(h5:e 5=pt0 k5)(h:∃Y' Z',Ghost Y τ Y' Z'/\R (.tuple #[a,b,c,d]) Y' Z') :
  Aic (CX mn X) fn (fun v Y Z=>∃Y' Z',Ghost Y Z Y' Z'/\R v Y' Z') e [] Y (Bud k2 k3 k4 k5 a b c d τ):=by obtain⟨Y',Z',hg,hR⟩:=h;refine Vf (vs:=[a,b,c,d]) hr ⟨Rj (i:=0) (c:=[a]) ⟨_,Ccs,rfl⟩ h2 rfl rfl,Rj (i:=1) (c:=[b]) ⟨_,Ccv,rfl⟩ h3 rfl rfl,Rj (i:=2) (c:=[c]) ⟨_,Cdd,rfl⟩ h4 rfl rfl,Rj (i:=3) (c:=[d]) ⟨_,Tryz.underlying30,rfl⟩ h5 rfl rfl,trivial⟩ ?_;exact⟨Y',Z',.trans .drop (.trans .drop (.trans .drop (.trans .drop hg))),hR⟩
theorem Aym(hr:fn.results=[ResultVar.cell 2 9,ResultVar.cell 3 22,ResultVar.cell 4 3,ResultVar.cell 5 30].toArray)(h2:e 2=pt0 k2)(h3:e 3=pt0 k3)(h4:e 4=pt0 k4)(h5:e 5=pt0 k5)(h:∃Y' Z',Ghost Y τ Y' Z'/\R (.tuple #[a,b,c,d]) Y' Z') :
  Aic (CX mn X) fn (fun v Y Z=>∃Y' Z',Ghost Y Z Y' Z'/\R v Y' Z') e [{target:=.collected r,args:=#[]},Bfg k2 k3 k4 k5] Y ((r,.obj (.deferred (some [])))::Bud k2 k3 k4 k5 a b c d τ):=by refine .inl ⟨r,0,rfl,rfl,.inr ⟨_,_,_,rfl,Cev,rfl,rfl,?_⟩⟩;rw[show (Bfg k2 k3 k4 k5).args++[pt0 k2,pt0 k3,pt0 k4,pt0 k5].toArray = #[pt0 k2,pt0 k3,pt0 k4,pt0 k5] from by simp];refine DefersP.ghost .drop (DefersP.mono Bwe ?_);rintro _ _ ⟨rfl,rfl⟩;exact Agu hr h2 h3 h4 h5 h
theorem Ayl{x:Value}{ln f:Int}(hx:x=Xe ln f)(hr:fn.results=[ResultVar.cell 2 9,ResultVar.cell 3 22,ResultVar.cell 4 3,ResultVar.cell 5 30].toArray)(h2:e 2=pt0 k2)(h3:e 3=pt0 k3)(h4:e 4=pt0 k4)(h5:e 5=pt0 k5)(h:∃Y' Z',Ghost Y τ Y' Z'/\R (.tuple #[.string ⟨#[]⟩,.slice none 0 0,.int .i64 ln,.int .i64 f]) Y' Z') :
  Bfy (CX mn X) fn (fun v Y Z=>∃Y' Z',Ghost Y Z Y' Z'/\R v Y' Z') e x [{target:=.collected r,args:=#[]},Bfg k2 k3 k4 k5] Y ((r,.obj (.deferred (some [])))::Bud k2 k3 k4 k5 a b c d τ):=by subst hx;refine .inl ⟨r,0,rfl,rfl,.inr ⟨_,_,_,rfl,Cev,rfl,rfl,?_⟩⟩;rw[show (Bfg k2 k3 k4 k5).args++[pt0 k2,pt0 k3,pt0 k4,pt0 k5].toArray = #[pt0 k2,pt0 k3,pt0 k4,pt0 k5] from by simp];refine RecovP.ghost .drop (RecovP.mono Bwf ?_);rintro _ _ ⟨rfl,rfl⟩;exact Agu hr h2 h3 h4 h5 h
end
end
section
abbrev Bzi:List Value:=[.map none,.map none]
theorem Bsl(l:List ByteArray):Bnd (Ix (Ic l) (List.take 0 ([]:List LLot))) (-1) 1000000000:=by
 have key:∀(l:List ByteArray) (f:Iz),Bnd f (-1) 1000000000->Bnd (l.foldl (fun f s=>Qp f s (-1)) f) (-1) 1000000000:=by
  intro l;induction l with
  | nil=>intro f h;exact h
  | cons s l ih=>intro f h;exact ih _ (Zf h ⟨by decide,by decide⟩ _)
 exact key l Ams Avb
theorem Bzn:Fw Tryz.prog 110 (.agg #[.map none,.map none]):=⟨_,Ab Tryz.typeInfo110,rfl⟩
variable{mn:Bool}{X:Frame->List Frame->Ro->Own->Cy->Prop}{Y:Ro}{Z:Own}
theorem Bwc{r ra rb ca cb:Nat}{Ea Eb:Array MapEntry}{m t:Iz}{s:ByteArray}{z:Int}(hm:Xp Ea m)(ht:Xp Eb t)(hs:s.size<2^60):CallsH (CX mn X) 43 #[pV r,.string s,iV z] Y ((r,oC #[.map (some ra),.map (some rb)] 110)::((ra,Res.obj (Obj.map Ea ca))::((rb,Res.obj (Obj.map Eb cb))::Z))) (fun w Y' Z'=>Y'=Y/\∃(es':Array MapEntry) (ck':Nat) (m':Iz),Z'=(r,oC #[.map (some ra),.map (some rb)] 110)::(ra,Res.obj (.map es' ck'))::(rb,Res.obj (.map Eb cb))::Z/\Xp es' m'/\w=iV (Sc m s)/\(Sc m s=0->m'=Qp m s z)):=by
 refine Bq 28 [6] Tryz.func43 rfl fun Q d O=>qA fun C g=>Au (iV 0) (qE g fun H I q u=>Av (.string s) (Arv (Cj (Acy (by first|omega|(rw[Nj];omega))) Ceh ?_)));refine l_v (Iy rfl) (l_k u (Bp (t:=!(Hg s)) rfl (fun b=>?_) (fun b=>?_)))
 ·have e:=not_eq_t b;refine qA fun J x=>Au (iV 4) (l_k x (Aq (d ⟨rfl,Ea,ca,m,rfl,hm,(by rw[Atw e];exact rfl),fun h=>absurd ((Atw e).symm.trans h) (by decide)⟩)))
 have c:=Fp b;refine Al (kk q ?_);refine qD fun K L y B=>Av (pV r) (l_v (Ck rfl) (l_v (Hn Cdk rfl (Ab Cdj)) (Arv (Dt (i:=0) (v:=.map (some ra)) ⟨_,Cdb,rfl⟩ rfl rfl rfl ?_))));refine Av (.string s) (Bxc ⟨Cfb,fun _ h=>h⟩ rfl (Aes (ok:=true) Cdb Ccs zr3 hm rfl rfl (lZ0 _ mC)) (Av (.tuple #[iV ((m s).getD 0),.bool ((m s).isSome)]) (l_v (Cr (iV ((m s).getD 0))) (l_v (Cr (.bool ((m s).isSome))) (Au (iV ((m s).getD 0)) (Au (.bool ((m s).isSome)) (Arx rfl rfl B fun D j=>Av (.bool ((m s).isSome)) (l_k j (Bp (t:=(m s).isSome) rfl (fun a=>?_) (fun a=>?_))))))))))
 ·refine qA fun E k=>Au (iV 5) (l_k k (Aq (d ⟨rfl,Ea,ca,m,rfl,hm,(by rw[Atx c a];exact rfl),fun h=>absurd ((Atx c a).symm.trans h) (by decide)⟩)))
 refine Al (kk y ?_);refine qA fun F n=>Av (pV r) (l_v (Ck rfl) (l_v (Hn Cdk rfl (Ab Cdj)) (Arv (Dt (i:=0) (v:=.map (some ra)) ⟨_,Cdb,rfl⟩ rfl rfl rfl ?_))));refine Av (.string s) (Av (iV z) (Cx rfl (Auk (i:=1) (z:=z) Cdb Ccs hm rfl rfl rfl rfl fun N M f=>?_)));refine qC n fun G p=>Au (iV 0) (l_k p (Aq (d ⟨rfl,_,_,_,rfl,f,(by rw[Ber c a];exact rfl),fun _=>rfl⟩)))
theorem Brn{r ra rb ca cb:Nat}{Ea Eb:Array MapEntry}{m t:Iz}{l:LLot}{vl:Value}(hm:Xp Ea m)(ht:Xp Eb t)(rl:Val Y vl l)(hM:Bnd m (-1) 1000000000)(hT:Bnd t 0 1000000000)(hn:l.parts.length<=6):CallsH (CX mn X) 46 #[pV r,vl] Y ((r,oC #[.map (some ra),.map (some rb)] 110)::((ra,Res.obj (Obj.map Ea ca))::((rb,Res.obj (Obj.map Eb cb))::Z))) (fun w Y' Z'=>Ro.le Y Y'/\∃(es':Array MapEntry) (ck':Nat) (t':Iz),Z'=(r,oC #[.map (some ra),.map (some rb)] 110)::(ra,Res.obj (.map Ea ca))::(rb,Res.obj (.map es' ck'))::Z/\Xp es' t'/\w=iV (Hv m t l)/\(Hv m t l=0->t'=tkP t l.parts/\∀p∈l.parts,1<=p.grams/\p.grams<=100000)):=by
 refine Bq 68 [4] Tryz.func46 rfl fun Q E c2=>qA fun K1 k1=>Arv (Jl (v:=vl) rfl fun k2=>?_);refine Bb (a:=l) rl fun b4 F r2=>Au (iV 0) (qC k1 fun K3 k3=>Arv (Oh fun g=>?_));refine Au (.map (some g)) (qE k3 fun K5 K6 k5 k6=>Arw (Ba LLot.f_parts Ccy rfl Gb r2) fun v7 r7=>Arw (Ax Gb rfl r7) fun v8 r8=>?_);have g9:=Val.len r8;refine l_v (Ci (el:=127) Ccz rfl r8) (Av (iV 0) (l_k k6 (Ao (Cc (fun mm ee dd Y' Z'=>∃(i:Nat) (G:Array MapEntry) (O:Nat) (K:Array MapEntry) (V:Nat),(l.parts.length-i)=mm/\[]=dd/\b4=Y'/\((g,Res.obj (Obj.map K V))::((r,oC #[.map (some ra),.map (some rb)] 110)::((ra,Res.obj (Obj.map Ea ca))::((rb,Res.obj (Obj.map G O))::Z))))=Z'/\ee 0=pV r/\ee 12=v8/\ee 13=(iV (l.parts.length:Int))/\ee 5=(.map (some g))/\ee 14=iV i/\(i<=l.parts.length)/\(∀j,j<i->Agq m t l.parts j=0)/\(Bnd (tkP t (l.parts.take i)) 0 (1000000000+100000*(i:Int)))/\(∀p∈l.parts.take i,1<=p.grams/\p.grams<=100000)/\(Xp G (tkP t (l.parts.take i)))/\Mu K (Ib (l.parts.take i))/\True) (m:=_) ⟨0,Eb,cb,#[],0,rfl,rfl,rfl,rfl,rfl,rfl,rfl,rfl,rfl,Hr _,fun j h=>absurd h (Td _),hT.mono (by omega) (by omega),fun p h=>by simp at h,Amr (rfl) ht,Rl (fun k=>by simp[Ib]) Uh,trivial⟩ ?_))));rintro c4 bm _ _ _ ⟨i,G,O,K,V,rfl,rfl,rfl,rfl,D,ZQ,a0,N,M,c5,u,a1,a2,B,a3,_⟩;have ay:=a1;refine qA fun b5 ah=>l_v (Da M a0) (Asa ah fun b6 ai=>Bp (t:=decide ((i:Int)<(l.parts.length:Int))) rfl (fun P=>?_) (fun P=>?_))
 ·have az:=lZ1 P;refine Al (kk ai ?_);refine Ai fun b7 a6=>Ao (qA fun b8 aj=>?_);obtain⟨b,e⟩:=Ed (xs:=l.parts) (i:=i) (by omega);refine Arw (Ch i Ccz Im ZQ r8 (q:=(i:Int)) M rfl e) fun c8 b2=>Arw (Ax Im rfl b2) fun b3 a8=>Arv (Ct Aod fun c3=>?_);refine Cx rfl (Dv (v:=b3) (a:=b) (c:=Aoc) Im rfl rfl a8 rfl ?_);refine Bb (a:=b) a8 fun ci y x=>Asa aj fun b9 ak=>Og ((g,Res.obj (Obj.map K V))::((r,oC #[.map (some ra),.map (some rb)] 110)::((ra,Res.obj (Obj.map Ea ca))::((rb,Res.obj (Obj.map G O))::[])))) [0,1,2,3,4,5,6,7,8,9,10,11] (by kernel_rfl) rfl rfl (Dr 0 (zT 1 11) rfl ⟨Cfb,sB⟩ rfl (Yld.o (Ah (v:=pV r) D)) (Dr 1 (zT 2 10) rfl ⟨Cfb,sB⟩ rfl (Yld.o (Ck rfl)) (Dr 2 (zT 3 9) rfl ⟨Cfb,sB⟩ rfl (Yld.o (Hn Cdk rfl (Ab Cdj))) (Dr 3 (zT 4 8) rfl ⟨Cfb,sB⟩ rfl (Fj (v:=.map (some ra)) ⟨_,Cdb,rfl⟩ rfl (lZ0 _ mC) rfl) (Amt 4 (zT 5 7) rfl ⟨Cfb,sB⟩ rfl (Aob (Ba LPart.f_of_ Ccx rfl ty9 x)) ⟨Cfb,sB⟩ fun c9 a9=>?_)))));have bn:=At.slen a9;refine Dd 5 (zT 6 6) rfl ⟨Cfb,sB⟩ rfl (Yld.o (Pk ty9 rfl a9)) ⟨Cfb,sB⟩ ?_;have bz:=Air hM ⟨by decide,by decide⟩ b.of_;refine Dd 6 (zT 7 5) rfl ⟨Cfb,sB⟩ rfl (Aes (ok:=true) Cdb Ccs zr3 hm rfl rfl (lZ0 _ (lZ0 _ mC))) ⟨Cfb,sB⟩ (Dd 7 (zT 8 4) rfl ⟨Cfb,sB⟩ rfl (Yld.o (Ah (v:=.tuple #[iV ((m b.of_).getD 0),.bool ((m b.of_).isSome)]) rfl)) ⟨Cfb,sB⟩ (Dr 8 (zT 9 3) rfl ⟨Cfb,sB⟩ rfl (Yld.o (Cr (iV ((m b.of_).getD 0)))) (Dr 9 (zT 10 2) rfl ⟨Cfb,sB⟩ rfl (Yld.o (Cr (.bool ((m b.of_).isSome)))) (Dd 10 (zT 11 1) rfl ⟨Cfb,sB⟩ rfl (Yld.o (Cp (v:=iV ((m b.of_).getD 0)) rfl)) ⟨Cfb,sB⟩ (Dd 11 (zT 12 0) rfl ⟨Cfb,sB⟩ rfl (Yld.o (Cp (v:=.bool ((m b.of_).isSome)) rfl)) ⟨Cfb,sB⟩ (Se rfl (kk ak ?_)))))));refine Ai fun ba al=>Ao (qA fun bb am=>Av (.bool ((m b.of_).isSome)) (l_v (Iy rfl) (Au (.bool (!((m b.of_).isSome))) (l_k am (Bp (t:=!((m b.of_).isSome)) rfl (fun R=>?_) (fun R=>?_))))))
  ·have ag:=not_eq_t R;refine qA fun bc an=>Au (iV 6) (l_k an (Aj Ghost.drop (Aq (E ?_))));have hF:Hv m t l=6:=by rw[Hv,Db u (by omega) (Ia e (Ben ag)) (by decide)]
   exact⟨(Cfc F y),_,_,_,rfl,B,(by rw[hF];exact rfl),fun h=>absurd (hF.symm.trans h) (by decide)⟩
  have C:=Fp R;refine qA fun bd ao=>l_v (Ah (v:=.map (some g)) N) (Arw (Ba LPart.f_of_ Ccx rfl ty9 x) fun cc aa=>?_);have bo:=At.slen aa;refine l_v (Pk ty9 rfl aa) (Arv (Xq (i:=0) (kt:=9) (et:=4) (k:=b.of_) (pr:=Ib (l.parts.take i)) Tryz.underlying199 Ccs zr4 a3 rfl rfl rfl ?_));refine Au (.bool ((Ib (l.parts.take i)) b.of_)) (l_k ao (Bp (t:=(Ib (l.parts.take i)) b.of_) rfl (fun n=>?_) (fun n=>?_)))
  ·refine qA fun be ap=>Au (iV 5) (l_k ap (Aj Ghost.drop (Aq (E ?_))));have hF:Hv m t l=5:=by rw[Hv,Db u (by omega) (Ia e (Atv C n)) (by decide)]
   exact⟨(Cfc F y),_,_,_,rfl,B,(by rw[hF];exact rfl),fun h=>absurd (hF.symm.trans h) (by decide)⟩
  refine qA fun bf aq=>Arw (Ba LPart.f_grams Ccx rfl ty3 x) fun cd ab=>?_;have⟨bp,bq⟩:=At.rng ab;refine l_v (Bc ty3 rfl ab) (Arv (Cj Qx Cdy ?_));refine l_v (Iy rfl) (Au (.bool (!(inR b.grams 1 100000))) (l_k aq (Bp (t:=!(inR b.grams 1 100000)) rfl (fun T=>?_) (fun T=>?_))))
  ·have a5:=not_eq_t T;have c6:=Xo.1 a5;refine qA fun bg ar=>Au (iV 1) (l_k ar (Aj Ghost.drop (Aq (E ?_))));have hF:Hv m t l=1:=by rw[Hv,Db u (by omega) (Ia e (Atu C n a5)) (by decide)]
   exact⟨(Cfc F y),_,_,_,rfl,B,(by rw[hF];exact rfl),fun h=>absurd (hF.symm.trans h) (by decide)⟩
  have I:=Fp T;have c7:=Fz.1 I;refine Al (kk al ?_);refine qA fun bh au=>l_v (Ah (v:=.map (some g)) N) (Arw (Ba LPart.f_of_ Ccx rfl ty9 x) fun ce ac=>?_);have br:=At.slen ac;refine l_v (Pk ty9 rfl ac) (Cx rfl (Afq (i:=0) (kt:=9) (et:=4) (k:=b.of_) (pr:=Ib (l.parts.take i)) Tryz.underlying199 Ccs a3 n rfl rfl rfl rfl fun L J a4=>?_));refine Asa au fun bi av=>Og ((g,Res.obj (Obj.map L J))::((r,oC #[.map (some ra),.map (some rb)] 110)::((ra,Res.obj (Obj.map Ea ca))::((rb,Res.obj (Obj.map G O))::[])))) [0,1,2,3,4,5,6,7,8,9] (by kernel_rfl) rfl rfl (Dr 0 (zT 1 10) rfl ⟨Cfb,sB⟩ rfl (Yld.o (Ah (v:=pV r) D)) (Dr 1 (zT 2 9) rfl ⟨Cfb,sB⟩ rfl (Yld.o (Ck rfl)) (Dr 2 (zT 3 8) rfl ⟨Cfb,sB⟩ rfl (Yld.o (Hn Cdk rfl (Ab Cdj))) (Dr 3 (zT 4 7) rfl ⟨Cfb,sB⟩ rfl (Fj (v:=.map (some rb)) ⟨_,Cdb,rfl⟩ rfl (lZ0 _ mC) rfl) (Bev 4 (zT 5 6) rfl ⟨Cfb,sB⟩ rfl (Aob (Ba LPart.f_of_ Ccx rfl ty9 x)) fun cf ad=>?_)))));have bt:=At.slen ad;refine Dr 5 (zT 6 5) rfl ⟨Cfb,sB⟩ rfl (Yld.o (Pk ty9 rfl ad)) ?_;have c0:=Air ay ⟨by omega,by omega⟩ b.of_;refine Dr 6 (zT 7 4) rfl ⟨Cfb,sB⟩ rfl (Aes (ok:=false) Cdb Ccs zr3 B rfl rfl (lZ0 _ (lZ0 _ (lZ0 _ mC)))) (Amt 7 (zT 8 3) rfl ⟨Cfb,sB⟩ rfl (Aob (Ba LPart.f_grams Ccx rfl ty3 x)) ⟨Cfb,sB⟩ fun cg ae=>?_);have⟨bu,bv⟩:=At.rng ae;refine Dd 8 (zT 9 2) rfl ⟨Cfb,sB⟩ rfl (Yld.o (Bc ty3 rfl ae)) ⟨Cfb,sB⟩ (Dd 9 (zT 10 1) rfl ⟨Cfb,sB⟩ rfl (Yld.o (Br rfl rfl (z:=(((tkP t (l.parts.take i)) b.of_).getD 0)+b.grams) (Bo (by rfl) (by omega) (by omega)))) ⟨Cfb,sB⟩ (Ys 10 (zT 11 0) rfl rfl (Auk (i:=3) (z:=(((tkP t (l.parts.take i)) b.of_).getD 0)+b.grams) Cdb Ccs B rfl rfl rfl rfl fun YQ W H=>?_)));refine Se rfl (kk av ?_);refine Ai fun bj a7=>Og ((g,Res.obj (Obj.map L J))::((r,oC #[.map (some ra),.map (some rb)] 110)::((ra,Res.obj (Obj.map Ea ca))::((rb,Res.obj (Obj.map YQ W))::[])))) [0,1,2,3,4,5,6,7,8,9,10,11,12] (by kernel_rfl) rfl rfl (Dd 0 (zT 1 12) rfl ⟨Cfb,sB⟩ rfl (Yld.o (Ah (v:=iV ((m b.of_).getD 0)) rfl)) ⟨Cfb,sB⟩ (Dd 1 (zT 2 11) rfl ⟨Cfb,sB⟩ rfl (Yld.o (Uy rfl rfl)) ⟨Cfb,sB⟩ (Dd 2 (zT 3 10) rfl ⟨Cfb,sB⟩ rfl (Yld.o (Ah (v:=.bool (decide (((m b.of_).getD 0)>=0))) rfl)) ⟨Cfb,sB⟩ (Beu (decide (((m b.of_).getD 0)>=0)) (fun d=>?_) (fun d=>?_)))))
  ·have b0:=lZ1 d;refine Dr 3 (zT 4 9) rfl ⟨Cfb,sB⟩ (qF d) (Yld.o (Ah (v:=pV r) D)) (Dr 4 (zT 5 8) rfl ⟨Cfb,sB⟩ (qF d) (Yld.o (Ck rfl)) (Dr 5 (zT 6 7) rfl ⟨Cfb,sB⟩ (qF d) (Yld.o (Hn Cdk rfl (Ab Cdj))) (Dr 6 (zT 7 6) rfl ⟨Cfb,sB⟩ (qF d) (Fj (v:=.map (some rb)) ⟨_,Cdb,rfl⟩ rfl (lZ0 _ mC) rfl) (Bev 7 (zT 8 5) rfl ⟨Cfb,sB⟩ (qF d) (Aob (Ba LPart.f_of_ Ccx rfl ty9 x)) fun ch af=>?_))));have bx:=At.slen af;refine Dr 8 (zT 9 4) rfl ⟨Cfb,sB⟩ (qF d) (Yld.o (Pk ty9 rfl af)) ?_;have c1:=Bio (f:=tkP t (l.parts.take i)) (k:=b.of_) (z:=((tkP t (l.parts.take i)) b.of_).getD 0+b.grams);refine Dr 9 (zT 10 3) rfl ⟨Cfb,sB⟩ (qF d) (Aes (ok:=false) Cdb Ccs zr3 H rfl rfl (lZ0 _ (lZ0 _ (lZ0 _ mC)))) (Dd 10 (zT 11 2) rfl ⟨Cfb,sB⟩ (qF d) (Yld.o (Ah (v:=iV ((m b.of_).getD 0)) rfl)) ⟨Cfb,sB⟩ (Dd 11 (zT 12 1) rfl ⟨Cfb,sB⟩ (qF d) (Yld.o (Gl rfl rfl)) ⟨Cfb,sB⟩ (Dd 12 (zT 13 0) rfl ⟨Cfb,sB⟩ rfl (Yld.o (Bt rfl d (v:=.bool (decide ((((Qp (tkP t (l.parts.take i)) b.of_ ((((tkP t (l.parts.take i)) b.of_).getD 0)+b.grams)) b.of_).getD 0)>((m b.of_).getD 0)))) rfl)) ⟨Cfb,sB⟩ (Se rfl (kk a7 ?_)))));refine Bp (t:=decide ((((Qp (tkP t (l.parts.take i)) b.of_ ((((tkP t (l.parts.take i)) b.of_).getD 0)+b.grams)) b.of_).getD 0)>((m b.of_).getD 0))) rfl (fun U=>?_) (fun U=>?_)
   ·have b1:=lZ1 U;refine qA fun bk aw=>Au (iV 8) (l_k aw (Aj Ghost.drop (Aq (E ?_))));have hF:Hv m t l=8:=by rw[Hv,Db u (by omega) (Ia e (Beo C n I (by omega) (by omega))) (by decide)]
    exact⟨(Cfc F y),_,_,_,rfl,H,(by rw[hF];exact rfl),fun h=>absurd (hF.symm.trans h) (by decide)⟩
   have b1:=lZ2 U;refine Al (kk a6 ?_);refine qB (l_v (Br M rfl (z:=(((i+1):Nat):Int)) wrE) (Av (iV ((i+1):Nat)) (Bj (Cez y) (Ac ?_))));refine⟨_,?_,(i+1),YQ,W,L,J,rfl,rfl,rfl,rfl,D,ZQ,a0,N,rfl,(by omega),(Eg u (Ia e (Aix C n I (by omega)))),(by rw[Ael e];exact Zf (a1.mono (by omega) (by omega)) ⟨by omega,by omega⟩ _),(Aln e a2 (by omega)),(Amr (by rw[Ael e]) H),(Rl (Acd e) a4),trivial⟩;omega
  have b0:=lZ2 d;refine Hs 3 (zT 4 9) rfl ⟨Cfb,sB⟩ (gN rfl d) (Hs 4 (zT 5 8) rfl ⟨Cfb,sB⟩ (gN rfl d) (Hs 5 (zT 6 7) rfl ⟨Cfb,sB⟩ (gN rfl d) (Hs 6 (zT 7 6) rfl ⟨Cfb,sB⟩ (gN rfl d) (Hs 7 (zT 8 5) rfl ⟨Cfb,sB⟩ (gN rfl d) (Hs 8 (zT 9 4) rfl ⟨Cfb,sB⟩ (gN rfl d) (Hs 10 [o1,o1,o1,o1,o1,o1,o1,o1,o1,o0,o1,o0,o0] rfl ⟨Cfb,sB⟩ (gN rfl d) (Hs 9 (zT 11 2) rfl ⟨Cfb,sB⟩ (gN rfl d) (Hs 11 (zT 12 1) rfl ⟨Cfb,sB⟩ (gN rfl d) (Dd 12 (zT 13 0) rfl ⟨Cfb,sB⟩ rfl (Yld.o (Bn rfl d (v:=bF) rfl)) ⟨Cfb,sB⟩ (Se rfl (kk a7 ?_)))))))))));refine Cg rfl rfl (Al (kk a6 ?_));refine qB (l_v (Br M rfl (z:=(((i+1):Nat):Int)) wrE) (Av (iV ((i+1):Nat)) (Bj (Cez y) (Ac ?_))));refine⟨_,?_,(i+1),YQ,W,L,J,rfl,rfl,rfl,rfl,D,ZQ,a0,N,rfl,(by omega),(Eg u (Ia e (Aix C n I (by omega)))),(by rw[Ael e];exact Zf (a1.mono (by omega) (by omega)) ⟨by omega,by omega⟩ _),(Aln e a2 (by omega)),(Amr (by rw[Ael e]) H),(Rl (Acd e) a4),trivial⟩;omega
 have az:=lZ2 P;refine Bx (kk k5 ?_);refine qA fun bl ax=>Au (iV 0) (l_k ax (Aj Ghost.drop (Aq (E ?_))));have hiL:i=l.parts.length:=by omega
 have hF:Hv m t l=0:=by rw[Hv,Fb fun j hj=>u j (by omega)]
 exact⟨F,_,_,_,rfl,B,(by rw[hF];exact rfl),fun _=>⟨by rw[hiL,Aav],fun p hp=>a2 p (by rw[hiL,Aav];exact hp)⟩⟩
theorem Ahe{b:LBook}{vb:Value}(rv:Val Y vb b):CallsH (CX mn X) 16 #[vb] Y Z (rP Y Z (iV (Hd b))):=by
 refine Bq 83 [2] Tryz.func16 rfl fun Q x eb=>qA fun K1 k1=>Arv (Jl (v:=vb) rfl fun k2=>?_);refine Bb (a:=b) rv fun az y U=>Au (iV 0) (qE k1 fun K3 K4 k3 k4=>Arw (Ba LBook.f_fields Cct rfl Hw U) fun v5 r5=>Arw (Ax Hw rfl r5) fun v6 r6=>?_);have g7:=Val.len r6;refine l_v (Ci (el:=9) Ccv rfl r6) (l_v (Gl rfl rfl) (l_k k4 (Bp (t:=decide ((b.fields.length:Int)>5)) rfl (fun b8=>?_) (fun b8=>?_))))
 ·have q8:=lZ1 b8;refine qA fun K9 k9=>Au (iV 2) (l_k k9 (Aj (Cez y) (Aq (x (rT (iV 2) ?_)))));rw[Bel (by omega)]
 have q8:=lZ2 b8;refine Al (kk k3 ?_);refine qA fun d2 bl=>Arv (Oh fun g=>?_);refine Arv (Oh fun n=>?_);refine l_v (Dn (ns:=[1,1]) (vs:=[(0,(.map (some g))),(1,(.map (some n)))]) (zc:=Bzi) (cs:=[.map (some g),.map (some n)]) Cdk Bzn rfl ⟨⟨_,Ab Cdj,rfl⟩,⟨_,Ab Cdj,rfl⟩,trivial⟩ (EvB.map ⟨⟨rfl,rfl⟩,⟨rfl,rfl⟩,trivial⟩) ((Be (cs:=[.map (some g)]) rfl rfl nL).trans ((Be (cs:=[.map (some n)]) rfl rfl nL).trans rfl))) (Arv (Jl (v:=.agg #[.map (some g),.map (some n)]) rfl fun k=>?_));refine Au (pV k) (qE bl fun d3 d4 bm bn=>Arw (Ba LBook.f_fields Cct rfl Hw U) fun en cq=>Arw (Ax Hw rfl cq) fun cx ad=>?_);have e2:=Val.len ad;refine l_v (Ci (el:=9) Ccv rfl ad) (Av (iV 0) (l_k bn (Ao (Cc (fun mm ee dd Y' Z'=>∃(f:Nat) (O:Array MapEntry) (a8:Nat),(b.fields.length-f)=mm/\[]=dd/\az=Y'/\((k,oC #[.map (some g),.map (some n)] 110)::((n,Res.obj (Obj.map #[] 0))::((g,Res.obj (Obj.map O a8))::Z)))=Z'/\ee 1=pV k2/\ee 3=pV k/\ee 21=cx/\ee 22=(iV (b.fields.length:Int))/\ee 23=iV f/\(f<=b.fields.length)/\(∀j,j<f->Jp b.fields j=0)/\(Xp O (Ic (b.fields.take f)))/\True) (m:=_) ⟨0,#[],0,rfl,rfl,rfl,rfl,rfl,rfl,rfl,rfl,rfl,Hr _,fun j h=>absurd h (Td _),Amr (rfl) Aml,trivial⟩ ?_))));rintro ed e0 _ _ _ ⟨f,O,a8,rfl,rfl,rfl,rfl,a1,a3,ai,aj,a2,eh,B,an,_⟩;refine qA fun d5 bo=>l_v (Da a2 aj) (Asa bo fun d6 bp=>Bp (t:=decide ((f:Int)<(b.fields.length:Int))) rfl (fun V=>?_) (fun V=>?_))
 ·have cl:=lZ1 V;refine Al (kk bp ?_);refine Ai fun d7 bq=>Ao (qA fun d8 br=>?_);obtain⟨u,M⟩:=Ed (xs:=b.fields) (i:=f) (by omega);refine Arw (Ch f Ccv ty9 ai ad (q:=(f:Int)) a2 rfl M) fun eo ap=>?_;have e3:=At.slen ap;refine l_v (Pk ty9 rfl ap) (Au (.string u) (qC br fun d9 bt=>l_v (Ah (v:=pV k) a3) (Av (.string u) (Bj (Cfa Arz) (Bj (Cfa (Lp Arz)) (Bj (Cfa (Lp Arz)) (Arv (Cm (vs:=[pV k,.string u,iV (-1)]) (Bwc (r:=k) (ra:=g) (rb:=n) (z:=-1) an Aml (by omega)) Tryz.func43 rfl rfl ⟨rfl,rfl,rfl,trivial⟩ fun ey f0 f3 bf=>?_))))))));obtain⟨a6,b6,b3,ef,bh,be,bj,bc⟩:=bf;replace a6:=a6.symm;subst a6 bh bj;refine Au (iV (Sc (Ic (b.fields.take f)) u)) (qC bt fun da bu=>Av (iV (Sc (Ic (b.fields.take f)) u)) (l_v (Dg rfl rfl) (l_k bu (Bp (t:=(Sc (Ic (b.fields.take f)) u) != 0) rfl (fun E=>?_) (fun E=>?_)))))
  ·have cm:=Ls E;refine qA fun db bv=>Av (iV (Sc (Ic (b.fields.take f)) u)) (Au (iV (Sc (Ic (b.fields.take f)) u)) (l_k bv (Aj Ghost.drop (Aj Ghost.drop (Aj Ghost.drop (Aj (Cez y) (Aq (x (rT (iV (Sc (Ic (b.fields.take f)) u)) ?_)))))))));rw[Bbl (by omega) (Db B (by omega) (Uk M rfl) (Ls E)) (Ls E)]
  have al:=Jh E;have ba:=bc al;subst ba;have cm:=Jh E;refine Al (kk bq ?_);refine qB (l_v (Br a2 rfl (z:=(((f+1):Nat):Int)) wrE) (Av (iV ((f+1):Nat)) (Bj (Cfa (Lp Arz)) (Bj (Cfa Arz) (Ac ?_)))));refine⟨_,?_,(f+1),b6,b3,rfl,rfl,rfl,rfl,a1,a3,ai,aj,rfl,(by omega),(Eg B (Uk M al)),(Amr (by rw[Bhc M]) be),trivial⟩;omega
 have cl:=lZ2 V;refine Bx (kk bm ?_);refine qD fun dc de bx bz=>Arw (Ba LBook.f_lots Cct rfl Dy U a1) fun ep cr=>Arw (Ax Dy rfl cr) fun eq aq=>?_;have e4:=Val.len aq;refine l_v (Ci (el:=51) Ccw rfl aq) (l_v (Gl rfl rfl) (l_k bz (Bp (t:=decide ((b.lots.length:Int)>8)) rfl (fun W=>?_) (fun W=>?_))))
 ·have cn:=lZ1 W;refine qA fun df c0=>Au (iV 2) (l_k c0 (Aj Ghost.drop (Aj Ghost.drop (Aj Ghost.drop (Aj (Cez y) (Aq (x (rT (iV 2) ?_))))))));rw[Bem (by omega) (Fb fun j hj=>B j (by omega)) (by omega)]
 have cn:=lZ2 W;refine Al (kk bx ?_);refine qD fun dg dh c1 c2=>Arw (Ba LBook.f_lots Cct rfl Dy U a1) fun er ct=>Arw (Ax Dy rfl ct) fun cy ae=>?_;have e5:=Val.len ae;refine l_v (Ci (el:=51) Ccw rfl ae) (Av (iV 0) (l_k c2 (Ao (Cc (fun mm ee dd Y' Z'=>∃(l:Nat) (P:Array MapEntry) (a9:Nat) (R:Array MapEntry) (aa:Nat),(b.lots.length-l)=mm/\[]=dd/\az=Y'/\((k,oC #[.map (some g),.map (some n)] 110)::((n,Res.obj (Obj.map R aa))::((g,Res.obj (Obj.map P a9))::Z)))=Z'/\ee 3=pV k/\ee 39=cy/\ee 40=(iV (b.lots.length:Int))/\ee 41=iV l/\(l<=b.lots.length)/\(∀j,j<l->Nr b j=0)/\(Bnd (Ix (Ic b.fields) (b.lots.take l)) (-1) 1000000000)/\(Bnd (tkM (b.lots.take l)) 0 (600000*(l:Int)))/\(Xp P (Ix (Ic b.fields) (b.lots.take l)))/\(Xp R (tkM (b.lots.take l)))/\True) (m:=_) ⟨0,O,a8,#[],0,rfl,rfl,rfl,rfl,a3,rfl,rfl,rfl,Hr _,fun j h=>absurd h (Td _),Bsl _,Avb,Amr (by rw[show f=b.fields.length by omega,Aav];rfl) an,Amr (rfl) Aml,trivial⟩ ?_))));rintro eg e1 _ _ _ ⟨l,P,a9,R,aa,rfl,rfl,rfl,rfl,J,a4,a5,L,ei,D,ab,ac,T,cj,_⟩;have ao:=ab;have ck:=ac.mono (Abx _) (show 600000*(l:Int)<=1000000000 by omega);refine qA fun di c3=>l_v (Da L a5) (Asa c3 fun dj c4=>Bp (t:=decide ((l:Int)<(b.lots.length:Int))) rfl (fun YQ=>?_) (fun YQ=>?_))
 ·have co:=lZ1 YQ;refine Al (kk c4 ?_);refine Ai fun dk am=>Ao (qA fun dl c5=>?_);obtain⟨d,e⟩:=Ed (xs:=b.lots) (i:=l) (by omega);refine Arw (Ch l Ccw Gk a4 ae (q:=(l:Int)) L rfl e) fun es cu=>Arw (Ax Gk rfl cu) fun cz ar=>Arv (Ct Auq fun ec=>?_);refine Cx rfl (Dv (v:=cz) (a:=d) (c:=Aup) Gk rfl rfl ar rfl ?_);refine Bb (a:=d) ar fun f1 G C=>Asa c5 fun dm c6=>Og ((k,oC #[.map (some g),.map (some n)] 110)::((n,Res.obj (Obj.map R aa))::((g,Res.obj (Obj.map P a9))::[]))) [0,1,2,3,4,5,6,7,8,9,10,11] (by kernel_rfl) rfl rfl (Dr 0 (zT 1 11) rfl ⟨Cfb,sB⟩ rfl (Yld.o (Ah (v:=pV k) J)) (Dr 1 (zT 2 10) rfl ⟨Cfb,sB⟩ rfl (Yld.o (Ck rfl)) (Dr 2 (zT 3 9) rfl ⟨Cfb,sB⟩ rfl (Yld.o (Hn Cdk rfl (Ab Cdj))) (Dr 3 (zT 4 8) rfl ⟨Cfb,sB⟩ rfl (Fj (v:=.map (some g)) ⟨_,Cdb,rfl⟩ rfl mC rfl) (Amt 4 (zT 5 7) rfl ⟨Cfb,sB⟩ rfl (Aob (Ba LLot.f_name Ccy rfl ty9 C)) ⟨Cfb,sB⟩ fun et au=>?_)))));have e6:=At.slen au;refine Dd 5 (zT 6 6) rfl ⟨Cfb,sB⟩ rfl (Yld.o (Pk ty9 rfl au)) ⟨Cfb,sB⟩ ?_;have ea:=Air ao ⟨by decide,by decide⟩ d.name;refine Dd 6 (zT 7 5) rfl ⟨Cfb,sB⟩ rfl (Aes (ok:=true) Cdb Ccs zr3 T rfl rfl (lZ0 _ (lZ0 _ mC))) ⟨Cfb,sB⟩ (Dd 7 (zT 8 4) rfl ⟨Cfb,sB⟩ rfl (Yld.o (Ah (v:=.tuple #[iV (((Ix (Ic b.fields) (b.lots.take l)) d.name).getD 0),.bool (((Ix (Ic b.fields) (b.lots.take l)) d.name).isSome)]) rfl)) ⟨Cfb,sB⟩ (Dr 8 (zT 9 3) rfl ⟨Cfb,sB⟩ rfl (Yld.o (Cr (iV (((Ix (Ic b.fields) (b.lots.take l)) d.name).getD 0)))) (Dr 9 (zT 10 2) rfl ⟨Cfb,sB⟩ rfl (Yld.o (Cr (.bool (((Ix (Ic b.fields) (b.lots.take l)) d.name).isSome)))) (Dd 10 (zT 11 1) rfl ⟨Cfb,sB⟩ rfl (Yld.o (Cp (v:=iV (((Ix (Ic b.fields) (b.lots.take l)) d.name).getD 0)) rfl)) ⟨Cfb,sB⟩ (Dd 11 (zT 12 0) rfl ⟨Cfb,sB⟩ rfl (Yld.o (Cp (v:=.bool (((Ix (Ic b.fields) (b.lots.take l)) d.name).isSome)) rfl)) ⟨Cfb,sB⟩ (Se rfl (kk c6 ?_)))))));refine Ai fun dn c7=>Ao (qA fun dp c8=>Arw (Ba LLot.f_name Ccy rfl ty9 C) fun eu av=>?_);have e7:=At.slen av;refine l_v (Pk ty9 rfl av) (Arv (Cj (Acy (by first|omega|(rw[Nj];omega))) Ceh ?_));refine l_v (Iy rfl) (Au (.bool (!(Hg d.name))) (l_k c8 (Bp (t:=!(Hg d.name)) rfl (fun ZQ=>?_) (fun ZQ=>?_))))
  ·have b2:=not_eq_t ZQ;refine qA fun dq c9=>Au (iV 4) (l_k c9 (Aj Ghost.drop (Aj Ghost.drop (Aj Ghost.drop (Aj (Cez (Cfc y G)) (Aq (x (rT (iV 4) ?_))))))));rw[Yk (by omega) (Fb fun j hj=>B j (by omega)) (by omega) (Db D (by omega) (Nh e (Bve b2)) (by decide))]
  have H:=Fp ZQ;refine qA fun dr ca=>Av (.bool (((Ix (Ic b.fields) (b.lots.take l)) d.name).isSome)) (Au (.bool (((Ix (Ic b.fields) (b.lots.take l)) d.name).isSome)) (l_k ca (Bp (t:=((Ix (Ic b.fields) (b.lots.take l)) d.name).isSome) rfl (fun F=>?_) (fun F=>?_))))
  ·refine qA fun ds cb=>Au (iV 5) (l_k cb (Aj Ghost.drop (Aj Ghost.drop (Aj Ghost.drop (Aj (Cez (Cfc y G)) (Aq (x (rT (iV 5) ?_))))))));rw[Yk (by omega) (Fb fun j hj=>B j (by omega)) (by omega) (Db D (by omega) (Nh e (Bni H F)) (by decide))]
  refine qA fun dt cc=>Arw (Ba LLot.f_parts Ccy rfl Gb C) fun ev cv=>Arw (Ax Gb rfl cv) fun ew aw=>?_;have e8:=Val.len aw;refine l_v (Ci (el:=127) Ccz rfl aw) (Arv (Cj Qx Cdy ?_));refine l_v (Iy rfl) (Au (.bool (!(inR (d.parts.length:Int) 1 6))) (l_k cc (Bp (t:=!(inR (d.parts.length:Int) 1 6)) rfl (fun a0=>?_) (fun a0=>?_))))
  ·have af:=not_eq_t a0;have ej:=Xo.1 af;refine qA fun du cd=>Au (iV 2) (l_k cd (Aj Ghost.drop (Aj Ghost.drop (Aj Ghost.drop (Aj (Cez (Cfc y G)) (Aq (x (rT (iV 2) ?_))))))));rw[Yk (by omega) (Fb fun j hj=>B j (by omega)) (by omega) (Db D (by omega) (Nh e (Bvd H F af)) (by decide))]
  have K:=Fp a0;have ek:=Fz.1 K;refine Al (kk c7 ?_);refine qD fun dv dw ce cf=>l_v (Ah (v:=pV k) J) (Arw (Ax Gk rfl C) fun d0 cw=>Bj (Cfa Arz) (Bj (Cfa (Lp Arz)) (Bj (Cfa (Lp Arz)) (Arv (Cm (vs:=[pV k,d0]) (Brn (r:=k) (ra:=g) (rb:=n) T cj cw ao ck (by omega)) Tryz.func46 rfl rfl ⟨rfl,rfl,trivial⟩ fun ez f2 f4 bg=>?_)))));obtain⟨N,ah,ag,em,bi,ak,bk,bd⟩:=bg;subst bi bk;replace C:=At.mono N C;refine Au (iV (Hv (Ix (Ic b.fields) (b.lots.take l)) (tkM (b.lots.take l)) d)) (qC cf fun dx cg=>Av (iV (Hv (Ix (Ic b.fields) (b.lots.take l)) (tkM (b.lots.take l)) d)) (l_v (Dg rfl rfl) (l_k cg (Bp (t:=(Hv (Ix (Ic b.fields) (b.lots.take l)) (tkM (b.lots.take l)) d) != 0) rfl (fun I=>?_) (fun I=>?_)))))
  ·have cp:=Ls I;refine qA fun dy ch=>Av (iV (Hv (Ix (Ic b.fields) (b.lots.take l)) (tkM (b.lots.take l)) d)) (Au (iV (Hv (Ix (Ic b.fields) (b.lots.take l)) (tkM (b.lots.take l)) d)) (l_k ch (Aj Ghost.drop (Aj Ghost.drop (Aj Ghost.drop (Aj (Cez (Cfc (Cfc y G) N)) (Aq (x (rT (iV (Hv (Ix (Ic b.fields) (b.lots.take l)) (tkM (b.lots.take l)) d)) ?_)))))))));rw[Yk (by omega) (Fb fun j hj=>B j (by omega)) (by omega) (Db D (by omega) (Nh e (Yj H F K)) (Ls I))]
  have a7:=Jh I;obtain⟨bb,w⟩:=bd a7;subst bb;have cp:=Jh I;refine Al (kk ce ?_);refine Rw (Ef 0 zZ2 rfl (Ah (v:=pV k) J) (Ef 1 zZ3 rfl (Ck rfl) (Ef 2 zZ4 rfl (Hn Cdk rfl (Ab Cdj)) (Fd 4 [o1,o1,o1,o0,o1,o0,o0,o0,o0] rfl (Ba LLot.f_name Ccy rfl ty9 C) fun ex ax=>?_))));have e9:=At.slen ax;refine Ef 5 [o1,o1,o1,o0,o1,o1,o0,o0,o0] rfl (Pk ty9 rfl ax) (Fd 6 [o1,o1,o1,o0,o1,o1,o1,o0,o0] rfl (Ax Gk rfl C) fun d1 ay=>Acq (i:=3) (j:=7) zZ5 [o1,o1,o1,o0,o1,o1,o1,o1,o0] rfl rfl (by kernel_rfl) rfl rfl rfl rfl ?_ ?_)
  ·refine Dt (i:=0) (v:=.map (some g)) ⟨_,Cdb,rfl⟩ rfl rfl rfl ⟨Cfb,?_⟩;refine Ma 7 zZ0 rfl (Bm (Asn ay (by omega) (fun p hp=>by have:=w p hp;omega)) Ceq rfl rfl ⟨rfl,trivial⟩ ⟨Cfb,?_⟩);refine Zd 8 zZ1 rfl (Auk (i:=1) (z:=Eo d) Cdb Ccs T rfl rfl rfl rfl fun b7 b4 b0=>⟨Cfb,?_⟩);refine Ec rfl (kk am ?_);refine qB (l_v (Br L rfl (z:=(((l+1):Nat):Int)) wrE) (Av (iV ((l+1):Nat)) (Bj (Cfa (Lp Arz)) (Bj (Cfa Arz) (Bj (Cez (Cfc G N)) (Ac ?_))))));refine⟨_,?_,(l+1),b7,b4,ah,ag,rfl,rfl,rfl,rfl,J,a4,a5,rfl,(by omega),(Eg D (Nh e ((Yj H F K).trans a7))),(by rw[Zr e];exact Zf ab ⟨by have:=Wj w;unfold Eo;omega,by have:=Wj w;unfold Eo;omega⟩ _),(by rw[Aek e];exact(Aug (by omega) w ac).mono (by omega) (by omega)),(Amr (by rw[Zr e]) b0),(Amr (by rw[Aek e]) ak),trivial⟩;omega
  ·refine Bm (vs:=[d1]) (v:=iV (Eo d)) (Asn ay (by omega) (fun p hp=>by have:=w p hp;omega)) Ceq rfl rfl ⟨rfl,trivial⟩ ⟨Cfb,?_⟩;refine Ma 3 zZ0 rfl (Dt (i:=0) (v:=.map (some g)) ⟨_,Cdb,rfl⟩ rfl rfl rfl ⟨Cfb,?_⟩);refine Zd 8 zZ1 rfl (Auk (i:=1) (z:=Eo d) Cdb Ccs T rfl rfl rfl rfl fun b9 b5 b1=>⟨Cfb,?_⟩);refine Ec rfl (kk am ?_);refine qB (l_v (Br L rfl (z:=(((l+1):Nat):Int)) wrE) (Av (iV ((l+1):Nat)) (Bj (Cfa (Lp Arz)) (Bj (Cfa Arz) (Bj (Cez (Cfc G N)) (Ac ?_))))));refine⟨_,?_,(l+1),b9,b5,ah,ag,rfl,rfl,rfl,rfl,J,a4,a5,rfl,(by omega),(Eg D (Nh e ((Yj H F K).trans a7))),(by rw[Zr e];exact Zf ab ⟨by have:=Wj w;unfold Eo;omega,by have:=Wj w;unfold Eo;omega⟩ _),(by rw[Aek e];exact(Aug (by omega) w ac).mono (by omega) (by omega)),(Amr (by rw[Zr e]) b1),(Amr (by rw[Aek e]) ak),trivial⟩;omega
 have co:=lZ2 YQ;refine Bx (kk c1 ?_);refine qA fun dz ci=>Au (iV 0) (l_k ci (Aj Ghost.drop (Aj Ghost.drop (Aj Ghost.drop (Aj (Cez y) (Aq (x (rT (iV 0) ?_))))))));rw[Yk (by omega) (Fb fun j hj=>B j (by omega)) (by omega) (Fb fun j hj=>D j (by omega))]
end
section
structure Mv where
 dst:Nat
 fld:Bool
 src:Nat
 g:Int
def Ym(j:Nat):List Mv->Int
 | []=>0
 | m::M=>(if m.dst=j then m.g else 0)+Ym j M
def Yo(j:Nat):List Mv->Int
 | []=>0
 | m::M=>(if m.fld=false/\m.src=j then m.g else 0)+Yo j M
def Ate(F C:Nat->Bool)(m:Mv):Bool:=C m.dst&&(if m.fld then F m.src else !C m.src)
def Mi(F C:Nat->Bool):List Mv->Int
 | []=>0
 | m::M=>(if Ate F C m then m.g else 0)+Mi F C M
theorem Axo{j:Nat}{A B:List Mv}:Ym j (A++B)=Ym j A+Ym j B:=by
 induction A with
 | nil=>simp[Ym]
 | cons m A ih=>rw[Sz,Ym,Ym,ih];omega
theorem Aqs{j:Nat}{A B:List Mv}:Yo j (A++B)=Yo j A+Yo j B:=by
 induction A with
 | nil=>simp[Yo]
 | cons m A ih=>rw[Sz,Yo,Yo,ih];omega
theorem Ue{F C:Nat->Bool}{A B:List Mv}:Mi F C (A++B)=Mi F C A+Mi F C B:=by
 induction A with
 | nil=>simp[Mi]
 | cons m A ih=>rw[Sz,Mi,Mi,ih];omega
theorem Ahg{F C:Nat->Bool}:∀{A:List Mv},(∀m∈A,0<=m.g)->0<=Mi F C A
 | [],_=>Abx _
 | m::A,h=>by
  have h1:=h m mC;have a:=Ahg (F:=F) (C:=C) fun x hx=>h x (lZ0 _ hx);rw[Mi];split<;>omega
section
variable{n N:Nat}{M:List Mv}{left:Nat->Nat->Int}{m:Mv}
end
def Cbv(n N:Nat)(A:List Mv)(m:Mv):Prop:=m.dst<n/\0<=m.g/\if m.fld then m.src<N else m.src<n/\m.src≠m.dst/\Yo m.src A+m.g<=Ym m.src A
end
section
def Dm(l:List LLot)(s:ByteArray):Int:=Aht (l.map LLot.name) s
def Gn(b:LBook)(i:Nat)(p:LPart):LSrc:=⟨Aht b.fields p.of_,Dm (b.lots.take i) p.of_⟩
def Oe(b:LBook)(i:Nat)(p:LPart):Mv:=⟨i,decide (0<=(Gn b i p).field),if 0<=(Gn b i p).field then (Gn b i p).field.toNat else (Gn b i p).lot.toNat,p.grams⟩
def Mf(b:LBook)(i:Nat)(ps:List LPart):List Mv:=ps.map (Oe b i)
def Va(b:LBook):Nat->List LLot->List Mv
 | _,[]=>[]
 | i,x::l=>Mf b i x.parts++Va b (i+1) l
def Axq(b:LBook)(i:Nat):List Mv:=Va b 0 (b.lots.take i)
def mvs(b:LBook):List Mv:=Va b 0 b.lots
theorem Axp{b:LBook}:∀{l m:List LLot} {i:Nat},Va b i (l++m)=Va b i l++Va b (i+l.length) m
 | [],m,i=>by simp[Va]
 | x::l,m,i=>by rw[Sz,Va,Va,Axp,Gv,lZ9,show i+1+l.length=i+(l.length+1) by omega]
theorem Agl{b:LBook}{i:Nat}{x:LLot}(h:b.lots[i]?=some x):Axq b (i+1)=Axq b i++Mf b i x.parts:=by
 unfold Axq;rw[Wa,h,Axp];have:(b.lots.take i).length=i:=by rw[Jb];have:=(lZ4.1 h).1;omega
 rw[this,Te];simp[Va]
theorem Zu{b:LBook}{i k:Nat}{ps:List LPart}{p:LPart}(h:ps[k]?=some p):Mf b i (ps.take (k+1))=Mf b i (ps.take k)++[Oe b i p]:=by unfold Mf;rw[Wa,h,Lo];rfl
def Bu(b:LBook)(F C:Nat):Int:=Mi F.testBit C.testBit (mvs b)
theorem Adb{F C:Nat->Bool}{m:Mv}:Mi F C [m]=if Ate F C m then m.g else 0:=by simp[Mi]
theorem Akq{F C:Nat->Bool}{b:LBook}{i:Nat}(h:C i=false):∀{ps:List LPart},Mi F C (Mf b i ps)=0
 | []=>rfl
 | p::ps=>by
  have:=Akq (F:=F) h (b:=b) (ps:=ps);unfold Mf at this ⊢;rw[Je,Mi,this];simp[Ate,Oe,h]
structure Fr8 where
 rows:List (List LSrc)
instance:Dat Fr8 where
 k:=8
 agg:=true
 rep Y cs x:=cs.length=8/\x.rows.length=8/\∀(i:Nat) (v:Value) (l:List LSrc),cs[i]?=some v->x.rows[i]?=some l->Val Y v l
 mono h h':=⟨h'.1,h'.2.1,fun i v l h1 h2=>(h'.2.2 i v l h1 h2).mono h⟩
 len h:=h.1
 sgl h:=by
  intro c hc;obtain⟨i,hi⟩:=Sr hc;have hlt:=(lZ4.1 hi).1;have:=h.2.2 i c _ hi (Qj (by have:=h.1;have:=h.2.1;omega));obtain⟨cs',h3,h4⟩:=this;have h5:=Dat.len h3
  match cs',h3,h4,h5 with
  | [z],h3,h4,_=>rw[h4];exact Dat.sgl h3 z (Mk.2 rfl)
 one h:=by cases h
structure Cel where
 b:LBook
 from_:Fr8
instance:Dat Cel:=.iso fun x=>(x.b,x.from_)
theorem Cel.f_b:Fld Cel LBook 0 Cel.b:=⟨fun Y cs x=>(Fld.fst:Fld (LBook×Fr8) LBook 0 _).at_ Y cs (x.b,x.from_)⟩
theorem Cel.f_from_:Fld Cel Fr8 2 Cel.from_:=⟨fun Y cs x=>((.snd Fld.self):Fld (LBook×Fr8) Fr8 2 _).at_ Y cs (x.b,x.from_)⟩
theorem Auj:GoTy Tryz.prog 190 Fr8:=⟨⟨_,Cdt,rfl⟩,⟨_,Ab Tryz.typeInfo190,rfl⟩⟩
theorem Bjl{P:Program}{Y:Ro}{e:Env}{ty t el:TypeId}{x y:Operand}{p:Value}{a:Fr8}{k:IntKind}{q:Int}{l:List LSrc}(i:Nat)(hT:P.underlying t=some (.array 8 el))(hE:∃i,P.info? el=some i/\i.size=1)(hx:Af e x=p)(hp:At Y p a)(hy:Af e y = .int k q)(hq:q=(i:Int))(hl:a.rows[i]?=some l) :
  ∃p',At Y p' l/\Yld P Y e (.indexAddr t x y) ty p':=by
 obtain⟨b,off,c,t',fz,cs,rest,rfl,d,f,g⟩:=hp;obtain⟨j,m,h⟩:=f;have hi:i<8:=by have:=(lZ4.1 hl).1;omega
 have hc:cs[i]?=some cs[i]:=Qj (by omega);refine⟨.pointer (some ⟨b,off+i,none⟩),⟨b,off+i,c,t',fz,[cs[i]],cs.drop (i+1)++rest,rfl,d,⟨cs[i],rfl,Cs.1 (h i _ l hc hl)⟩,?_⟩,Cq (k':=1) i hT hE hx hy hq hi (by omega)⟩;rw[<-Aor,g,Bdl (by omega),Aol (by omega)];rfl
def Cbj(Y:Ro)(r:Nat)(b:LBook)(rows:List (List LSrc))(o:Own):Prop :=
 ∃(vf vl:Value) (vs:List Value) (gs:List Own),o=(r,Res.obj (.cells (vf::vl::vs).toArray 192 (0,0)))::gs.flatten/\Val Y vf b.fields/\Val Y vl b.lots/\vs.length=8/\gs.length=8/\rows.length=8 /\
  ∀(i:Nat) (v:Value) (l:List LSrc) (g:Own),vs[i]?=some v->rows[i]?=some l->gs[i]?=some g->Grow Y 196 v l g
theorem Amj{l:List LLot}{s:ByteArray}:Oi l (fun x=>x.name.toList==s.toList)=Dm l s:=by
 unfold Dm Aht Oi;have e:Cl l.length (atP l fun x=>x.name.toList==s.toList)=Cl (l.map LLot.name).length (Xi (l.map LLot.name) s):=by
  rw[Uu];congr 1;funext j;unfold atP Xi;rw[Oz];cases l[j]?<;>rfl
 rw[e]
theorem Azw{mn:Bool}{X:Frame->List Frame->Ro->Own->Cy->Prop}{Y:Ro}{Z:Own}{l:List LLot}{vl f:Value}{p:LLot->Bool}(rl:Val Y vl l)(hf:Bjp Y f (fun _:LLot=>True) p):CallsH (CX mn X) 79 #[vl,f] Y Z (rP Y Z (iV (Oi l p))):=by
 refine Bq 19 [4] Tryz.func79 rfl fun Q y a0=>qA fun P B=>Au (iV 0) (Ary rfl rfl B fun W YQ G H=>Av vl ?_);have g4:=Val.len rl;refine l_v (Ci (el:=51) Ccw rfl rl) (Av (iV 0) (l_k H (Ao (Cc (fun mm ee dd Y' Z'=>∃(i:Nat),(l.length-i)=mm/\[]=dd/\Y=Y'/\Z=Z'/\ee 0=vl/\ee 1=f/\ee 7=(iV (l.length:Int))/\ee 8=iV i/\(i<=l.length)/\(∀j,j<i->atP l p j=false)/\True) (m:=_) ⟨0,rfl,rfl,rfl,rfl,rfl,rfl,rfl,rfl,Hr _,fun j h=>absurd h (Td _),trivial⟩ ?_))));rintro m5 e5 _ _ _ ⟨i,rfl,rfl,rfl,rfl,u,w,x,d,a1,g,_⟩;refine qA fun ZQ I=>l_v (Da d x) (Asa I fun K7 J=>Bp (t:=decide ((i:Int)<(l.length:Int))) rfl (fun b=>?_) (fun b=>?_))
 ·have L:=lZ1 b;refine Al (kk J ?_);refine Ai fun K9 K=>Ao (qA fun R C=>l_v (Ah (v:=iV i) d) (Au (iV i) (Arx rfl rfl C fun T D=>l_v (Ah (v:=f) w) (l_v (Ah (v:=vl) u) (Av (iV i) ?_)))));obtain⟨k,e⟩:=Ed (xs:=l) (i:=i) (by omega);refine Arw (Ch i Ccw Gk rfl rl (q:=(i:Int)) rfl rfl e) fun a2 M=>Arw (Ax Gk rfl M) fun O N=>Arv (Adv (pr:=p) (a:=k) (v:=O) hf Cfb trivial rfl rfl N ?_);refine l_k D (Bp (t:=p k) rfl (fun c=>?_) (fun c=>?_))
  ·refine qA fun U E=>Av (iV i) (Au (iV i) (l_k E (Aq (y (rT (iV i) ?_)))));have hi:=Fh (n:=l.length) g (by omega) (show atP l _ i=true by simp only[atP,e,b,c]);simp only[Oi,hi]
  refine Al (kk K ?_);refine qB (l_v (Br d rfl (z:=(((i+1):Nat):Int)) wrE) (Av (iV ((i+1):Nat)) (Ac ?_)));refine⟨_,?_,(i+1),rfl,rfl,rfl,rfl,u,w,x,rfl,(by omega),(Eg g (by simp only[atP,e,b,c])),trivial⟩;omega
 have L:=lZ2 b;refine Bx (kk G ?_);refine qA fun V F=>Au (iV (-1)) (l_k F (Aq (y (rT (iV (-1)) ?_))));have hn:=Ep (n:=l.length) fun j hj=>g j (by omega);simp only[Oi,hn]
theorem Bik{y:LPart}{Y9:Ro}{vc:Value}(hc:At Y9 vc y):Bjp Y9 (.func (.func 80) #[] #[vc]) (fun _:LLot=>True) (fun x=>x.name.toList==y.of_.toList):=by refine⟨80,_,[vc],rfl,Tryz.func80,rfl,rfl,?_⟩;intro mn X Y Z v x hle _ hv;replace hc:=hc.mono hle;refine Bq 9 [3] Tryz.func80 rfl fun Q e n=>qA fun i f=>Arv (Jl (v:=v) rfl fun t=>?_);refine Bb (a:=x) hv fun z b h=>?_;replace hc:=At.mono b hc;refine Au bF (qC f fun j g=>Arw (Ba LLot.f_name Ccy rfl ty9 h) fun u c=>?_);have k:=At.slen c;refine l_v (Pk ty9 rfl c) (Arw (Ba LPart.f_of_ Ccx rfl ty9 hc) fun w d=>?_);have m:=At.slen d;refine l_v (Pk ty9 rfl d) (l_v (Ahy (p:=x.name) (q:=y.of_) rfl rfl) (Au (.bool ((x.name).toList==(y.of_).toList)) (l_k g (Aj (Cez b) (Aq (e (rT (.bool ((x.name).toList==(y.of_).toList)) ?_)))))));rfl
end
section
def Vv(b:LBook)(j:Nat):List LSrc:=((b.lots[j]?.map LLot.parts).getD []).map (Gn b j)
def Pa(b:LBook)(i k:Nat):List (List LSrc):=(List.range 8).map fun j=>if j<i then Vv b j else if j=i then (Vv b j).take k else []
def Ays(b:LBook):List (List LSrc):=(List.range 8).map (Vv b)
def frD(b:LBook):Fr8:=⟨Ays b⟩
section
variable{b:LBook}{i k:Nat}{x:LLot}{p:LPart}
theorem Ald(h:b.lots[i]?=some x):Vv b i=x.parts.map (Gn b i):=by simp[Vv,h]
theorem Blg(h:b.lots.length<=i):Vv b i=[]:=by simp[Vv,Sa h]
theorem Bpj:Pa b 0 0=List.replicate 8 []:=rfl
theorem Ara(hi:i<8):(Pa b i k)[i]?=some ((Vv b i).take k):=by simp[Pa,Oz,Awo hi]
theorem Ayr(h:b.lots[i]?=some x)(hk:x.parts.length<=k):Pa b i k=Pa b (i+1) 0:=by
 unfold Pa;refine Aqa fun j _=>?_;rcases Bmr j i with hj|hj|hj
 ·rw[if_pos hj,if_pos (by omega)]
 ·subst hj;rw[if_neg (Nat.lt_irrefl _),if_pos rfl,if_pos (by omega),Aom (by rw[Ald h,Uu];exact hk)]
 ·rw[if_neg (by omega),if_neg (by omega),if_neg (by omega)];split<;>rfl
theorem Bcd(h:b.lots.length<=i):Pa b i 0=Ays b:=by
 unfold Pa Ays;refine Aqa fun j _=>?_;by_cases hj:j<i
 ·rw[if_pos hj]
 ·rw[if_neg hj,Blg (by omega)];split<;>rfl
theorem Bap(h:b.lots[i]?=some x)(hp:x.parts[k]?=some p):(Vv b i).take (k+1)=(Vv b i).take k++[Gn b i p]:=by rw[Ald h,Wa,Oz,hp];rfl
theorem Anc(h:b.lots[i]?=some x)(hp:x.parts[k]?=some p)(hi:i<8):(Pa b i k).set i ((Vv b i).take k++[Gn b i p])=Pa b i (k+1):=by
 apply Atr;intro j;rw[Vi];by_cases hj:i=j
 ·subst hj;rw[if_pos rfl,Ara hi,Bap h hp];rw[if_pos (by simpa[Pa]using hi)]
 ·rw[if_neg hj];unfold Pa;rw[Oz,Oz];cases hr:(List.range 8)[j]? with
  | none=>rfl
  | some z =>
   have hz:z=j:=by
    have:=lZ4.1 hr;obtain⟨c,a⟩:=this;rw[<-a,List.getElem_range]
   subst hz;simp[show ¬z=i from fun e=>hj e.symm]
theorem Bpk(h:b.lots[i]?=some x)(hi:i<8):(Ays b)[i]?=some (x.parts.map (Gn b i)):=by simp[Ays,Awo hi,Ald h]
end
def CelG(Y:Ro)(r:Nat)(L:LBook×List (List LSrc))(o:Own):Prop:=Cbj Y r L.1 L.2 o
theorem CelG.mono{Y Y':Ro}(hle:Ro.le Y Y'){r:Nat}{L:LBook×List (List LSrc)}{o:Own}(h:CelG Y r L o):CelG Y' r L o :=
 let ⟨vf,vl,vs,gs,h1,h2,h3,h4,h5,h6,h7⟩:=h
 ⟨vf,vl,vs,gs,h1,h2.mono hle,h3.mono hle,h4,h5,h6,fun i v l g a b c=>(h7 i v l g a b c).mono hle⟩
theorem Avk{Y:Ro}{r:Nat}{L L':LBook×List (List LSrc)}{o:Own}(e:L=L')(h:CelG Y r L o):CelG Y r L' o:=e ▸ h
theorem Atz{α:Type}{n i:Nat}{a z:α}(h:(List.replicate n a)[i]?=some z):z=a:=by
 rw[Bly]at h;split at h
 ·exact(Option.some.inj h).symm
 ·cases h
theorem Bro{Y:Ro}{r:Nat}{b:LBook}{vf vl:Value}(h1:Val Y vf b.fields)(h2:Val Y vl b.lots) :
  CelG Y r (b,List.replicate 8 []) [(r,Res.obj (.cells #[vf,vl,.slice none 0 0,.slice none 0 0,.slice none 0 0,.slice none 0 0,.slice none 0 0,.slice none 0 0,.slice none 0 0,.slice none 0 0] 192 (0,0)))]:=by refine⟨vf,vl,List.replicate 8 (.slice none 0 0),List.replicate 8 [],rfl,h1,h2,rfl,rfl,rfl,fun i v l g a b c=>?_⟩;obtain rfl:=Atz a;obtain rfl:=Atz b;obtain rfl:=Atz c;exact Hm
theorem Bdg{gs:List Own}{i:Nat}{g:Own}(h:gs[i]?=some g):gs.flatten.Perm (g++((gs.take i).flatten++(gs.drop (i+1)).flatten)):=by
 have hi:=(lZ4.1 h).1;have e:gs=gs.take i++g::gs.drop (i+1):=by
  have:=(lZ4.1 h).2;rw[<-this,<-Aol hi,Aig]
 have a:gs.flatten=(gs.take i).flatten++(g++(gs.drop (i+1)).flatten):=by
  conv=>lhs;rw[e]
  rw[List.flatten_append,Bdy]
 rw[a,<-Gv,<-Gv];exact List.perm_append_comm.append_right _
theorem Bkl{Y:Ro}{r:Nat}{b:LBook}{rows:List (List LSrc)}{o:Own}{i:Nat}{l:List LSrc}(h:CelG Y r (b,rows) o)(hi:i<8)(hl:rows[i]?=some l) :
  ∃(vf vl:Value) (vs:List Value) (v:Value) (g R:Own),(∀Z:Own,(o++Z).Perm ((r,Res.obj (.cells (vf::vl::vs).toArray 192 (0,0)))::(g++(R++Z))))/\vs.length=8/\vs[i]?=some v/\Grow Y 196 v l g /\
   ∀(Y':Ro) (v':Value) (l':List LSrc) (g':Own),Ro.le Y Y'->Grow Y' 196 v' l' g'->∃o',CelG Y' r (b,rows.set i l') o'/\∀Z:Own,((r,Res.obj (.cells (vf::vl::vs.set i v').toArray 192 (0,0)))::(g'++(R++Z))).Perm (o'++Z):=by
 obtain⟨vf,vl,vs,gs,rfl,m,n,e,p,f,k⟩:=h;have hv:vs[i]?=some vs[i]:=Qj (by omega);have hg:gs[i]?=some gs[i]:=Qj (by omega);refine⟨vf,vl,vs,vs[i],gs[i],(gs.take i).flatten++(gs.drop (i+1)).flatten,fun Z=>?_,e,hv,k i _ _ _ hv hl hg,fun Y' v' l' g' hle hG=>?_⟩
 ·rw[Sz];refine .cons _ ?_;rw[<-Gv];exact(Bdg hg).append_right _
 ·refine⟨_,⟨vf,vl,vs.set i v',gs.set i g',rfl,m.mono hle,n.mono hle,by rw[Wb];exact e,by rw[Wb];exact p,by show (rows.set i l').length=8;rw[Wb];exact f,fun j v l g a c d=>?_⟩,fun Z=>?_⟩
  ·replace c:(rows.set i l')[j]?=some l:=c;rw[Vi]at a c d;by_cases hj:i=j
   ·subst hj;rw[if_pos rfl]at a c d;rw[if_pos (by omega)]at a d;rw[if_pos (by show i<rows.length;have:rows.length=8:=f;omega)]at c;cases a;cases c;cases d;exact hG
   ·rw[if_neg hj]at a c d;exact(k j v l g a c d).mono hle
  ·rw[Sz];refine .cons _ ?_;rw[<-Gv];have hg':(gs.set i g')[i]?=some g':=by rw[Vi,if_pos rfl,if_pos (by omega)]
   have:=(Bdg hg').append_right Z;rw[List.take_set,Blx (l:=gs.take i) (by rw[Jb];omega),List.drop_set,if_pos (by omega)]at this;exact this.symm
section
variable{C:Ctx}{V:Ps}{n:Nat}{b:FB}{e:Env}{ds:List Deferred}{Y:Ro}{Z:Own}{Q':Hu}{c:Code}
theorem Anx:∀{gs:List Own} {vs:List Value} {rows:List (List LSrc)} {Y:Ro},vs.length=gs.length->rows.length=gs.length ->
  (∀(i:Nat) (v:Value) (l:List LSrc) (g:Own),vs[i]?=some v->rows[i]?=some l->gs[i]?=some g->Grow Y 196 v l g) ->
  (∀Y',Ro.le Y Y'->(∀(i:Nat) (v:Value) (l:List LSrc),vs[i]?=some v->rows[i]?=some l->Val Y' v l)->WpP C V b n c Q' e ds Y' Z)->WpP C V b n c Q' e ds Y (gs.flatten++Z)
 | [],[],[],Y,_,_,_,K=>K Y .refl fun i v l h=>by cases h
 | g::gs,v::vs,l::rows,Y,h1,h2,h3,K=>by
  rw[Bdy,Gv];refine Hc (h3 0 v l g rfl rfl rfl) fun Y1 le1 hv=>?_;refine Anx (gs:=gs) (vs:=vs) (rows:=rows) (by simpa using h1) (by simpa using h2) (fun i v l g a c d=>(h3 (i+1) v l g a c d).mono le1) fun Y2 le2 hV=>?_;refine K Y2 (le1.trans le2) fun i w m a c=>?_;cases i with
  | zero=>cases a;cases c;exact hv.mono le2
  | succ i=>exact hV i w m a c
theorem Aun{r:Nat}{bk:LBook}{rows:List (List LSrc)}{o:Own}(h:CelG Y r (bk,rows) o)(K:∀Y',Ro.le Y Y'->At Y' (.pointer (some ⟨r,0,none⟩)) (⟨bk,⟨rows⟩⟩:Cel)->WpP C V b n c Q' e ds Y' Z):WpP C V b n c Q' e ds Y (o++Z):=by obtain⟨vf,vl,vs,gs,rfl,g,i,j,q,f,k⟩:=h;refine Aj (Z':=gs.flatten++((r,Res.obj (.cells (vf::vl::vs).toArray 192 (0,0)))::Z)) (Cfa (by rw[Sz];exact List.perm_middle.symm)) ?_;refine Anx (vs:=vs) (rows:=rows) (by omega) (by have:rows.length=8:=f;omega) k fun t d hV=>?_;refine Nt (v:=.agg (vf::vl::vs).toArray) (a:=(⟨bk,⟨rows⟩⟩:Cel)) ⟨vf::vl::vs,⟨[vf,vl],vs,rfl,⟨[vf],[vl],rfl,⟨vf,rfl,Cs.1 (g.mono d)⟩,⟨vl,rfl,Cs.1 (i.mono d)⟩⟩,⟨j,f,hV⟩⟩,rfl⟩ fun p m hA=>?_;exact K p (d.trans m) hA
end
abbrev Bzh:List Value:=[.slice none 0 0,.slice none 0 0,.slice none 0 0,.slice none 0 0,.slice none 0 0,.slice none 0 0,.slice none 0 0,.slice none 0 0,.slice none 0 0,.slice none 0 0]
theorem Bzm:Fw Tryz.prog 192 (.agg #[.slice none 0 0,.slice none 0 0,.slice none 0 0,.slice none 0 0,.slice none 0 0,.slice none 0 0,.slice none 0 0,.slice none 0 0,.slice none 0 0,.slice none 0 0]):=⟨_,Ab Tryz.typeInfo192,rfl⟩
end
section
theorem Aza(s a:ByteArray):(a.toList==s.toList)=(s.toList==a.toList):=Bool.beq_comm
theorem Ahi{n i:Nat}{p:Nat->Bool}(h:Cl n p=some i):i<n/\p i=true:=by
 rcases Ft (n:=n) (p:=p) with⟨j,hj,hp,_,he⟩|⟨_,he⟩
 ·rw[he]at h;cases h;exact⟨hj,hp⟩
 ·rw[he]at h;cases h
theorem Blb{l:List ByteArray}{s:ByteArray}(h:l.length<2^60):-1<=Aht l s/\Aht l s<2^60:=by
 unfold Aht;split
 ·rename_i i hi;have:=(Ahi hi).1;omega
 ·omega
theorem Bhx{l:List LLot}{s:ByteArray}(h:l.length<=8):-1<=Dm l s/\Dm l s<8:=by
 unfold Dm Aht;split
 ·rename_i i hi;have:=(Ahi hi).1;rw[Uu]at this;omega
 ·omega
variable{mn:Bool}{X:Frame->List Frame->Ro->Own->Cy->Prop}{Y:Ro}{Z:Own}
theorem Bkd{l:List ByteArray}{vl:Value}{s:ByteArray}(rl:Val Y vl l):CallsH (CX mn X) 78 #[vl,.string s] Y Z (rP Y Z (iV (Aht l s))):=by
 refine Bq 19 [4] Tryz.func78 rfl fun Q w a1=>qA fun M y=>Au (iV 0) (qE y fun T U F G=>Av vl ?_);have g4:=Val.len rl;refine l_v (Ci (el:=9) Ccv rfl rl) (Av (iV 0) (l_k G (Ao (Cc (fun mm ee dd Y' Z'=>∃(i:Nat),(l.length-i)=mm/\[]=dd/\Y=Y'/\Z=Z'/\ee 0=vl/\ee 1=(.string s)/\ee 7=(iV (l.length:Int))/\ee 8=iV i/\(i<=l.length)/\(∀j,j<i->Xi l s j=false)/\True) (m:=_) ⟨0,rfl,rfl,rfl,rfl,rfl,rfl,rfl,rfl,Hr _,fun j h=>absurd h (Td _),trivial⟩ ?_))));rintro m5 ZQ _ _ _ ⟨i,rfl,rfl,rfl,rfl,g,k,u,d,a2,f,_⟩;refine qA fun V H=>l_v (Da d u) (Asa H fun W I=>Bp (t:=decide ((i:Int)<(l.length:Int))) rfl (fun c=>?_) (fun c=>?_))
 ·have L:=lZ1 c;refine Al (kk I ?_);refine Ai fun YQ J=>Ao (qA fun N B=>l_v (Ah (v:=iV i) d) (Au (iV i) (Arx rfl rfl B fun O C=>l_v (Ah (v:=.string s) k) (l_v (Ah (v:=vl) g) (Av (iV i) ?_)))));obtain⟨b,e⟩:=Ed (xs:=l) (i:=i) (by omega);refine Arw (Ch i Ccv ty9 rfl rl (q:=(i:Int)) rfl rfl e) fun a3 x=>?_;have a0:=At.slen x;refine l_v (Pk ty9 rfl x) (l_v (Ahy (p:=s) (q:=b) rfl rfl) (l_k C (Bp (t:=(s).toList==(b).toList) rfl (fun a=>?_) (fun a=>?_))))
  ·have K:=Jr a;refine qA fun P D=>Av (iV i) (Au (iV i) (l_k D (Aq (w (rT (iV i) ?_)))));have hi:=Fh (n:=l.length) f (by omega) (show Xi l s i=true by simp only[Xi,e];exact(Aza s b).trans a);simp only[Aht,hi]
  have K:=Jq a;refine Al (kk J ?_);refine qB (l_v (Br d rfl (z:=(((i+1):Nat):Int)) wrE) (Av (iV ((i+1):Nat)) (Ac ?_)));refine⟨_,?_,(i+1),rfl,rfl,rfl,rfl,g,k,u,rfl,(by omega),(Eg f (by simp only[Xi,e];exact(Aza s b).trans a)),trivial⟩;omega
 have L:=lZ2 c;refine Bx (kk F ?_);refine qA fun R E=>Au (iV (-1)) (l_k E (Aq (w (rT (iV (-1)) ?_))));have hn:=Ep (n:=l.length) fun j hj=>f j (by omega);simp only[Aht,hn]
theorem Brh{b:LBook}{vb:Value}(rv:Val Y vb b)(hn8:b.lots.length<=8)(hp6:∀x∈b.lots,x.parts.length<=6):CallsH (CX mn X) 41 #[vb] Y Z (fun w Y' Z'=>Ro.le Y Y'/\Z'=Z/\At Y' w (⟨b,frD b⟩:Cel)):=by
 refine Bq 58 [2] Tryz.func41 rfl fun Q ba d1=>qA fun K1 k1=>Arv (Jl (v:=vb) rfl fun k2=>?_);refine Bb (a:=b) rv fun cb l2 f=>Au (.pointer none) (qC k1 fun K3 k3=>Arw (Ax Gt rfl f) fun v4 r4=>?_);obtain⟨y,B,b4,bb,bc⟩:=LBook.open_ r4;have b5:v4.cells=[y,B].toArray:=by rw[b4];rfl
 refine l_v (Dn (ns:=[2,8]) (vs:=[(0,v4)]) (zc:=Bzh) (cs:=[y,B,nS,nS,nS,nS,nS,nS,nS,nS]) Cdi Bzm rfl ⟨Gt.2,Auj.2,trivial⟩ (EvB.map ⟨⟨rfl,rfl⟩,trivial⟩) ((Be (cs:=[y,B]) b5 rfl nL).trans rfl)) (Arv (Jl (v:=.agg #[y,B,nS,nS,nS,nS,nS,nS,nS,nS]) rfl fun e=>?_));refine Au (pV e) (qE k3 fun K7 K8 k7 k8=>Arw (Ba LBook.f_lots Cct rfl Dy f) fun v9 r9=>Arw (Ax Dy rfl r9) fun ar H=>?_);have cr:=Val.len H;refine l_v (Ci (el:=51) Ccw rfl H) (Av (iV 0) (l_k k8 (Ao ?_)));have av:=Bro (r:=e) (b:=b) bb bc;refine Cc (fun mm ee dd Y' Z'=>∃(i:Nat) (P:Own),(b.lots.length-i)=mm/\[]=dd/\Ro.le cb Y'/\(P++Z)=Z'/\ee 1=pV k2/\ee 3=pV e/\ee 14=ar/\ee 15=(iV (b.lots.length:Int))/\ee 16=iV i/\(i<=b.lots.length)/\CelG Y' e (b,Pa b i 0) P/\True) (m:=_) ⟨0,[(e,oC #[y,B,nS,nS,nS,nS,nS,nS,nS,nS] 192)],rfl,rfl,Cfb,rfl,rfl,rfl,rfl,rfl,rfl,Hr _,Avk (by rw[Bpj]) av,trivial⟩ ?_;rintro d3 cp _ dh _ ⟨i,P,rfl,rfl,N,rfl,b6,ad,ab,ac,L,d5,J,_⟩;replace f:=At.mono N f;replace H:=Val.mono N H;refine qA fun cd bd=>l_v (Da L ac) (Asa bd fun ce be=>Bp (t:=decide ((i:Int)<(b.lots.length:Int))) rfl (fun U=>?_) (fun U=>?_))
 ·have bq:=lZ1 U;refine Al (kk be ?_);refine Ai fun cf bf=>Ao (qA fun cg bg=>l_v (Ah (v:=iV i) L) ?_);obtain⟨g,F⟩:=Ed (xs:=b.lots) (i:=i) (by omega);have cx:=hp6 _ (lZ5 F);refine Arw (Ch i Ccw Gk ab H (q:=(i:Int)) L rfl F) fun d7 bt=>Arw (Ax Gk rfl bt) fun c6 al=>Arv (Ct Auq fun d2=>?_);refine Au (iV i) (Cx rfl (Dv (v:=c6) (a:=g) (c:=Aup) Gk rfl rfl al rfl ?_));refine Bb (a:=g) al fun cc a4 bu=>?_;replace f:=At.mono a4 f;replace J:=CelG.mono a4 J;refine qC bg fun ch bh=>Arw (Ba LLot.f_parts Ccy rfl Gb bu) fun d8 bv=>Arw (Ax Gb rfl bv) fun c7 I=>?_;have ct:=Val.len I;refine l_v (Ci (el:=127) Ccz rfl I) (Av (iV 0) (l_k bh (Ao (Cc (fun mm ee dd Y' Z'=>∃(k:Nat) (R:Own),(g.parts.length-k)=mm/\[]=dd/\Ro.le cc Y'/\(R++Z)=Z'/\ee 1=pV k2/\ee 3=pV e/\ee 4=iV i/\ee 14=ar/\ee 15=(iV (b.lots.length:Int))/\ee 16=iV i/\ee 22=c7/\ee 23=(iV (g.parts.length:Int))/\ee 24=iV k/\(k<=g.parts.length)/\CelG Y' e (b,Pa b i k) R/\True) (m:=_) ⟨0,P,rfl,rfl,Cfb,rfl,b6,ad,rfl,ab,ac,L,rfl,rfl,rfl,Hr _,Avk (rfl) J,trivial⟩ ?_))));rintro d4 cq _ di _ ⟨k,R,rfl,rfl,G,rfl,C,D,E,YQ,ZQ,a0,a1,a2,M,d6,K,_⟩;replace f:=At.mono G f;replace I:=Val.mono G I;refine qA fun ci bi=>l_v (Da M a2) (Asa bi fun cj bj=>Bp (t:=decide ((k:Int)<(g.parts.length:Int))) rfl (fun V=>?_) (fun V=>?_))
  ·have br:=lZ1 V;refine Al (kk bj ?_);refine Ai fun ck ag=>Ao (qA fun cl bk=>?_);obtain⟨d,a3⟩:=Ed (xs:=g.parts) (i:=k) (by omega);refine Arw (Ch k Ccz Im a1 I (q:=(k:Int)) M rfl a3) fun d9 bx=>Arw (Ax Im rfl bx) fun c8 am=>Arv (Ct Aod fun bl=>?_);refine Cx rfl (Dv (v:=c8) (a:=d) (c:=Aoc) Im rfl rfl am rfl ?_);refine Bb (a:=d) am fun a8 O an=>?_;replace f:=At.mono O f;replace K:=CelG.mono O K;refine qC bk fun cm bm=>Arw (Ba LBook.f_fields Cct rfl Hw f C) fun da bz=>Arw (Ax Hw rfl bz) fun db ao=>Arw (Ba LPart.f_of_ Ccx rfl ty9 an) fun dc ap=>?_;have cu:=At.slen ap;refine l_v (Pk ty9 rfl ap) ?_;have cy:=Blb (s:=d.of_) (Val.len ao);refine Arv (Cj (Bkd ao) Tryz.func78 ?_);refine Au (iV (Aht b.fields d.of_)) (qC bm fun cn bn=>Arw (Ba LBook.f_lots Cct rfl Dy f C) fun de c0=>Arw (Ax Dy rfl c0) fun df c1=>l_v (Ah (v:=iV i) E) (Arw (Ri i Ccw Gk rfl c1 (q:=(i:Int)) rfl rfl (by omega)) fun dg c2=>l_v (Il (fn:=.func 80) (caps:=[.tmp 7]) (vs:=[pV bl]) ⟨rfl,trivial⟩) ?_));have cz:=Bhx (l:=b.lots.take i) (s:=d.of_) (by rw[Jb];omega);refine Arv (Cj (Amj ▸ Azw c2 (Bik an)) Tryz.func79 ?_);refine Au (iV (Dm (b.lots.take i) d.of_)) (l_k bn ?_);obtain⟨a5,a6,a7,au,W,T,b7,d0,af,h,ae⟩:=Bkl K (i:=i) (by omega) (Ara (by omega));refine Aj (Z':=(e,oC ((a5::a6::a7)).toArray 192)::(W++(T++Z))) (Cfa (b7 _)) (Rw (Ef 0 (zT 1 16) rfl (Ah (v:=pV e) D) (Ef 1 (zT 2 15) rfl (Ah (v:=iV i) E) (Ef 2 (zT 3 14) rfl (Ah (v:=pV e) D) (Ef 3 (zT 4 13) rfl (Ah (v:=iV i) E) (Ef 4 (zT 5 12) rfl (Ck rfl) (Ef 5 (zT 6 11) rfl (Cb Cdi rfl rfl Auj.2 (by decide) rfl rfl) (Ef 6 (zT 7 10) rfl (Cq (k':=1) i Cdt Xd.2 rfl (q:=(i:Int)) rfl rfl (by omega) (off':=i+2) (by show 2+i*1=i+2;omega)) (Ef 8 [o1,o1,o1,o1,o1,o1,o1,o0,o1,o0,o0,o0,o0,o0,o0,o0,o0] rfl (Ah (v:=iV (Aht b.fields d.of_)) rfl) (Ef 9 [o1,o1,o1,o1,o1,o1,o1,o0,o1,o1,o0,o0,o0,o0,o0,o0,o0] rfl (Ah (v:=iV (Dm (b.lots.take i) d.of_)) rfl) ?_))))))))));have aq:Val a8 (.agg #[iV (Aht b.fields d.of_),iV (Dm (b.lots.take i) d.of_)]) (⟨Aht b.fields d.of_,Dm (b.lots.take i) d.of_⟩:LSrc):=LSrc.shut (x:=(⟨Aht b.fields d.of_,Dm (b.lots.take i) d.of_⟩:LSrc)) (iC (Aht b.fields d.of_)) (iC (Dm (b.lots.take i) d.of_));refine Ef 10 [o1,o1,o1,o1,o1,o1,o1,o0,o1,o1,o1,o0,o0,o0,o0,o0,o0] rfl (Dn (ns:=[1,1]) (vs:=[(0,(iV (Aht b.fields d.of_))),(1,(iV (Dm (b.lots.take i) d.of_)))]) (zc:=Bqj) (cs:=[iV (Aht b.fields d.of_),iV (Dm (b.lots.take i) d.of_)]) Cdq Aur rfl ⟨ty3.2,ty3.2,trivial⟩ (EvB.map ⟨⟨rfl,rfl⟩,⟨rfl,rfl⟩,trivial⟩) ((Be (cs:=[iV (Aht b.fields d.of_)]) rfl rfl nL).trans ((Be (cs:=[iV (Dm (b.lots.take i) d.of_)]) rfl rfl nL).trans rfl))) (Ef 13 [o1,o1,o1,o1,o1,o1,o1,o0,o1,o1,o1,o0,o0,o1,o0,o0,o0] rfl (Ck rfl) (Ef 14 [o1,o1,o1,o1,o1,o1,o1,o0,o1,o1,o1,o0,o0,o1,o1,o0,o0] rfl (Cb Cdi rfl rfl Auj.2 (by decide) rfl rfl) (Acq (i:=7) (j:=11) [o1,o1,o1,o1,o1,o1,o1,o1,o1,o1,o1,o0,o0,o1,o1,o0,o0] [o1,o1,o1,o1,o1,o1,o1,o0,o1,o1,o1,o1,o0,o1,o1,o0,o0] rfl rfl (by kernel_rfl) rfl rfl rfl rfl ?_ ?_)))
   ·refine Dt (i:=0) (v:=au) Xd.1 rfl rfl af ⟨Cfb,?_⟩;refine Ma 11 [o1,o1,o1,o1,o1,o1,o1,o1,o1,o1,o1,o1,o0,o1,o1,o0,o0] rfl (Bi (α:=LSrc) (xs:=[(⟨Aht b.fields d.of_,Dm (b.lots.take i) d.of_⟩:LSrc)]) (vs:=[.agg #[iV (Aht b.fields d.of_),iV (Dm (b.lots.take i) d.of_)]]) Cdm Ano Aur rfl (by decide) (Dk (os:=[.tmp 49]) ⟨rfl,trivial⟩) ⟨aq,trivial⟩ rfl (by decide) fun ah b2 b0=>⟨Cfb,?_⟩);have ay:Grow a8 196 (.slice (some ⟨ah,0,none⟩) 1 1) ([(⟨Aht b.fields d.of_,Dm (b.lots.take i) d.of_⟩:LSrc)]:List LSrc) [(ah,oC b2.toArray 196)]:=Bs b0 rfl (by decide);refine Lr ay fun dj n c3=>?_;replace h:=Grow.mono n h;refine Ej (Cfa Asc) id (Ma 12 (zT 15 2) rfl (Gc (Z:=(e,oC ((a5::a6::a7)).toArray 192)::(T++Z)) (gr:=W) (xs:=(Vv b i).take k) (ys:=([(⟨Aht b.fields d.of_,Dm (b.lots.take i) d.of_⟩:LSrc)]:List LSrc)) Cdm Cdm (Ab Cee) rfl nL rfl rfl rfl rfl h c3 (by simp only[lZ3,lZ9,Nq,Jb];omega) fun c9 cv a9=>⟨n,?_⟩));refine Gh 15 (zT 16 1) rfl n rfl (Cq (k':=1) i Cdt Xd.2 rfl (q:=(i:Int)) rfl rfl (by omega) (off':=i+2) (by show 2+i*1=i+2;omega)) (Ej (Cfa Asd) id (Zd 16 (zT 17 0) rfl (Cz (j:=0) (v:=c9) Xd.2 rfl rfl (Grow.single a9) rfl (by simp only[lZ9];omega) ⟨n,?_⟩)));refine Ec rfl (kk ag ?_);refine Aj (Cfa (Bbw Ase)) (Aj (Cfa (Can Asc)) (Aj (Cfa (Ayg Asd)) ?_));obtain⟨aj,aw,b8⟩:=ae _ _ _ _ n a9;refine Aj (Z':=aj++Z) (Cfa (b8 _)) (qB (l_v (Br M rfl (z:=(((k+1):Nat):Int)) wrE) (Av (iV ((k+1):Nat)) (Ac ?_))));refine⟨_,?_,(k+1),aj,rfl,rfl,(Cfc (Cfc G O) n),rfl,C,D,E,YQ,ZQ,a0,a1,a2,rfl,(by omega),(Avk (congrArg (Prod.mk b) (Anc F a3 (by omega))) aw),trivial⟩;omega
   ·refine Bi (α:=LSrc) (xs:=[(⟨Aht b.fields d.of_,Dm (b.lots.take i) d.of_⟩:LSrc)]) (vs:=[.agg #[iV (Aht b.fields d.of_),iV (Dm (b.lots.take i) d.of_)]]) Cdm Ano Aur rfl (by decide) (Dk (os:=[.tmp 49]) ⟨rfl,trivial⟩) ⟨aq,trivial⟩ rfl (by decide) fun ai b3 b1=>⟨Cfb,?_⟩;have az:Grow a8 196 (.slice (some ⟨ai,0,none⟩) 1 1) ([(⟨Aht b.fields d.of_,Dm (b.lots.take i) d.of_⟩:LSrc)]:List LSrc) [(ai,oC b3.toArray 196)]:=Bs b1 rfl (by decide);refine Ej (Cfa Arz) id (Ma 7 [o1,o1,o1,o1,o1,o1,o1,o1,o1,o1,o1,o1,o0,o1,o1,o0,o0] rfl (Dt (i:=0) (v:=au) Xd.1 rfl rfl af ⟨Cfb,?_⟩));refine Ej (Cfa Arz) id (Lr az fun dk u c4=>?_);replace h:=Grow.mono u h;refine Ej (Cfa Asc) id (Ma 12 (zT 15 2) rfl (Gc (Z:=(e,oC ((a5::a6::a7)).toArray 192)::(T++Z)) (gr:=W) (xs:=(Vv b i).take k) (ys:=([(⟨Aht b.fields d.of_,Dm (b.lots.take i) d.of_⟩:LSrc)]:List LSrc)) Cdm Cdm (Ab Cee) rfl nL rfl rfl rfl rfl h c4 (by simp only[lZ3,lZ9,Nq,Jb];omega) fun ca cw aa=>⟨u,?_⟩));refine Gh 15 (zT 16 1) rfl u rfl (Cq (k':=1) i Cdt Xd.2 rfl (q:=(i:Int)) rfl rfl (by omega) (off':=i+2) (by show 2+i*1=i+2;omega)) (Ej (Cfa Asd) id (Zd 16 (zT 17 0) rfl (Cz (j:=0) (v:=ca) Xd.2 rfl rfl (Grow.single aa) rfl (by simp only[lZ9];omega) ⟨u,?_⟩)));refine Ec rfl (kk ag ?_);refine Aj (Cfa (Bbw Ase)) (Aj (Cfa (Can Asc)) (Aj (Cfa (Ayg Asd)) ?_));obtain⟨ak,ax,b9⟩:=ae _ _ _ _ u aa;refine Aj (Z':=ak++Z) (Cfa (b9 _)) (qB (l_v (Br M rfl (z:=(((k+1):Nat):Int)) wrE) (Av (iV ((k+1):Nat)) (Ac ?_))));refine⟨_,?_,(k+1),ak,rfl,rfl,(Cfc (Cfc G O) u),rfl,C,D,E,YQ,ZQ,a0,a1,a2,rfl,(by omega),(Avk (congrArg (Prod.mk b) (Anc F a3 (by omega))) ax),trivial⟩;omega
  have br:=lZ2 V;refine Bx (kk bf ?_);refine qB (l_v (Br a0 rfl (z:=(((i+1):Nat):Int)) wrE) (Av (iV ((i+1):Nat)) (Ac ?_)));refine⟨_,?_,(i+1),R,rfl,rfl,(Cfc (Cfc N a4) G),rfl,C,D,YQ,ZQ,rfl,(by omega),(Avk (by rw[Ayr F (by omega)]) K),trivial⟩;omega
 have bq:=lZ2 U;refine Bx (kk k7 ?_);refine Ai fun co bo=>Aun J fun dl bp c5=>qB (l_v (Ah (v:=pV e) ad) (Au (pV e) (l_k bo (Aq (ba ⟨Cfc (Cfc l2 N) bp,rfl,atE (p:=pV e) rfl (by rw[show frD b=⟨Pa b i 0⟩ from congrArg Fr8.mk (Bcd (by omega)).symm];exact c5)⟩)))))
end
section
def Fl(l:List LLot):List ByteArray:=l.map LLot.name
def Sn(s:ByteArray):List LPart->Int
 | []=>0
 | p::l=>(if s=p.of_ then p.grams else 0)+Sn s l
def tkO(s:ByteArray):List LLot->Int
 | []=>0
 | x::l=>Sn s x.parts+tkO s l
theorem Aiz{f:Iz}{k:ByteArray}{z:Int}:Qp f k z k=some z:=by simp[Qp]
theorem Aeg{f:Iz}{k s:ByteArray}{z:Int}(h:s≠k):Qp f k z s=f s:=by simp[Qp,h]
theorem Aiu:∀{l:List ByteArray} {f:Iz} {s:ByteArray},s∉l->(l.foldl (fun f s=>Qp f s (-1)) f) s=f s
 | [],f,s,_=>rfl
 | a::l,f,s,h=>by
  simp only[lZ7,not_or]at h;rw[Axe,Aiu h.2,Aeg h.1]
theorem Adm:∀{l:List ByteArray} {f:Iz} {s:ByteArray},s∈l->(l.foldl (fun f s=>Qp f s (-1)) f) s=some (-1)
 | a::l,f,s,h=>by
  rw[Axe];by_cases hl:s∈l
  ·exact Adm hl
  ·have ha:s=a:=(lZ7.1 h).resolve_right hl;rw[Aiu hl,ha,Aiz]
theorem Aiw:∀{l:List LLot} {f:Iz} {s:ByteArray},s∉Fl l->Ix f l s=f s
 | [],f,s,_=>rfl
 | x::l,f,s,h=>by
  simp only[Fl,Je,lZ7,not_or]at h;show Ix (Qp f x.name (Eo x)) l s=f s;rw[Aiw h.2,Aeg h.1]
theorem Bnh{f:Iz}{A B:List LLot}:Ix f (A++B)=Ix (Ix f A) B:=by unfold Ix;rw[Axd]
theorem Axl{A B:List LLot}{x:LLot}{f:Iz}(h:x.name∉Fl B):Ix f (A++x::B) x.name=some (Eo x):=by rw[Bnh];show Ix (Qp (Ix f A) x.name (Eo x)) B x.name=_;rw[Aiw h,Aiz]
theorem Agc:∀{l:List LLot} {f:Iz} {s:ByteArray},(Ix f l s).isSome=true->(f s).isSome=true∨s∈Fl l
 | [],f,s,h=>.inl h
 | x::l,f,s,h=>by
  by_cases hx:s=x.name
  ·exact .inr (by simp[Fl,hx])
  ·rcases Agc (l:=l) (f:=Qp f x.name (Eo x)) h with h1|h1
   ·rw[Aeg hx]at h1;exact .inl h1
   ·exact .inr (by simp only[Fl,Je,lZ7];exact .inr h1)
theorem Aqo{l:List LLot}{f:Iz}{s:ByteArray}(h:(Ix f l s).isSome=false):s∉Fl l/\(f s).isSome=false:=by
 have a:s∉Fl l:=fun hm=>by
  have key:∀{l:List LLot} {f:Iz},(s∈Fl l∨(f s).isSome=true)->(Ix f l s).isSome=true:=by
   intro l;induction l with
   | nil=>intro f h;exact h.resolve_left (by simp[Fl])
   | cons x l ih =>
    intro f h;show (Ix (Qp f x.name (Eo x)) l s).isSome=true;apply ih;by_cases hx:s=x.name
    ·right;rw[hx,Aiz];rfl
    ·rw[Aeg hx];rcases h with h|h
     ·left;simp only[Fl,Je,lZ7]at h;exact h.resolve_left hx
     ·exact .inr h
  rw[key (.inl hm)]at h;cases h
 exact⟨a,by rw[Aiw a]at h;exact h⟩
theorem Ajc:∀{l:List LPart} {t:Iz} {s:ByteArray},(tkP t l s).getD 0=(t s).getD 0+Sn s l
 | [],t,s=>by simp[tkP,Sn]
 | p::l,t,s=>by
  show (tkP (Qp t p.of_ ((t p.of_).getD 0+p.grams)) l s).getD 0=_;rw[Ajc,Sn];by_cases h:s=p.of_
  ·rw[if_pos h,h,Aiz];simp;omega
  ·rw[Aeg h,if_neg h];omega
theorem Auf:∀{l:List LLot} {t:Iz} {s:ByteArray},((l.foldl (fun f x=>tkP f x.parts) t) s).getD 0=(t s).getD 0+tkO s l
 | [],t,s=>by simp[tkO]
 | x::l,t,s=>by rw[Axe,Auf,Ajc,tkO];omega
theorem Bfj{l:List LPart}{s:ByteArray}(h:Ib l s=false):∀q∈l,q.of_≠s:=fun q hq e=>by
 unfold Ib at h;rw[Bdx]at h;exact h q hq (by rw[e];simp)
structure LotsOk(b:LBook):Prop where
 nf:b.fields.length<=5
 nl:b.lots.length<=8
 fnm:∀i s,b.fields[i]?=some s->Hg s=true/\s∉b.fields.take i
 lnm:∀i x,b.lots[i]?=some x->Hg x.name=true/\x.name∉b.fields/\x.name∉Fl (b.lots.take i)/\1<=x.parts.length/\x.parts.length<=6
 prt:∀i x k p,b.lots[i]?=some x->x.parts[k]?=some p->(p.of_∈b.fields∨p.of_∈Fl (b.lots.take i))/\(∀q∈x.parts.take k,q.of_≠p.of_)/\1<=p.grams/\p.grams<=100000 /\
  ∀A y B,b.lots.take i=A++y::B->y.name∉Fl B->y.name=p.of_->0<=Eo y->tkO p.of_ (b.lots.take i)+Sn p.of_ (x.parts.take k)+p.grams<=Eo y
theorem Btn{m t:Iz}{ps:List LPart}{p:LPart}(h:Sg m t ps p=0):(m p.of_).isSome=true/\Ib ps p.of_=false/\inR p.grams 1 100000=true/\¬(0<=(m p.of_).getD 0/\(m p.of_).getD 0<(tkP t ps p.of_).getD 0+p.grams):=by
 unfold Sg at h;split at h
 ·cases h
 ·split at h
  ·cases h
  ·split at h
   ·cases h
   ·split at h
    ·cases h
    ·rename_i h1 h2 h3 h4;refine⟨?_,by simpa using h2,by simpa using h3,h4⟩;cases hm:m p.of_ with
     | none=>rw[hm]at h1;exact absurd rfl h1
     | some z=>rfl
theorem Bng{m t:Iz}{x:LLot}(h:Afx m t x=0):Hg x.name=true/\(m x.name).isSome=false/\inR x.parts.length 1 6=true/\Hv m t x=0:=by
 unfold Afx at h;split at h
 ·cases h
 ·split at h
  ·cases h
  ·split at h
   ·cases h
   ·rename_i h1 h2 h3;exact⟨by simpa using h1,by simpa using h2,by simpa using h3,h⟩
theorem Tp{b:LBook}(h:Hd b=0):LotsOk b:=by
 unfold Hd at h;split at h
 ·cases h
 ·rename_i h5;have hf:Hl b.fields.length (Jp b.fields)=0:=by
   unfold orF at h;split at h
   ·assumption
   ·rename_i hn;exact absurd h hn
  rw[Gr hf]at h;split at h
  ·cases h
  ·rename_i h8;have hF:=Fx.1 hf;have hL:=Fx.1 h;refine⟨by omega,by omega,fun i s hs=>?_,fun i x hx=>?_,fun i x k p hx hp=>?_⟩
   ·have a:=hF i (lZ4.1 hs).1;unfold Jp at a;rw[hs]at a;simp only at a;unfold Sc at a;split at a
    ·rename_i hn;split at a
     ·cases a
     ·rename_i hi;refine⟨hn,fun hm=>hi ?_⟩;unfold Ic;rw[Adm hm];rfl
    ·cases a
   ·have a:=hL i (lZ4.1 hx).1;unfold Nr at a;rw[hx]at a;obtain⟨g,j,m,_⟩:=Bng a;obtain⟨n,c⟩:=Aqo j;have e:=Fz.1 m;refine⟨g,fun hm=>?_,n,by omega,by omega⟩;unfold Ic at c;rw[Adm hm]at c;cases c
   ·have a:=hL i (lZ4.1 hx).1;unfold Nr at a;rw[hx]at a;obtain⟨_,_,_,e⟩:=Bng a;have d:=Fx.1 e k (lZ4.1 hp).1;unfold Agq at d;rw[hp]at d;obtain⟨q,t,u,f⟩:=Btn d;have z:=Fz.1 u;refine⟨?_,Bfj t,by omega,by omega,fun A y B hA hB hy hm=>?_⟩
    ·rcases Agc q with h3|h3
     ·left;unfold Ic at h3;by_cases hm:p.of_∈b.fields
      ·exact hm
      ·rw[Aiu hm]at h3;cases h3
     ·exact .inr h3
    ·have v:Ix (Ic b.fields) (b.lots.take i) p.of_=some (Eo y):=by rw[hA,<-hy];exact Axl hB
     have w:(tkP (tkM (b.lots.take i)) (x.parts.take k) p.of_).getD 0=tkO p.of_ (b.lots.take i)+Sn p.of_ (x.parts.take k):=by
      rw[Ajc];unfold tkM;rw[Auf];simp[Ams]
     rw[v,w]at f;simp only[Amb]at f;omega
end
section
theorem toList_eq{a b:ByteArray}(h:a.toList=b.toList):a=b:=by rw[ByteArray.toList_eq,ByteArray.toList_eq]at h;exact ByteArray.ext (Bms.1 h)
theorem Qg{l:List ByteArray}{s:ByteArray}:0<=Aht l s↔s∈l:=by
 have h:=Yl (l:=l) (s:=s);unfold inL at h;rw[Aqc]at h;constructor
 ·intro b;obtain⟨x,hx,hs⟩:=h.1 b;rw[toList_eq (eq_of_beq hs)];exact hx
 ·intro b;exact h.2 ⟨s,b,by simp⟩
theorem Avw{l:List ByteArray}{s:ByteArray}{j:Nat}(h:l[j]?=some s)(hd:s∉l.take j):Aht l s=(j:Int):=by have hl:j<l.length:=(lZ4.1 h).1;unfold Aht;rw[Fh (i:=j) (fun i hi=>?_) hl (by unfold Xi;rw[h];simp)];unfold Xi;have hi':l[i]?=some l[i]:=Qj (by omega);rw[hi'];refine beq_eq_false_iff_ne.2 fun e=>hd ?_;rw[<-toList_eq e];exact lZ5 (i:=i) (by rw[Afp hi,hi'])
theorem Adg{l:List ByteArray}{s:ByteArray}(h:0<=Aht l s):l[(Aht l s).toNat]?=some s:=by
 unfold Aht at h ⊢;rcases Ft (n:=l.length) (p:=Xi l s) with⟨i,hi,hp,_,he⟩|⟨b,he⟩
 ·rw[he];simp only[Afr];unfold Xi at hp;cases hx:l[i]? with
  | none=>rw[hx]at hp;cases hp
  | some x=>rw[hx]at hp;rw[toList_eq (eq_of_beq hp)]
 ·rw[he]at h;simp at h
theorem Aca{b:LBook}:∀{l:List LLot} {i:Nat} {A B:List Mv} {m:Mv},Va b i l=A++m::B ->
  ∃j x k p,l[j]?=some x/\x.parts[k]?=some p/\A=Va b i (l.take j)++Mf b (i+j) (x.parts.take k)/\m=Oe b (i+j) p
 | [],i,A,B,m,h=>by simp[Va]at h
 | x::l,i,A,B,m,h=>by
  rw[Va]at h;have first:∀C,Mf b i x.parts=A++m::C->∃j y k p,(x::l)[j]?=some y/\y.parts[k]?=some p/\A=Va b i ((x::l).take j)++Mf b (i+j) (y.parts.take k)/\m=Oe b (i+j) p:=fun C hC=>by
   have hk:(Mf b i x.parts)[A.length]?=some m:=by rw[hC];simp
   unfold Mf at hk hC;rw[Oz]at hk;cases hp:x.parts[A.length]? with
   | none=>rw[hp]at hk;cases hk
   | some p =>
    rw[hp]at hk;refine⟨0,x,A.length,p,rfl,hp,?_,(Option.some.inj hk).symm⟩;have:=congrArg (List.take A.length) hC;rw[<-Bee,Aqh]at this;show A=[]++Mf b (i+0) (x.parts.take A.length);rw[Abs];exact this.symm
  rcases List.append_eq_append_iff.1 h with⟨C,d,a⟩|⟨C,d,a⟩
  ·obtain⟨j,y,k,p,e,f,g,n⟩:=Aca a;refine⟨j+1,y,k,p,e,f,?_,by rw[n,show i+1+j=i+(j+1) by omega]⟩;rw[d,g,List.take_succ_cons,Va,Gv,show i+1+j=i+(j+1) by omega]
  ·cases C with
   | nil =>
    simp only[Tb]at d;simp only[Abs]at a;obtain⟨j,y,k,p,e,f,g,n⟩:=Aca (A:=[]) a.symm;refine⟨j+1,y,k,p,e,f,?_,by rw[n,show i+1+j=i+(j+1) by omega]⟩;rw[List.take_succ_cons,Va,Gv,show i+(j+1)=i+1+j by omega,<-g,Tb,d]
   | cons c C =>
    simp only[Sz,List.cons.injEq]at a;exact first C (by rw[d,a.1])
theorem Bwx{b:LBook}{i j:Nat}:∀{ps:List LPart},Ym j (Mf b i ps)=if i=j then Xc ps else 0
 | []=>by simp[Mf,Ym,Xc]
 | p::ps=>by
  have:=Bwx (b:=b) (i:=i) (j:=j) (ps:=ps);unfold Mf at this ⊢;rw[Je,Ym,this];by_cases h:i=j
  ·simp[h,Oe,Xc]
  ·simp[h,Oe]
theorem Bww{b:LBook}{j:Nat}:∀{l:List LLot} {i:Nat},Ym j (Va b i l)=if i<=j then (match l[j-i]? with|some x=>Eo x|none=>0) else 0
 | [],i=>by simp[Va,Ym]
 | x::l,i=>by
  rw[Va,Axo,Bwx,Bww];rcases Bmr i j with h|h|h
  ·rw[if_neg (by omega),if_pos (by omega),if_pos (by omega),show j-i=(j-(i+1))+1 by omega,Xr];omega
  ·subst h;rw[if_pos rfl,if_neg (by omega),if_pos (Ii _),Alx];simp[Eo]
  ·rw[if_neg (by omega),if_neg (by omega),if_neg (by omega)];rfl
section
variable{b:LBook}(ok:LotsOk b)
theorem Rh{i:Nat}{p:LPart}:0<=(Gn b i p).field↔p.of_∈b.fields:=Qg
theorem Buj(ok:LotsOk b){i j:Nat}{p:LPart}{y:LLot}(hy:b.lots[j]?=some y)(hji:j<i)(hs:(p.of_∈b.fields∨p.of_∈Fl (b.lots.take i))) :
  ((Oe b i p).fld=false/\(Oe b i p).src=j)↔p.of_=y.name:=by
 obtain⟨_,m,g,_⟩:=ok.lnm j y hy;have hti:(b.lots.take i)[j]?=some y:=by rw[Afp hji];exact hy
 have hnj:(Fl (b.lots.take i))[j]?=some y.name:=by unfold Fl;rw[Oz,hti];rfl
 have hnt:y.name∉(Fl (b.lots.take i)).take j:=by
  unfold Fl at g ⊢;rw[<-Bee,List.take_take,Als (by omega)];exact g
 constructor
 ·rintro⟨d,e⟩;have f:p.of_∉b.fields:=fun hm=>by
   unfold Oe at d;simp only[decide_eq_false_iff_not]at d;exact d (Rh.2 hm)
  have k:p.of_∈Fl (b.lots.take i):=hs.resolve_left f;have a:¬0<=(Gn b i p).field:=fun h=>f (Rh.1 h);unfold Oe at e;simp only[if_neg a]at e;have c:(Fl (b.lots.take i))[(Gn b i p).lot.toNat]?=some p.of_:=Adg (Qg.2 k);rw[e,hnj]at c;exact(Option.some.inj c).symm
 ·intro he;have a:¬0<=(Gn b i p).field:=fun h=>m (he ▸ Rh.1 h);have c:(Gn b i p).lot=(j:Int):=by
   show Aht (Fl (b.lots.take i)) p.of_=_;rw[he];exact Avw hnj hnt
  unfold Oe;simp only[decide_eq_false_iff_not,if_neg a,c,Afr];exact⟨a,trivial⟩
end
end
section
theorem Avq{α:Type}{l:List α}{i:Nat}{x:α}(h:l[i]?=some x):l.drop i=x::l.drop (i+1):=by have hl:=(lZ4.1 h).1;rw[Aol hl];congr 1;exact(lZ4.1 h).2
section
variable{b:LBook}
theorem Bpp{i:Nat}{p:LPart}(h:(Oe b i p).fld=false)(hs:p.of_∈b.fields∨p.of_∈Fl (b.lots.take i)):(Oe b i p).src<i/\(Oe b i p).src<b.lots.length:=by
 have c:¬0<=(Gn b i p).field:=fun hh=>by
  unfold Oe at h;simp only[decide_eq_false_iff_not]at h;exact h hh
 have e:p.of_∉b.fields:=fun hm=>c (Rh.2 hm);have f:(Fl (b.lots.take i))[(Gn b i p).lot.toNat]?=some p.of_:=Adg (Qg.2 (hs.resolve_left e));have d:=(lZ4.1 f).1;unfold Fl at d;rw[Uu,Jb]at d;unfold Oe;simp only[if_neg c];omega
theorem Ayz(ok:LotsOk b){i j:Nat}{p:LPart}{y:LLot}(hy:b.lots[j]?=some y)(hs:p.of_∈b.fields∨p.of_∈Fl (b.lots.take i)):((Oe b i p).fld=false/\(Oe b i p).src=j)↔p.of_=y.name:=by
 rcases Re j i with h|h
 ·exact Buj ok hy h hs
 ·constructor
  ·rintro⟨a,f⟩;have:=(Bpp a hs).1;omega
  ·intro he;exfalso;obtain⟨_,c,d,_⟩:=ok.lnm j y hy;rcases hs with hs|hs
   ·exact c (he ▸ hs)
   ·rw[he]at hs;refine d ?_;unfold Fl at hs ⊢;have e:(b.lots.take i)=(b.lots.take j).take i:=by rw[List.take_take,Als h]
    rw[e,Bee]at hs;exact Bdp hs
theorem Bol(ok:LotsOk b){i j:Nat}{y:LLot}(hy:b.lots[j]?=some y):∀{ps:List LPart},(∀p∈ps,p.of_∈b.fields∨p.of_∈Fl (b.lots.take i))->Yo j (Mf b i ps)=Sn y.name ps
 | [],_=>rfl
 | p::ps,h=>by
  have ih:=Bol ok hy (ps:=ps) fun q hq=>h q (lZ0 _ hq);have hn:=Ayz ok hy (h p mC);unfold Mf at ih ⊢;rw[Je,Yo,Sn,ih];by_cases hc:p.of_=y.name
  ·rw[if_pos (hn.2 hc),if_pos hc.symm];rfl
  ·rw[if_neg (fun hh=>hc (hn.1 hh)),if_neg (fun hh=>hc hh.symm)]
theorem Amw(ok:LotsOk b){i:Nat}{x:LLot}(hx:b.lots[i]?=some x):∀p∈x.parts,p.of_∈b.fields∨p.of_∈Fl (b.lots.take i):=fun p hp=>by
 obtain⟨k,hk⟩:=Sr hp;exact(ok.prt i x k p hx hk).1
theorem Bvk(ok:LotsOk b){j:Nat}{y:LLot}(hy:b.lots[j]?=some y):∀{l:List LLot} {i:Nat},(∀(t:Nat) (x:LLot),l[t]?=some x->b.lots[i+t]?=some x)->Yo j (Va b i l)=tkO y.name l
 | [],i,_=>rfl
 | x::l,i,h=>by
  rw[Va,Aqs,tkO,Bol ok hy (Amw ok (show b.lots[i]?=some x from h 0 x rfl)),Bvk ok hy fun t z hz=>by rw[show i+1+t=i+(t+1) by omega];exact h (t+1) z hz]
theorem Pq(ok:LotsOk b){i:Nat}{x:LLot}(hx:b.lots[i]?=some x):0<=Eo x/\Eo x<=600000:=by
 have:=Wj (l:=x.parts) fun p hp=>by
  obtain⟨k,hk⟩:=Sr hp;have:=ok.prt i x k p hx hk;exact⟨this.2.2.1,this.2.2.2.1⟩
 have a:=(ok.lnm i x hx).2.2.2.2;unfold Eo;omega
theorem Bxf(ok:LotsOk b)(A:List Mv)(m:Mv)(B:List Mv)(h:mvs b=A++m::B):Cbv b.lots.length b.fields.length A m:=by
 obtain⟨j,x,k,p,a,v,d,e⟩:=Aca h;rw[Te]at d e;have hj:=(lZ4.1 a).1;obtain⟨c,F,G,H,u⟩:=ok.prt j x k p a v;have htk:∀q∈x.parts.take k,q.of_∈b.fields∨q.of_∈Fl (b.lots.take j):=fun q hq=>Amw ok a q (Bdp hq);subst e;refine⟨hj,by show 0<=p.grams;omega,?_⟩;cases hf:(Oe b j p).fld with
 | true =>
  rw[if_pos rfl];have f:0<=(Gn b j p).field:=by unfold Oe at hf;simpa using hf
  have w:b.fields[(Gn b j p).field.toNat]?=some p.of_:=Adg f;have C:=(lZ4.1 w).1;unfold Oe;simp only[if_pos f];exact C
 | false =>
  rw[if_neg (by simp)];obtain⟨g,n⟩:=Bpp hf c;have hy:b.lots[(Oe b j p).src]?=some b.lots[(Oe b j p).src]:=Qj n;generalize hyy:b.lots[(Oe b j p).src]=y at hy;have hn:=(Ayz ok hy c).1 ⟨hf,rfl⟩;refine⟨n,by show _≠j;omega,?_⟩;have ht:∀(t:Nat) (z:LLot),(b.lots.take j)[t]?=some z->b.lots[0+t]?=some z:=fun t z hz=>by
   rw[Te];have:=(lZ4.1 hz).1;rw[Jb]at this;rw[Afp (by omega)]at hz;exact hz
  rw[d,Aqs,Axo,Bvk ok hy ht,Bol ok hy htk,Bwx,Bww,if_neg (by omega:¬j=(Oe b j p).src),if_pos (Hr _),Bej,Afp g,hy];have hty:(b.lots.take j)[(Oe b j p).src]?=some y:=by rw[Afp g];exact hy
  have D:b.lots.take j=(b.lots.take j).take (Oe b j p).src++y::(b.lots.take j).drop ((Oe b j p).src+1):=by rw[<-Avq hty,Aig]
  have:=u _ y _ D (fun hm=>?_) hn.symm (Pq ok hy).1
  ·rw[hn]at this;show tkO y.name (b.lots.take j)+Sn y.name (x.parts.take k)+p.grams<=Eo y+0;omega
  ·unfold Fl at hm;obtain⟨z,hz,hzn⟩:=Iq.1 hm;obtain⟨t,ht'⟩:=Sr hz;rw[Ama]at ht';have hlt:=(lZ4.1 ht').1;rw[Jb]at hlt;rw[Afp (by omega)]at ht';have E:=(ok.lnm _ z ht').2.2.1;refine E ?_;rw[hzn];unfold Fl;exact Iq.2 ⟨y,lZ5 (i:=(Oe b j p).src) (by rw[Afp (by omega)];exact hy),rfl⟩
end
end
section
def Hx(b:LBook)(F k:Nat):Nat:=Bag (Bu b F) b.lots.length k
def Cw(b:LBook)(F k:Nat):Int:=Bu b F (Hx b F k)
def Qa(N F:Nat):Nat:=(2^N-1) ^^^ ((2^N-1) &&& F)
theorem Btm{N F j:Nat}:(Qa N F).testBit j=(decide (j<N) && !F.testBit j):=by unfold Qa;rw[Nat.testBit_xor,Nat.testBit_and,Nat.testBit_two_pow_sub_one];cases F.testBit j<;>by_cases h:j<N<;>simp[h]
theorem Bko{F C:Nat->Bool}{k:Nat}(hC:∀j,C j=true->j=k):∀{M:List Mv},(∀m∈M,0<=m.g)->Mi F C M<=Ym k M
 | [],_=>Abx _
 | m::M,h=>by
  have ih:=Bko (F:=F) hC (M:=M) fun x hx=>h x (lZ0 _ hx);have a:=h m mC;rw[Mi,Ym];cases he:Ate F C m with
  | false=>simp only[Aii,if_false];split<;>omega
  | true =>
   have:C m.dst=true:=by unfold Ate at he;simp only[Oc]at he;exact he.1
   rw[if_pos (hC _ this)];simp only[if_true];omega
section
variable{b:LBook}{k:Nat}{x:LLot}
theorem Amo(ok:LotsOk b):∀m∈mvs b,0<=m.g:=fun m hm=>by
 obtain⟨A,B,h⟩:=Bmm hm;exact(Bxf ok A m B h).2.1
theorem Ado(ok:LotsOk b)(F C:Nat):0<=Bu b F C:=Ahg (Amo ok)
theorem Aqr(hx:b.lots[k]?=some x)(F:Nat):(Hx b F k).testBit k=true/\Hx b F k<2^b.lots.length :=
 let h:=(Zj (g:=Bu b F) (lZ4.1 hx).1).1
 ⟨h.2,h.1⟩
theorem Bbo(hx:b.lots[k]?=some x){F D:Nat}(hD:D<2^b.lots.length)(hk:D.testBit k=true) :
  Cw b F k<=Bu b F D/\(Bu b F D=Cw b F k->(elems (Hx b F k)).length<=(elems D).length):=by have h:=Ajl.1 ((Zj (g:=Bu b F) (lZ4.1 hx).1).2 D hD hk);exact⟨h.1,fun e=>(h.2 e).1⟩
theorem Zs(ok:LotsOk b)(hx:b.lots[k]?=some x)(F:Nat):0<=Cw b F k/\Cw b F k<=Eo x:=by
 have hk:=(lZ4.1 hx).1;refine⟨Ado ok F _,?_⟩;have a:=(Bbo hx (F:=F) (D:=1 <<< k) (by rw[Aon];exact Bdq (by omega) hk) (by rw[Acu];simp)).1;have c:Bu b F (1 <<< k)<=Ym k (mvs b):=Bko (fun j hj=>by rw[Acu]at hj;exact(lZ1 hj).symm) (Amo ok);have d:Ym k (mvs b)=Eo x:=by
  unfold mvs;rw[Bww,if_pos (Hr _),Bej,hx]
 omega
end
end
section
theorem bt1{x i:Nat}:((((x>>>i) &&& 1:Nat):Int)==1)=x.testBit i:=Pz x i
theorem bt0{x i:Nat}:((((x>>>i) &&& 1:Nat):Int)==0) = !x.testBit i:=by rw[<-bt1];have h:x>>>i &&& 1<2:=Bdv Nat.and_le_right (by omega);rcases (show x>>>i &&& 1=0∨x>>>i &&& 1=1 by omega) with h|h<;>rw[h]<;>rfl
theorem Bys{α β:Type}{l:List α}{k:Nat}{a:α}{f:α->β}{z:β}(h:l[k]?=some a)(hz:(l.map f)[k]?=some z):f a=z:=by rw[Oz,h]at hz;exact Option.some.inj hz
theorem Bde{l:List ByteArray}{s:ByteArray}:-1<=Aht l s:=by unfold Aht;split<;>omega
section
variable{b:LBook}{i k F C:Nat}{x:LLot}{p:LPart}
theorem Bvl(ok:LotsOk b)(h:0<=(Gn b i p).field):(Gn b i p).lot = -1:=by
 have a:=Rh.1 h;have d:-1<=(Gn b i p).lot:=Bde;rcases (show (Gn b i p).lot = -1∨0<=(Gn b i p).lot by omega) with h3|h3
 ·exact h3
 ·exfalso;have c:p.of_∈(b.lots.take i).map LLot.name:=Qg.1 h3;obtain⟨y,hy,he⟩:=Iq.1 c;obtain⟨j,hj⟩:=Sr (Bdp hy);exact(ok.lnm j y hj).2.1 (he ▸ a)
theorem Bpo(ok:LotsOk b)(hx:b.lots[i]?=some x)(hp:x.parts[k]?=some p)(h:¬(Gn b i p).field>=0):0<=(Gn b i p).lot:=by
 rcases Amw ok hx p (lZ5 hp) with h1|h1
 ·exact absurd (Rh.2 h1) h
 ·exact Qg.2 h1
theorem Buy(hp:x.parts[k]?=some p)(hC:C.testBit i=true)(h:(Gn b i p).field>=0)(hF:F.testBit (Gn b i p).field.toNat=true) :
  Mi F.testBit C.testBit (Mf b i (x.parts.take (k+1)))=Mi F.testBit C.testBit (Mf b i (x.parts.take k))+p.grams:=by rw[Zu hp,Ue,Adb,if_pos (by simp[Ate,Oe,hC,h,hF])];rfl
theorem Buw(hp:x.parts[k]?=some p)(h:(Gn b i p).field>=0)(hF:F.testBit (Gn b i p).field.toNat=false) :
  Mi F.testBit C.testBit (Mf b i (x.parts.take (k+1)))=Mi F.testBit C.testBit (Mf b i (x.parts.take k)):=by rw[Zu hp,Ue,Adb,if_neg (by simp[Ate,Oe,h,hF])];omega
theorem Buz(hp:x.parts[k]?=some p)(hC:C.testBit i=true)(h:¬(Gn b i p).field>=0)(hF:C.testBit (Gn b i p).lot.toNat=false) :
  Mi F.testBit C.testBit (Mf b i (x.parts.take (k+1)))=Mi F.testBit C.testBit (Mf b i (x.parts.take k))+p.grams:=by have h':¬0<=(Gn b i p).field:=h;rw[Zu hp,Ue,Adb,if_pos (by simp only[Ate,Oe,hC,Px h',if_neg h',hF];rfl)];rfl
theorem Bux(hp:x.parts[k]?=some p)(h:¬(Gn b i p).field>=0)(hF:C.testBit (Gn b i p).lot.toNat=true) :
  Mi F.testBit C.testBit (Mf b i (x.parts.take (k+1)))=Mi F.testBit C.testBit (Mf b i (x.parts.take k)):=by have h':¬0<=(Gn b i p).field:=h;rw[Zu hp,Ue,Adb,if_neg (by simp[Ate,Oe,h',hF])];omega
theorem Beq{n:Nat}(h:b.lots.length<=n):Axq b n=mvs b:=by unfold Axq mvs;rw[Aom h]
theorem Bns{n:Nat}(h:x.parts.length<=n):Mf b i (x.parts.take n)=Mf b i x.parts:=by rw[Aom h]
end
theorem Aru{p q:Nat}(hp:p<2^63):Op.intBits .andNot .u64 p q=pure (.int .u64 ((p ^^^ (p &&& q):Nat):Int)):=by
 simp only[Op.intBits];congr 2;have c:p ^^^ (p &&& q)<2^63:=Nat.xor_lt_two_pow hp (Bdv Aop hp);have:(BitVec.ofInt IntKind.u64.bits p &&& ~~~ BitVec.ofInt IntKind.u64.bits q).toNat=p ^^^ (p &&& q):=by
  show (BitVec.ofInt 64 p &&& ~~~ BitVec.ofInt 64 q).toNat=_;apply Awm;intro i;rw[BitVec.testBit_toNat,BitVec.getLsbD_and,BitVec.getLsbD_not,Nat.testBit_xor,Nat.testBit_and];by_cases hi:i<64
  ·have a:(BitVec.ofInt 64 (p:Int)).getLsbD i=p.testBit i:=by
    rw[<-BitVec.testBit_toNat,BitVec.toNat_ofInt];have a:((p:Int)%(2^64:Nat)).toNat=p:=by omega
    rw[a]
   have b:(BitVec.ofInt 64 (q:Int)).getLsbD i=q.testBit i:=by
    rw[<-BitVec.testBit_toNat,BitVec.toNat_ofInt];have a:((q:Int)%(2^64:Nat)).toNat=q%2^64:=by omega
    rw[a,Bma];simp[hi]
   rw[a,b];cases p.testBit i<;>cases q.testBit i<;>simp[hi]
  ·have:p.testBit i=false:=Bmb (Nn hp (Aih (by omega) (by omega)));rw[this];simp[hi]
 rw[this];show ((p ^^^ (p &&& q):Nat):Int)%_=_;simp only[IntKind.bits];omega
theorem Bjj{P:Program}{Y:Ro}{e:Env}{ty t t':TypeId}{x y:Operand}{p q:Nat}(hx:Af e x = .int .u64 p)(hy:Af e y = .int .u64 q)(hp:p<2^63):Yld P Y e (.binOp .andNot t x y t') ty (.int .u64 ((p ^^^ (p &&& q):Nat):Int)) :=
 La hx hy Dh (by simp only[binOp];rw[if_neg (by simp)];exact Aru hp)
end
section
variable{mn:Bool}{X:Frame->List Frame->Ro->Own->Cy->Prop}{Y:Ro}{Z:Own}
theorem Acx{b:LBook}{F C:Nat}{vc:Value}(ok:LotsOk b)(hc:At Y vc (⟨b,frD b⟩:Cel))(hF:F<2^63)(hC:C<2^63):CallsH (CX mn X) 55 #[vc,.int .u64 (F:Int),.int .u64 (C:Int)] Y Z (rP Y Z (iV (Bu b F C))):=by
 have hnl:=ok.nl;refine Bq 77 [6] Cej rfl fun Q av co=>qA fun K1 k1=>Au (iV 0) (qC k1 fun K2 k2=>Au (iV 0) (qE k2 fun K3 K4 k3 k4=>Av vc (l_v (Hj rfl hc) (Arw (Ba Cel.f_b Cdi rfl Gt hc) fun v5 r5=>Arw (Ba LBook.f_lots Cct rfl Dy r5) fun v6 r6=>Arw (Ax Dy rfl r6) fun v7 r7=>?_))));have g8:=Val.len r7;refine l_v (Ci (el:=51) Ccw rfl r7) (Av (iV 0) (l_k k4 (Ao (Cc (fun mm ee dd Y' Z'=>∃(i:Nat) (g:Int),(b.lots.length-i)=mm/\[]=dd/\Y=Y'/\Z=Z'/\ee 0=vc/\ee 1=(.int .u64 (F:Int))/\ee 2=(.int .u64 (C:Int))/\ee 17=v7/\ee 18=(iV (b.lots.length:Int))/\ee 7=iV g/\ee 19=iV i/\(i<=b.lots.length)/\(g=Mi F.testBit C.testBit (Axq b i))/\(0<=g/\g<=600000*(i:Int))/\True) (m:=_) ⟨0,0,rfl,rfl,rfl,rfl,rfl,rfl,rfl,rfl,rfl,rfl,rfl,Hr _,rfl,⟨by omega,by omega⟩,trivial⟩ ?_))));rintro m9 e9 _ _ _ ⟨i,g,rfl,rfl,rfl,rfl,a8,a9,a2,a0,a1,a3,O,d1,a6,d2,_⟩;refine qA fun bp aw=>l_v (Da O a1) (Asa aw fun bq ax=>Bp (t:=decide ((i:Int)<(b.lots.length:Int))) rfl (fun YQ=>?_) (fun YQ=>?_))
 ·have b7:=lZ1 YQ;refine Al (kk ax ?_);refine Ai fun br ac=>Ao (qA fun bt ay=>l_v (Ah (v:=iV i) O) ?_);obtain⟨h,u⟩:=Ed (xs:=b.lots) (i:=i) (by first|omega|(rw[Uu];omega));have cn:=(ok.lnm _ _ u).2.2.2.2;refine Arw (Ch i Ccw Gk a0 r7 (q:=(i:Int)) O rfl u) fun d3 bc=>Arw (Ax Gk rfl bc) fun bk ad=>Arv (Ct Auq fun cu=>?_);refine Au (iV i) (Cx rfl (Dv (v:=bk) (a:=h) (c:=Aup) Gk rfl rfl ad rfl ?_));refine Bb (a:=h) ad fun bo a5 bd=>?_;replace hc:=At.mono a5 hc;refine qE ay fun bu bv az b0=>l_v (Ah (v:=.int .u64 (C:Int)) a2) (Av (iV i) (l_v (Lc (p:=C) (q:=i) rfl rfl rfl (by omega)) (l_v (Nv (p:=C>>>i) (q:=1) rfl rfl (Nl (by omega))) (l_v (Ek rfl rfl) (l_k b0 (Bp (t:=((((C>>>i) &&& 1):Nat):Int)==0) rfl (fun E=>?_) (fun E=>?_)))))))
  ·have an:=not_eq_t (bt0.symm.trans E);have b8:=Jr E;refine Bx (kk ac ?_);refine qB (l_v (Br O rfl (z:=(((i+1):Nat):Int)) wrE) (Av (iV ((i+1):Nat)) (Bj (Cez a5) (Ac ?_))));refine⟨_,?_,(i+1),g,rfl,rfl,rfl,rfl,a8,a9,a2,a0,a1,a3,rfl,(by omega),(by rw[Agl u,Ue,Akq an,a6];omega),⟨by omega,by omega⟩,trivial⟩;omega
  have ab:=Fp (bt0.symm.trans E);have b8:=Jq E;refine Al (kk az ?_);refine qA fun bx b1=>Arw (Ba LLot.f_parts Ccy rfl Gb bd) fun d4 be=>Arw (Ax Gb rfl be) fun bl a7=>?_;have c8:=Val.len a7;refine l_v (Ci (el:=127) Ccz rfl a7) (Av (iV 0) (l_k b1 (Ao (Cc (fun mm ee dd Y' Z'=>∃(k:Nat) (c:Int),(h.parts.length-k)=mm/\[]=dd/\bo=Y'/\Z=Z'/\ee 0=vc/\ee 1=(.int .u64 (F:Int))/\ee 2=(.int .u64 (C:Int))/\ee 8=iV i/\ee 17=v7/\ee 18=(iV (b.lots.length:Int))/\ee 19=iV i/\ee 30=bl/\ee 31=(iV (h.parts.length:Int))/\ee 7=iV c/\ee 32=iV k/\(k<=h.parts.length)/\(c=c)/\(c=Mi F.testBit C.testBit (Axq b i)+Mi F.testBit C.testBit (Mf b i (h.parts.take k)))/\(0<=c/\c<=600000*(i:Int)+100000*(k:Int))/\True) (m:=_) ⟨0,g,rfl,rfl,rfl,rfl,a8,a9,a2,rfl,a0,a1,O,rfl,rfl,a3,rfl,Hr _,rfl,(by rw[a6];exact(Beg _).symm),⟨by omega,by omega⟩,trivial⟩ ?_))));rintro cx c7 _ _ _ ⟨k,c,rfl,rfl,rfl,rfl,y,B,D,N,H,I,J,K,L,M,w,cy,cz,T,d0,_⟩;refine qA fun bz b2=>l_v (Da w L) (Asa b2 fun c0 b3=>Bp (t:=decide ((k:Int)<(h.parts.length:Int))) rfl (fun ZQ=>?_) (fun ZQ=>?_))
  ·have b9:=lZ1 ZQ;refine Al (kk b3 ?_);refine Ai fun c1 V=>Ao (qA fun c2 b4=>l_v (Ah (v:=iV k) w) ?_);obtain⟨d,j⟩:=Ed (xs:=h.parts) (i:=k) (by first|omega|(rw[Uu];omega));have au:=ok.prt _ _ _ _ u j;obtain⟨_,_,cp,cq,_⟩:=au;refine Arw (Ch k Ccz Im K a7 (q:=(k:Int)) w rfl j) fun d5 bf=>Arw (Ax Im rfl bf) fun bm ae=>Arv (Ct Aod fun cv=>?_);refine Au (iV k) (Cx rfl (Dv (v:=bm) (a:=d) (c:=Aoc) Im rfl rfl ae rfl ?_));refine Bb (a:=d) ae fun di P W=>?_;replace hc:=At.mono P hc;refine qC b4 fun c3 b5=>l_v (Ah (v:=vc) y) (l_v (Ah (v:=iV i) N) (l_v (Hj rfl hc) (Arw (Ba Cel.f_from_ Cdi rfl Auj hc) fun d6 bg=>Arw (Bjl i Cdt Xd.2 rfl bg (q:=(i:Int)) rfl rfl (Bpk u (by have:=ok.nl;omega))) fun d7 bh=>Arw (Ax Xd rfl bh) fun d8 bi=>Av (iV k) ?_)));obtain⟨c6,aa⟩:=Ed (xs:=h.parts.map (Gn b i)) (i:=k) (by first|omega|(rw[Uu];omega));obtain rfl:=Bys j aa;refine Arw (Ch k Cdm Ano rfl bi (q:=(k:Int)) rfl rfl aa) fun d9 bj=>Arw (Ax Ano rfl bj) fun bn af=>Arv (Ct Aur fun cw=>?_);refine Cx rfl (Dv (v:=bn) (a:=Gn b i d) (c:=Bqj) Ano rfl rfl af rfl ?_);refine Bb (a:=Gn b i d) af fun dj R U=>?_;replace W:=At.mono R W;refine qC b5 fun c4 a4=>Arw (Ba LSrc.f_field Cdq rfl ty3 U) fun da ag=>?_;have⟨c9,ca⟩:=At.rng ag;refine l_v (Bc ty3 rfl ag) (l_v (Uy rfl rfl) (Av (.bool (decide (((Gn b i d)).field>=0))) (Cn (decide (((Gn b i d)).field>=0)) (fun e=>?_) (fun e=>?_))))
   ·have n:=lZ1 e;refine Aa (qF e) (Ah (v:=.int .u64 (F:Int)) B) (Ak (qF e) (Ba LSrc.f_field Cdq rfl ty3 U) fun db ah=>?_);have⟨cb,cc⟩:=At.rng ah;refine Aa (qF e) (Bc ty3 rfl ah) (Aa (qF e) (Lc (p:=F) (q:=(((Gn b i d)).field).toNat) rfl (Eq.trans (b:=iV (((Gn b i d)).field)) rfl (by rw[Int.toNat_of_nonneg (a:=((Gn b i d)).field) (by omega)])) rfl (by omega)) (Aa (qF e) (Nv (p:=F>>>(((Gn b i d)).field).toNat) (q:=1) rfl rfl (Nl (by omega))) (Aa (qF e) (Ek rfl rfl) (l_v (Bt rfl e (v:=.bool (((((F>>>(((Gn b i d)).field).toNat) &&& 1):Nat):Int)==1)) rfl) (Av (.bool (((((F>>>(((Gn b i d)).field).toNat) &&& 1):Nat):Int)==1)) (Cn (((((F>>>(((Gn b i d)).field).toNat) &&& 1):Nat):Int)==1) (fun f=>?_) (fun f=>?_)))))))
    ·have ao:=bt1.symm.trans f;have ba:=Jr f;refine Ap (gN rfl f) (Ap (gN rfl f) (Ap (gN rfl f) (Ap (gN rfl f) (Ap (Jf rfl rfl rfl) (Ap (Jf rfl rfl rfl) (Ap (Jf rfl rfl rfl) (Ap (Jf rfl rfl rfl) (Ap (Jf rfl rfl rfl) (Ap (Jf rfl rfl rfl) (Ap (gN rfl f) (l_v (Bt rfl f (v:=bT) rfl) (l_k a4 (Co rfl rfl (qB (l_v (Ah (v:=iV c) M) (Arw (Ba LPart.f_grams Ccx rfl ty3 W) fun dc ai=>?_))))))))))))))));have⟨cd,ce⟩:=At.rng ai;refine l_v (Bc ty3 rfl ai) (l_v (Br rfl rfl (z:=c+d.grams) (Bo (by rfl) (by omega) (by omega))) (Au (iV (c+d.grams)) (l_k V (qB (l_v (Br w rfl (z:=(((k+1):Nat):Int)) wrE) (Av (iV ((k+1):Nat)) (Bj (Cez (Cfc P R)) (Ac ?_))))))));refine⟨_,?_,(k+1),(c+d.grams),rfl,rfl,rfl,rfl,y,B,D,N,H,I,J,K,L,rfl,rfl,(by omega),rfl,(by rw[Buy (F:=F) j ab n ao,T];omega),⟨by omega,by omega⟩,trivial⟩;omega
    have ap:=bt1.symm.trans f;have ba:=Jq f;refine Ak (qF f) (Ba LSrc.f_lot Cdq rfl ty3 U) fun de aj=>?_;have⟨cf,cg⟩:=At.rng aj;refine Aa (qF f) (Bc ty3 rfl aj) (Aa (qF f) (Uy rfl rfl) ?_);have cr:=Bvl ok n;refine l_M (.bool (decide (((Gn b i d)).lot>=0))) (qF f) rfl ?_;have cs:=Bvl ok n;refine Ap (gN rfl (Px (by omega))) (Ap (gN rfl (Px (by omega))) (Ap (gN rfl (Px (by omega))) (Ap (gN rfl (Px (by omega))) (Ap (gN rfl (Px (by omega))) (Ap (gN rfl (Px (by omega))) (Aa (qF f) (Bn rfl (Px (by omega)) (v:=bF) rfl) (l_v (Bn rfl f (v:=bF) rfl) (l_k a4 (Cg rfl rfl (Al (kk V ?_)))))))))));refine qB (l_v (Br w rfl (z:=(((k+1):Nat):Int)) wrE) (Av (iV ((k+1):Nat)) (Bj (Cez (Cfc P R)) (Ac ?_))));refine⟨_,?_,(k+1),c,rfl,rfl,rfl,rfl,y,B,D,N,H,I,J,K,L,M,rfl,(by omega),rfl,(by rw[Buw (F:=F) (C:=C) j n ap,T]),⟨by omega,by omega⟩,trivial⟩;omega
   have n:=lZ2 e;refine Ap (gN rfl e) (Ap (gN rfl e) (Ap (gN rfl e) (Ap (gN rfl e) (Ap (gN rfl e) (Ap (gN rfl e) (l_v (Bn rfl e (v:=bF) rfl) (Av bF (Ak (gY rfl rfl) (Ba LSrc.f_lot Cdq rfl ty3 U) fun df ak=>?_))))))));have⟨ch,ci⟩:=At.rng ak;refine Aa (gY rfl rfl) (Bc ty3 rfl ak) (Aa (gY rfl rfl) (Uy rfl rfl) ?_);have ct:=Bpo ok u j n;refine l_M (.bool (decide (((Gn b i d)).lot>=0))) (gY rfl rfl) rfl ?_;have x:=Bpo ok u j n;refine Aa (gY rfl (Qn x)) (Ah (v:=.int .u64 (C:Int)) D) (Ak (gY rfl (Qn x)) (Ba LSrc.f_lot Cdq rfl ty3 U) fun dg al=>?_);have⟨cj,ck⟩:=At.rng al;refine Aa (gY rfl (Qn x)) (Bc ty3 rfl al) (Aa (gY rfl (Qn x)) (Lc (p:=C) (q:=(((Gn b i d)).lot).toNat) rfl (Eq.trans (b:=iV (((Gn b i d)).lot)) rfl (by rw[Int.toNat_of_nonneg (a:=((Gn b i d)).lot) (by omega)])) rfl (by omega)) (Aa (gY rfl (Qn x)) (Nv (p:=C>>>(((Gn b i d)).lot).toNat) (q:=1) rfl rfl (Nl (by omega))) (Aa (gY rfl (Qn x)) (Ek rfl rfl) (Aa (gY rfl rfl) (Bt rfl (Qn x) (v:=.bool (((((C>>>(((Gn b i d)).lot).toNat) &&& 1):Nat):Int)==0)) rfl) (l_v (Bn rfl rfl (v:=.bool (((((C>>>(((Gn b i d)).lot).toNat) &&& 1):Nat):Int)==0)) rfl) (l_k a4 (Bp (t:=((((C>>>(((Gn b i d)).lot).toNat) &&& 1):Nat):Int)==0) rfl (fun G=>?_) (fun G=>?_))))))))
   ·have aq:=not_eq_t (bt0.symm.trans G);have bb:=Jr G;refine qB (l_v (Ah (v:=iV c) M) (Arw (Ba LPart.f_grams Ccx rfl ty3 W) fun dh am=>?_));have⟨cl,cm⟩:=At.rng am;refine l_v (Bc ty3 rfl am) (l_v (Br rfl rfl (z:=c+d.grams) (Bo (by rfl) (by omega) (by omega))) (Au (iV (c+d.grams)) (l_k V (qB (l_v (Br w rfl (z:=(((k+1):Nat):Int)) wrE) (Av (iV ((k+1):Nat)) (Bj (Cez (Cfc P R)) (Ac ?_))))))));refine⟨_,?_,(k+1),(c+d.grams),rfl,rfl,rfl,rfl,y,B,D,N,H,I,J,K,L,rfl,rfl,(by omega),rfl,(by rw[Buz (F:=F) j ab n aq,T];omega),⟨by omega,by omega⟩,trivial⟩;omega
   have ar:=Fp (bt0.symm.trans G);have bb:=Jq G;refine Al (kk V ?_);refine qB (l_v (Br w rfl (z:=(((k+1):Nat):Int)) wrE) (Av (iV ((k+1):Nat)) (Bj (Cez (Cfc P R)) (Ac ?_))));refine⟨_,?_,(k+1),c,rfl,rfl,rfl,rfl,y,B,D,N,H,I,J,K,L,M,rfl,(by omega),rfl,(by rw[Bux (F:=F) (C:=C) j n ar,T]),⟨by omega,by omega⟩,trivial⟩;omega
  have b9:=lZ2 ZQ;refine Bx (kk ac ?_);refine qB (l_v (Br J rfl (z:=(((i+1):Nat):Int)) wrE) (Av (iV ((i+1):Nat)) (Bj (Cez a5) (Ac ?_))));refine⟨_,?_,(i+1),c,rfl,rfl,rfl,rfl,y,B,D,H,I,M,rfl,(by omega),(by rw[Agl u,Ue,T,Bns (by omega)]),⟨by omega,by omega⟩,trivial⟩;omega
 have b7:=lZ2 YQ;refine Bx (kk k3 ?_);refine qA fun c5 b6=>l_v (Ah (v:=iV g) a3) (Au (iV g) (l_k b6 (Aq (av (rT (iV g) ?_)))));rw[a6,Beq (by omega)];rfl
theorem Bwd{b:LBook}{vc:Value}(ok:LotsOk b)(hc:At Y vc (⟨b,frD b⟩:Cel)):CallsH (CX mn X) 35 #[vc] Y Z (rP Y Z (.int .u64 (((2^b.fields.length-1):Nat):Int))):=by
 have hnf:=ok.nf;have hsh:=Aha (n:=b.fields.length) (by omega);have k:1<=1 <<< b.fields.length:=by rw[Aon];exact Bmp
 refine Bq 11 [2] Tryz.func35 rfl fun Q c m=>qA fun h d=>Au (.int .u64 0) (qC d fun i e=>Av vc (l_v (Hj rfl hc) (Arw (Ba Cel.f_b Cdi rfl Gt hc) fun t f=>Arw (Ba LBook.f_fields Cct rfl Hw f) fun u g=>Arw (Ax Hw rfl g) fun v a=>?_)));have j:=Val.len a;refine l_v (Ci (el:=9) Ccv rfl a) (l_v (Md (p:=1) (q:=b.fields.length) rfl rfl rfl (by omega) (z:=(((1 <<< b.fields.length):Nat):Int)) hsh.1) (l_v (Ou rfl rfl (z:=((((1 <<< b.fields.length)-1):Nat):Int)) ((Ev (by omega) (by omega)).trans (by omega))) (Au (.int .u64 ((((1 <<< b.fields.length)-1):Nat):Int)) (l_k e (Aq (c ⟨rfl,rfl,eT (.int .u64 ((((1 <<< b.fields.length)-1):Nat):Int)) ?_⟩))))));rw[Aon]
end
section
theorem Pb{x:Nat}(h:x<256):elems x=Bv x:=by
 have key:(List.range 256).all (fun x=>elems x==Bv x)=true:=by decide +kernel
 have:=Rd.1 key x (by simpa using h);simpa using this
theorem Pp{x:Nat}(h:x<256):(elems x).length=De x:=by
 have key:(List.range 256).all (fun x=>(elems x).length==De x)=true:=by decide +kernel
 have:=Rd.1 key x (by simpa using h);simpa using this
theorem Bfe{x:Nat}(h:x<256):De x<=8:=by
 have key:(List.range 256).all (fun x=>decide (De x<=8))=true:=by decide +kernel
 have:=Rd.1 key x (by simpa using h);simpa using this
theorem Att:∀{a b:List Nat},Mm a b=true↔a<b
 | [],[]=>by simp[Mm]
 | a::l,[]=>by simp[Mm]
 | [],b::m=>by simp[Mm]
 | a::l,b::m=>by
  rw[Mm,List.cons_lt_cons_iff];simp only[Awx,Oc,decide_eq_true_eq,beq_iff_eq];rw[Att]
section
variable{g:Nat->Int}{S C:Nat}
theorem Bzq(h:g S>g C):bet g S C=false:=Ajl.2 ⟨by omega,fun e=>by omega⟩
theorem Bzr(hS:S<256)(hC:C<256)(h:(g S==g C)=true)(hm:(De S:Int)-(De C:Int)>0):bet g S C=false:=by refine Ajl.2 ⟨by have:=eq_of_beq h;omega,fun _=>?_⟩;rw[Pp hS,Pp hC];exact⟨by omega,fun e=>by omega⟩
theorem Bzs(hS:S<256)(hC:C<256)(h:(g S==g C)=true)(hm:((De S:Int)-(De C:Int)==0)=true)(hc:Gz (Bw (Bv S)) (Bw (Bv C))>=0):bet g S C=false:=by refine Ajl.2 ⟨by have:=eq_of_beq h;omega,fun _=>?_⟩;have hm:=eq_of_beq hm;rw[Pp hS,Pp hC];refine⟨by omega,fun _=>?_⟩;rw[Pb hS,Pb hC];refine Aqb.2 fun hl=>?_;have:=Ce.2 (Att.1 hl);omega
theorem Bzt(h:¬g S>g C)(h':(g S==g C)=false):bet g S C=true:=by
 have:g S≠g C:=fun e=>by rw[e]at h';simp at h'
 unfold bet;rw[Qn (by omega)];rfl
theorem Bzu(hS:S<256)(hC:C<256)(h:(g S==g C)=true)(h1:¬(De S:Int)-(De C:Int)>0)(h2:((De S:Int)-(De C:Int)==0)=false):bet g S C=true:=by
 have:(De S:Int)-(De C:Int)≠0:=fun e=>by rw[e]at h2;simp at h2
 unfold bet;rw[Pp hS,Pp hC,Qn (eq_of_beq h),Qn (show De S<De C by omega)];simp
theorem Bzv(hS:S<256)(hC:C<256)(h:(g S==g C)=true)(hm:((De S:Int)-(De C:Int)==0)=true)(hc:¬Gz (Bw (Bv S)) (Bw (Bv C))>=0):bet g S C=true:=by
 have hm:=eq_of_beq hm;have hl:Mm (elems S) (elems C)=true:=by rw[Pb hS,Pb hC];exact Att.2 (Ce.1 (by omega))
 unfold bet;rw[hl,Pp hS,Pp hC,Qn (eq_of_beq h),Qn (show De S=De C by omega)];simp
end
theorem Bcj{g:Nat->Int}{lot:Nat}:∀{k S C:Nat},k<=8->S<256->C<256->Hb g lot k S C<256
 | 0,S,C,_,hS,hC=>by unfold Hb;split<;>assumption
 | k+1,S,C,hk,hS,hC=>by
  unfold Hb;refine Bcj (by omega) (Bdz (n:=8) hS (by rw[Aon];exact Bdq (by omega) hk)) ?_;split
  ·exact hC
  ·exact Bcj (by omega) hS hC
theorem Bok{S k:Nat}(hS:S<256)(hk:k<8):(S ||| 1 <<< k)<256:=Bdz (n:=8) hS (by rw[Aon];exact Bdq (by omega) hk)
theorem Big:(List.range 256).all (fun x=>(let a:=((x>>>1) &&& 6148914691236517205)+(x &&& 6148914691236517205);let b:=((a>>>2) &&& 3689348814741910323)+(a &&& 3689348814741910323);let c:=((b>>>4)+b) &&& 1085102592571150095;let d:=c+(c>>>8);let e:=d+(d>>>16);let f:=e+(e>>>32);f &&& 127)==De x)=true:=by decide +kernel
theorem Bog{x a b c d e f:Nat}(hx:x<256)(ha:a=((x>>>1) &&& 6148914691236517205)+(x &&& 6148914691236517205))(hb:b=((a>>>2) &&& 3689348814741910323)+(a &&& 3689348814741910323))(hc:c=((b>>>4)+b) &&& 1085102592571150095)(hd:d=c+(c>>>8))(he:e=d+(d>>>16))(hf:f=e+(e>>>32)):f &&& 127=De x:=by have:=Rd.1 Big x (Bed.2 hx);subst ha hb hc hd he hf;simpa using this
end
section
section
variable{C:Ctx}{V:Ps}{b:FB}{n:Nat}{Q:Hu}{e:Env}{ds:List Deferred}{Y:Ro}{Z:Own}
theorem Bqd{l:Nat}(h:Q .normal e ds Y Z):WpP C V b n (.label l) Q e ds Y Z:=fun tm k cs ht =>
 Eh (fr':=Fr b tm ds k) (cs':=cs) (fun W=>by simp[Conc.G,stepG,stepG.exec,Fr]) (.stop (.inl ⟨rfl,.normal,tm,e,ds,k,ht,h,rfl,rfl⟩))
theorem Azj{c:Code}(h:WpP C V b n c Q e ds Y Z):WpP C V b n (.scope c) Q e ds Y Z:=by
 intro tm k cs ht;refine Eh (fr':=Fr b tm ds (.code c :: .inScope c::k)) (cs':=cs) (fun W=>by simp[Conc.G,stepG,stepG.exec,Fr]) ?_;refine(h tm (.inScope c::k) cs ht).bind ?_;rintro _ _ Y' Z' (⟨rfl,ex,tm',e',ds',g,a,d,f,rfl⟩|hp);rotate_left
 ·exact .stop (.inr hp)
 by_cases hn:ex = .normal
 ·subst hn;cases f;exact Eh (fr':=Fr b tm' ds' k) (fun W=>by simp[Conc.G,stepG,stepG.exec,Fr]) (.stop (.inl ⟨rfl,.normal,tm',e',ds',k,a,d,rfl,rfl⟩))
 ·exact .stop (.inl ⟨rfl,ex,tm',e',ds',g,a,d,He hn (fun id=>rfl) f,rfl⟩)
end
end
section
theorem Aui:GoTy Tryz.prog 94 (Ptr Cel):=⟨⟨_,Tryz.underlying94,rfl⟩,⟨_,Ab Tryz.typeInfo94,rfl⟩⟩
theorem Acj:GoTy Tryz.prog 201 RawV:=⟨⟨_,Tryz.underlying201,rfl⟩,⟨_,Ab Tryz.typeInfo201,rfl⟩⟩
theorem Bti{k:Nat}:(((1 <<< k:Nat):Int)==0)=false:=by
 have:1<=1 <<< k:=by rw[Aon];exact Bmp
 exact beq_eq_false_iff_ne.2 (by omega)
variable{mn:Bool}{X:Frame->List Frame->Ro->Own->Cy->Prop}{Y:Ro}{Z:Own}
theorem Bgr{x:Nat}(hx:x<256):CallsH (CX mn X) 135 #[.int .u64 (x:Int)] Y Z (rP Y Z (iV (De x:Nat))):=by refine Bq 35 [2] Tryz.func135 rfl fun Q g V=>qA fun w h=>Au (iV 0) (qC h fun F t=>Av (.int .u64 (x:Int)) ?_);have N:=Alo x 1;refine l_v (Lc (p:=x) (q:=1) rfl rfl rfl (by omega)) ?_;have O:(x>>>1) &&& 6148914691236517205<=(x>>>1):=Aop;refine l_v (Nv (p:=x>>>1) (q:=6148914691236517205) rfl rfl (by omega)) (Av (.int .u64 (x:Int)) ?_);have P:x &&& 6148914691236517205<=x:=Aop;refine l_v (Nv (p:=x) (q:=6148914691236517205) rfl rfl (by omega)) (l_v (Br rfl rfl (z:=(((((x>>>1) &&& 6148914691236517205)+(x &&& 6148914691236517205)):Nat):Int)) ((Ev (by omega) (by omega)).trans (by push_cast;rfl))) ?_);obtain⟨a,ha_⟩:∃a,a=(((x>>>1) &&& 6148914691236517205)+(x &&& 6148914691236517205)):=⟨_,rfl⟩;refine l_v (Cp (v:=.int .u64 (a:Int)) ((show _=Value.int .u64 ((((((x>>>1) &&& 6148914691236517205)+(x &&& 6148914691236517205))):Nat):Int) from rfl).trans (by rw[ha_]))) (qC t fun G u=>Av (.int .u64 (a:Int)) ?_);have R:=Alo a 2;refine l_v (Lc (p:=a) (q:=2) rfl rfl rfl (by omega)) ?_;have T:(a>>>2) &&& 3689348814741910323<=(a>>>2):=Aop;refine l_v (Nv (p:=a>>>2) (q:=3689348814741910323) rfl rfl (by omega)) (Av (.int .u64 (a:Int)) ?_);have U:a &&& 3689348814741910323<=a:=Aop;refine l_v (Nv (p:=a) (q:=3689348814741910323) rfl rfl (by omega)) (l_v (Br rfl rfl (z:=(((((a>>>2) &&& 3689348814741910323)+(a &&& 3689348814741910323)):Nat):Int)) ((Ev (by omega) (by omega)).trans (by push_cast;rfl))) ?_);obtain⟨b,hb_⟩:∃b,b=(((a>>>2) &&& 3689348814741910323)+(a &&& 3689348814741910323)):=⟨_,rfl⟩;refine l_v (Cp (v:=.int .u64 (b:Int)) ((show _=Value.int .u64 ((((((a>>>2) &&& 3689348814741910323)+(a &&& 3689348814741910323))):Nat):Int) from rfl).trans (by rw[hb_]))) (qC u fun y i=>Av (.int .u64 (b:Int)) ?_);have H:=Alo b 4;refine l_v (Lc (p:=b) (q:=4) rfl rfl rfl (by omega)) (Av (.int .u64 (b:Int)) (l_v (Br rfl rfl (z:=((((b>>>4)+b):Nat):Int)) ((Ev (by omega) (by omega)).trans (by push_cast;rfl))) ?_));have I:((b>>>4)+b) &&& 1085102592571150095<=((b>>>4)+b):=Aop;refine l_v (Nv (p:=(b>>>4)+b) (q:=1085102592571150095) rfl rfl (by omega)) ?_;obtain⟨c,hc_⟩:∃c,c=(((b>>>4)+b) &&& 1085102592571150095):=⟨_,rfl⟩;refine l_v (Cp (v:=.int .u64 (c:Int)) ((show _=Value.int .u64 ((((((b>>>4)+b) &&& 1085102592571150095)):Nat):Int) from rfl).trans (by rw[hc_]))) (qC i fun B j=>Av (.int .u64 (c:Int)) (Av (.int .u64 (c:Int)) ?_));have J:=Alo c 8;refine l_v (Lc (p:=c) (q:=8) rfl rfl rfl (by omega)) (l_v (Br rfl rfl (z:=(((c+(c>>>8)):Nat):Int)) ((Ev (by omega) (by omega)).trans (by push_cast;rfl))) ?_);obtain⟨d,hd_⟩:∃d,d=(c+(c>>>8)):=⟨_,rfl⟩;refine l_v (Cp (v:=.int .u64 (d:Int)) ((show _=Value.int .u64 ((((c+(c>>>8))):Nat):Int) from rfl).trans (by rw[hd_]))) (qC j fun C k=>Av (.int .u64 (d:Int)) (Av (.int .u64 (d:Int)) ?_));have K:=Alo d 16;refine l_v (Lc (p:=d) (q:=16) rfl rfl rfl (by omega)) (l_v (Br rfl rfl (z:=(((d+(d>>>16)):Nat):Int)) ((Ev (by omega) (by omega)).trans (by push_cast;rfl))) ?_);obtain⟨e,he_⟩:∃e,e=(d+(d>>>16)):=⟨_,rfl⟩;refine l_v (Cp (v:=.int .u64 (e:Int)) ((show _=Value.int .u64 ((((d+(d>>>16))):Nat):Int) from rfl).trans (by rw[he_]))) (qC k fun D m=>Av (.int .u64 (e:Int)) (Av (.int .u64 (e:Int)) ?_));have L:=Alo e 32;refine l_v (Lc (p:=e) (q:=32) rfl rfl rfl (by omega)) (l_v (Br rfl rfl (z:=(((e+(e>>>32)):Nat):Int)) ((Ev (by omega) (by omega)).trans (by push_cast;rfl))) ?_);obtain⟨f,hf_⟩:∃f,f=(e+(e>>>32)):=⟨_,rfl⟩;refine l_v (Cp (v:=.int .u64 (f:Int)) ((show _=Value.int .u64 ((((e+(e>>>32))):Nat):Int) from rfl).trans (by rw[hf_]))) (qC m fun E n=>Av (.int .u64 (f:Int)) (l_v (Acf (p:=(f:Int)) (z:=(f:Int)) Tryz.underlying267 Cdd rfl wrR) ?_));have M:f &&& 127<=f:=Aop;refine l_v (Qs (p:=f) (q:=127) rfl rfl (by omega)) (Au (iV ((f &&& 127):Nat)) (l_k n (Aq (g (rT (iV ((f &&& 127):Nat)) ?_)))));rw[Bog hx ha_ hb_ hc_ hd_ he_ hf_]
theorem Bcv{x:Nat}(hx:x<256):CallsH (CX mn X) 86 #[.int .u64 (x:Int)] Y Z (rP Y Z (iV (De x:Nat))):=by refine Bq 8 [2] Tryz.func86 rfl fun Q a h=>qA fun e b=>Au (iV 0) (Asa b fun f c=>Cg rfl rfl (Al (kk c ?_)));refine qA fun g d=>Av (.int .u64 (x:Int)) (Arv (Cj (Bgr (x:=x) (by omega)) Tryz.func135 ?_));refine Au (iV ((De x):Nat)) (l_k d (Aq (a (rT (iV ((De x):Nat)) ?_))));rfl
theorem Bwg{b:LBook}{F lot S C rc rb:Nat}{vc vf vl vt:Value}(ok:LotsOk b)(hc:At Y vc (Ptr.mk (⟨b,frD b⟩:Cel):Ptr Cel))(hf:At Y vf (UW.mk F))(hl:At Y vl (lot:Int))(ht:At Y vt (RawV.mk (.func (.func 85) #[] #[vc,vf,pV rc,pV rb,vl,vt])))(hF:F<2^63)(hS:S<256)(hC:C<256):CallsH (CX mn X) 85 #[iV (-1),.int .u64 (S:Int),vc,vf,pV rc,pV rb,vl,vt] Y ((rc,oC #[.int .u64 (C:Int)] 98)::((rb,oC #[iV (Bu b F C)] 3)::Z)) (fun w Y' Z'=>Y'=Y/\Z'=(rc,oC #[.int .u64 (((Hb (Bu b F) lot 0 S C):Nat):Int)] 98)::(rb,oC #[iV (Bu b F (Hb (Bu b F) lot 0 S C))] 3)::Z):=by
 have hpS:=Bfe hS;have hpC:=Bfe hC;refine Bq 79 [] Cdz rfl fun Q g a2=>Azj (qD fun V K2 k1 M=>Av (iV (-1)) (l_v (Da rfl rfl) (l_k M (Co rfl rfl (qA fun K3 O=>Arw (Ax Aui rfl hc) fun v4 B=>?_)))));replace B:=Ir.1 B;refine l_v (Aga Zt rfl hf) (Av (.int .u64 (S:Int)) (Arv (Cj (Acx (C:=S) ok B (by omega) (by omega)) Cej ?_)));refine Au (iV (Bu b F S)) (Asa O fun K6 m=>Ai fun K7 P=>Og ((rc,oC #[.int .u64 (C:Int)] 98)::((rb,oC #[iV (Bu b F C)] 3)::[])) [0,1,2,3,4,5] (by kernel_rfl) rfl rfl (Dr 0 (zT 1 5) rfl ⟨Cfb,sB⟩ rfl (Yld.o (Ah (v:=.int .u64 (S:Int)) rfl)) (Dr 2 [o1,o0,o1,o0,o0,o0] rfl ⟨Cfb,sB⟩ rfl (Fj (v:=.int .u64 (C:Int)) Zt.1 rfl mC rfl) (Agn 1 (zT 3 3) rfl rfl (Bm (Bcv (x:=S) (by omega)) Tryz.func86 rfl rfl ⟨rfl,trivial⟩ ⟨⟨Cfb,sB⟩,?_⟩)))));refine Agn 3 (zT 4 2) rfl rfl (Bm (Bcv (x:=C) (by omega)) Tryz.func86 rfl rfl ⟨rfl,trivial⟩ ⟨⟨Cfb,sB⟩,?_⟩);refine Dd 4 (zT 5 1) rfl ⟨Cfb,sB⟩ rfl (Yld.o (Ou rfl rfl (z:=(((De S):Nat):Int)-(((De C):Nat):Int)) wrE)) ⟨Cfb,sB⟩ (Dd 5 (zT 6 0) rfl ⟨Cfb,sB⟩ rfl (Yld.o (Cp (v:=iV ((((De S):Nat):Int)-(((De C):Nat):Int))) rfl)) ⟨Cfb,sB⟩ (Se rfl (kk P ?_)));refine Ao (qA fun K8 n=>Av (iV (Bu b F S)) (Arv (Dt (i:=1) (v:=iV (Bu b F C)) ty3.1 rfl rfl rfl ?_)));refine l_v (Gl rfl rfl) (Av (.bool (decide ((Bu b F S)>(Bu b F C)))) (Cn (decide ((Bu b F S)>(Bu b F C))) (fun d=>?_) (fun d=>?_)))
 ·have u:=lZ1 d;refine Ap (gN rfl d) (Ap (gN rfl d) (Ap (gN rfl d) (Ap (gN rfl d) (Ap (Jf rfl rfl rfl) (Ap (Jf rfl rfl rfl) (Ap (gN rfl d) (l_v (Bt rfl d (v:=bT) rfl) (Au bT (l_k n (Co rfl rfl (Aq (g ?_))))))))))));have hT:Hb (Bu b F) lot 0 S C=C:=by unfold Hb;rw[Bzq u];rfl
  exact⟨rfl,by rw[hT]<;>rfl⟩
 have u:=lZ2 d;refine l_M (iV (Bu b F S)) (qF d) rfl (Ae (qF d) (Dt (i:=1) (v:=iV (Bu b F C)) ty3.1 rfl rfl rfl ?_));refine Aa (qF d) (Ek rfl rfl) (l_M (.bool ((Bu b F S)==(Bu b F C))) (qF d) rfl (Cn ((Bu b F S)==(Bu b F C)) (fun a=>?_) (fun a=>?_)))
 ·have R:=Jr a;refine l_M (iV ((((De S):Nat):Int)-(((De C):Nat):Int))) (qF a) rfl (Aa (qF a) (Gl rfl rfl) (Aa (qF d) (Bt rfl a (v:=.bool (decide (((((De S):Nat):Int)-(((De C):Nat):Int))>0))) rfl) (l_v (Bn rfl d (v:=.bool (decide (((((De S):Nat):Int)-(((De C):Nat):Int))>0))) rfl) (Au (.bool (decide (((((De S):Nat):Int)-(((De C):Nat):Int))>0))) (l_k n (Bp (t:=decide (((((De S):Nat):Int)-(((De C):Nat):Int))>0)) rfl (fun h=>?_) (fun h=>?_)))))))
  ·have p:=lZ1 h;refine Aq (g ?_);have hT:Hb (Bu b F) lot 0 S C=C:=by unfold Hb;rw[Bzr hS hC a p];rfl
   exact⟨rfl,by rw[hT]<;>rfl⟩
  have p:=lZ2 h;refine Ai fun W G=>Og ((rc,oC #[.int .u64 (C:Int)] 98)::((rb,oC #[iV (Bu b F C)] 3)::[])) [0,1,2,3,4,5,6,7,8,9,10,11,12,13,14,15] (by kernel_rfl) rfl rfl (Dr 0 (zT 1 15) rfl ⟨Cfb,sB⟩ rfl (Yld.o (Ah (v:=iV (Bu b F S)) rfl)) (Dd 1 (zT 2 14) rfl ⟨Cfb,sB⟩ rfl (Fj (v:=iV (Bu b F C)) ty3.1 rfl (lZ0 _ mC) rfl) ⟨Cfb,sB⟩ (Dd 2 (zT 3 13) rfl ⟨Cfb,sB⟩ rfl (Yld.o (Ek rfl rfl)) ⟨Cfb,sB⟩ (Dd 3 (zT 4 12) rfl ⟨Cfb,sB⟩ rfl (Yld.o (Ah (v:=.bool ((Bu b F S)==(Bu b F C))) rfl)) ⟨Cfb,sB⟩ (Dd 4 (zT 5 11) rfl ⟨Cfb,sB⟩ (qF a) (Yld.o (Ah (v:=iV ((((De S):Nat):Int)-(((De C):Nat):Int))) rfl)) ⟨Cfb,sB⟩ (Dd 5 (zT 6 10) rfl ⟨Cfb,sB⟩ (qF a) (Yld.o (Ek rfl rfl)) ⟨Cfb,sB⟩ (Dd 6 (zT 7 9) rfl ⟨Cfb,sB⟩ rfl (Yld.o (Bt rfl a (v:=.bool (((((De S):Nat):Int)-(((De C):Nat):Int))==0)) rfl)) ⟨Cfb,sB⟩ (Dd 7 (zT 8 8) rfl ⟨Cfb,sB⟩ rfl (Yld.o (Ah (v:=.bool (((((De S):Nat):Int)-(((De C):Nat):Int))==0)) rfl)) ⟨Cfb,sB⟩ (Beu (((((De S):Nat):Int)-(((De C):Nat):Int))==0) (fun c=>?_) (fun c=>?_))))))))))
  ·have T:=Jr c;refine Dr 8 Amg rfl ⟨Cfb,sB⟩ (qF c) (Yld.o (Ah (v:=.int .u64 (S:Int)) rfl)) (Dr 10 [o1,o1,o1,o1,o1,o1,o1,o1,o1,o0,o1,o0,o0,o0,o0,o0] rfl ⟨Cfb,sB⟩ (qF c) (Fj (v:=.int .u64 (C:Int)) Zt.1 rfl mC rfl) (Agn 9 zZ9 rfl (qF c) (Cm (vs:=[.int .u64 (S:Int)]) (Asl (x:=S) (by omega)) Ces rfl rfl ⟨rfl,trivial⟩ fun a3 a5 a7 H=>?_)));obtain⟨e,D,y⟩:=H;replace D:=D.symm;subst D;refine⟨⟨e,sB⟩,?_⟩;refine Agn 11 Anr rfl (qF c) (Cm (vs:=[.int .u64 (C:Int)]) (Asl (x:=C) (by omega)) Ces rfl rfl ⟨rfl,trivial⟩ fun a4 a6 a8 I=>?_);obtain⟨f,E,U⟩:=I;replace E:=E.symm;subst E;replace y:=Val.mono f y;refine⟨⟨Cfc e f,sB⟩,?_⟩;refine Agn 12 Ajy rfl (qF c) (Bm (Agy y U) Tryz.func87 rfl rfl ⟨rfl,rfl,trivial⟩ ⟨⟨Cfc e f,sB⟩,?_⟩);refine Dd 13 Ajz rfl ⟨Cfc e f,sB⟩ (qF c) (Yld.o (Uy rfl rfl)) ⟨Cfb,sB⟩ (Dd 14 Aka rfl ⟨Cfc e f,sB⟩ rfl (Yld.o (Bt rfl c (v:=.bool (decide ((Gz (Bw (Bv S)) (Bw (Bv C)))>=0))) rfl)) ⟨Cfb,sB⟩ (Dd 15 Akb rfl ⟨Cfc e f,sB⟩ rfl (Yld.o (Cp (v:=.bool (decide ((Gz (Bw (Bv S)) (Bw (Bv C)))>=0))) rfl)) ⟨Cfb,sB⟩ (Se rfl (kk G ?_))));refine Bp (t:=decide ((Gz (Bw (Bv S)) (Bw (Bv C)))>=0)) rfl (fun k=>?_) (fun k=>?_)
   ·have q:=lZ1 k;refine Aj (Cez (Cfc e f)) (Aq (g ?_));have hT:Hb (Bu b F) lot 0 S C=C:=by unfold Hb;rw[Bzs hS hC a c q];rfl
    exact⟨rfl,by rw[hT]<;>rfl⟩
   have q:=lZ2 k;refine Al (kk m ?_);refine qA fun YQ J=>Av (iV (Bu b F S)) (Av (.int .u64 (S:Int)) (Cx rfl (Cz (j:=1) (v:=iV (Bu b F S)) ty3.2 rfl rfl rfl rfl nL ?_)));refine Cx rfl (Cz (j:=0) (v:=.int .u64 (S:Int)) Zt.2 rfl rfl rfl rfl nL ?_);refine l_k J (Aj (Cez (Cfc e f)) (Aq (g ?_)));have hT:Hb (Bu b F) lot 0 S C=S:=by unfold Hb;rw[Bzv hS hC a c q];rfl
   exact⟨rfl,by rw[hT]<;>rfl⟩
  have T:=Jq c;refine Hs 8 Amg rfl ⟨Cfb,sB⟩ (gN rfl c) (Hs 10 [o1,o1,o1,o1,o1,o1,o1,o1,o1,o0,o1,o0,o0,o0,o0,o0] rfl ⟨Cfb,sB⟩ (gN rfl c) (Hs 9 zZ9 rfl ⟨Cfb,sB⟩ (gN rfl c) (Hs 11 Anr rfl ⟨Cfb,sB⟩ (gN rfl c) (Hs 12 Ajy rfl ⟨Cfb,sB⟩ (gN rfl c) (Hs 13 Ajz rfl ⟨Cfb,sB⟩ (gN rfl c) (Dd 14 Aka rfl ⟨Cfb,sB⟩ rfl (Yld.o (Bn rfl c (v:=bF) rfl)) ⟨Cfb,sB⟩ (Dd 15 Akb rfl ⟨Cfb,sB⟩ rfl (Yld.o (Cp (v:=bF) rfl)) ⟨Cfb,sB⟩ (Se rfl (kk G ?_)))))))));refine Cg rfl rfl (Al (kk m ?_));refine qA fun ZQ K=>Av (iV (Bu b F S)) (Av (.int .u64 (S:Int)) (Cx rfl (Cz (j:=1) (v:=iV (Bu b F S)) ty3.2 rfl rfl rfl rfl nL ?_)));refine Cx rfl (Cz (j:=0) (v:=.int .u64 (S:Int)) Zt.2 rfl rfl rfl rfl nL ?_);refine l_k K (Aq (g ?_));have hT:Hb (Bu b F) lot 0 S C=S:=by unfold Hb;rw[Bzu hS hC a p c];rfl
  exact⟨rfl,by rw[hT]<;>rfl⟩
 have R:=Jq a;refine Ap (gN rfl a) (Ap (gN rfl a) (Aa (qF d) (Bn rfl a (v:=bF) rfl) (l_v (Bn rfl d (v:=bF) rfl) (Au bF (l_k n (Cg rfl rfl (Ai fun a0 L=>Og ((rc,oC #[.int .u64 (C:Int)] 98)::((rb,oC #[iV (Bu b F C)] 3)::[])) [0,1,2,3,4,5,6,7,8,9,10,11,12,13,14,15] (by kernel_rfl) rfl rfl (Dr 0 (zT 1 15) rfl ⟨Cfb,sB⟩ rfl (Yld.o (Ah (v:=iV (Bu b F S)) rfl)) (Dd 1 (zT 2 14) rfl ⟨Cfb,sB⟩ rfl (Fj (v:=iV (Bu b F C)) ty3.1 rfl (lZ0 _ mC) rfl) ⟨Cfb,sB⟩ (Dd 2 (zT 3 13) rfl ⟨Cfb,sB⟩ rfl (Yld.o (Ek rfl rfl)) ⟨Cfb,sB⟩ (Dd 3 (zT 4 12) rfl ⟨Cfb,sB⟩ rfl (Yld.o (Ah (v:=.bool ((Bu b F S)==(Bu b F C))) rfl)) ⟨Cfb,sB⟩ (Hs 4 (zT 5 11) rfl ⟨Cfb,sB⟩ (gN rfl a) (Hs 5 (zT 6 10) rfl ⟨Cfb,sB⟩ (gN rfl a) (Dd 6 (zT 7 9) rfl ⟨Cfb,sB⟩ rfl (Yld.o (Bn rfl a (v:=bF) rfl)) ⟨Cfb,sB⟩ (Dd 7 (zT 8 8) rfl ⟨Cfb,sB⟩ rfl (Yld.o (Ah (v:=bF) rfl)) ⟨Cfb,sB⟩ (Hs 8 Amg rfl ⟨Cfb,sB⟩ (gN rfl rfl) (Hs 10 [o1,o1,o1,o1,o1,o1,o1,o1,o1,o0,o1,o0,o0,o0,o0,o0] rfl ⟨Cfb,sB⟩ (gN rfl rfl) (Hs 9 zZ9 rfl ⟨Cfb,sB⟩ (gN rfl rfl) (Hs 11 Anr rfl ⟨Cfb,sB⟩ (gN rfl rfl) (Hs 12 Ajy rfl ⟨Cfb,sB⟩ (gN rfl rfl) (Hs 13 Ajz rfl ⟨Cfb,sB⟩ (gN rfl rfl) (Dd 14 Aka rfl ⟨Cfb,sB⟩ rfl (Yld.o (Bn rfl rfl (v:=bF) rfl)) ⟨Cfb,sB⟩ (Dd 15 Akb rfl ⟨Cfb,sB⟩ rfl (Yld.o (Cp (v:=bF) rfl)) ⟨Cfb,sB⟩ (Se rfl (kk L ?_)))))))))))))))))))))))));refine Cg rfl rfl (Al (kk m ?_));refine qA fun a1 N=>Av (iV (Bu b F S)) (Av (.int .u64 (S:Int)) (Cx rfl (Cz (j:=1) (v:=iV (Bu b F S)) ty3.2 rfl rfl rfl rfl nL ?_)));refine Cx rfl (Cz (j:=0) (v:=.int .u64 (S:Int)) Zt.2 rfl rfl rfl rfl nL ?_);refine l_k N (Aq (g ?_));have hT:Hb (Bu b F) lot 0 S C=S:=by unfold Hb;rw[Bzt u a];rfl
 exact⟨rfl,by rw[hT]<;>rfl⟩
theorem Bwh{b:LBook}{F lot k S C rc rb:Nat}{vc vf vl vt:Value}(ok:LotsOk b)(hc:At Y vc (Ptr.mk (⟨b,frD b⟩:Cel):Ptr Cel))(hf:At Y vf (UW.mk F))(hl:At Y vl (lot:Int))(ht:At Y vt (RawV.mk (.func (.func 85) #[] #[vc,vf,pV rc,pV rb,vl,vt])))(hF:F<2^63)(hS:S<256)(hC:C<256)(hk:k<8)(ih:∀{Y:Ro} {Z:Own} {S C:Nat},At Y vc (Ptr.mk (⟨b,frD b⟩:Cel):Ptr Cel)->At Y vf (UW.mk F)->At Y vl (lot:Int)->At Y vt (RawV.mk (.func (.func 85) #[] #[vc,vf,pV rc,pV rb,vl,vt]))->S<256->C<256->CallsH (CX mn X) 85 #[iV ((k:Int)-1),.int .u64 (S:Int),vc,vf,pV rc,pV rb,vl,vt] Y ((rc,oC #[.int .u64 (C:Int)] 98)::(rb,oC #[iV (Bu b F C)] 3)::Z) (fun w Y' Z'=>Y'=Y/\Z'=(rc,oC #[.int .u64 (((Hb (Bu b F) lot k S C):Nat):Int)] 98)::(rb,oC #[iV (Bu b F (Hb (Bu b F) lot k S C))] 3)::Z)):CallsH (CX mn X) 85 #[iV k,.int .u64 (S:Int),vc,vf,pV rc,pV rb,vl,vt] Y ((rc,oC #[.int .u64 (C:Int)] 98)::((rb,oC #[iV (Bu b F C)] 3)::Z)) (fun w Y' Z'=>Y'=Y/\Z'=(rc,oC #[.int .u64 (((Hb (Bu b F) lot (k+1) S C):Nat):Int)] 98)::(rb,oC #[iV (Bu b F (Hb (Bu b F) lot (k+1) S C))] 3)::Z):=by
 have hsh:=Aha (n:=k) (by omega);refine Bq 79 [] Cdz rfl fun Q b6 x=>Azj (qD fun K1 K2 R W=>Av (iV k) (l_v (Da rfl rfl) (l_k W (Cg rfl (Px (by omega)) (Al (kk R ?_))))));refine Ai fun K3 k3=>Bqd (kk k3 ?_);refine qA fun K4 k4=>Av (iV k) (l_v (Md (p:=1) (q:=k) rfl rfl rfl (by omega) (z:=(((1 <<< k):Nat):Int)) hsh.1) (Arv (Bi (α:=UW) (xs:=[UW.mk 0,UW.mk (1 <<< k)]) (vs:=[.int .u64 0,.int .u64 (((1 <<< k):Nat):Int)]) Cdu Zt Aai rfl (by decide) (Dk (os:=[.const (.int .u64 0),.tmp 57]) ⟨rfl,rfl,trivial⟩) ⟨Rq.2 rfl,Rq.2 rfl,trivial⟩ rfl (by decide) fun B J E=>?_)));have d:Grow Y 98 (.slice (some ⟨B,0,none⟩) 2 2) ([UW.mk 0,UW.mk (1 <<< k)]:List UW) [(B,oC J.toArray 98)]:=Bs E rfl (by decide);have g6:=Grow.len d;refine l_v (Ajw (el':=98) Cdu rfl d) (Av (iV 0) (l_k k4 (Ao (Bjh (We (qA fun K7 k7=>l_v (Da rfl rfl) (Asa k7 fun K8 k8=>Co rfl rfl (Al (kk k8 ?_)))))))));refine Ai fun K9 D=>Ao (Ai fun af T=>Hc d fun bf c j=>?_);replace hc:=At.mono c hc;replace hf:=At.mono c hf;replace hl:=At.mono c hl;replace ht:=At.mono c ht;refine Ag rfl rfl ?_;obtain⟨G,m⟩:=Ed (xs:=([UW.mk 0,UW.mk (1 <<< k)]:List UW)) (i:=0) (by simp);obtain rfl:(UW.mk 0)=G:=Option.some.inj m;refine Arw (Ch 0 Cdu Zt rfl j (q:=0) rfl rfl m) fun b9 ac=>l_v (Aga Zt rfl ac) (Au (.int .u64 0) (Ary rfl rfl T fun ag ah U y=>Av (iV k) ?_));have⟨b0,b1⟩:=At.rng hl;refine l_v (Bc ty3 rfl hl) (l_v (Ek rfl rfl) (Av (.bool ((k:Int)==(lot:Int))) (Cn ((k:Int)==(lot:Int)) (fun a=>?_) (fun a=>?_))))
 ·have ab:=Jr a;refine l_M (.int .u64 0) (qF a) rfl (Aa (qF a) (Ek rfl rfl) (l_v (Bt rfl a (v:=bT) rfl) (l_k y (Co rfl rfl (Bx (kk D ?_))))));refine qB (l_v (Em 1) (Av (iV 1) (Ac ?_)));refine We (qA fun ai V=>l_v (Da rfl rfl) (Asa V fun aj YQ=>Co rfl rfl (Al (kk YQ ?_))));refine Ai fun ak ZQ=>Ao (qA fun al a0=>?_);obtain⟨H,t⟩:=Ed (xs:=([UW.mk 0,UW.mk (1 <<< k)]:List UW)) (i:=1) (by simp);obtain rfl:(UW.mk (1 <<< k))=H:=Option.some.inj t;refine Arw (Ch 1 Cdu Zt rfl j (q:=1) rfl rfl t) fun ba ad=>l_v (Aga Zt rfl ad) (Au (.int .u64 (((1 <<< k):Nat):Int)) (qE a0 fun am an a1 a2=>Av (iV k) ?_));have⟨b2,b3⟩:=At.rng hl;refine l_v (Bc ty3 rfl hl) (l_v (Ek rfl rfl) (Av (.bool ((k:Int)==(lot:Int))) (l_M (.int .u64 (((1 <<< k):Nat):Int)) (qF a) rfl (Aa (qF a) (Ek rfl rfl) (l_v (Bt rfl a (v:=.bool ((((1 <<< k):Nat):Int)==0)) rfl) (l_k a2 (Cg rfl Bti (Al (kk a1 ?_)))))))));refine qB (l_v (Lb Acj rfl ht) (Av (iV k) (l_v (Ou rfl rfl (z:=(k:Int)-1) wrE) (Av (.int .u64 (S:Int)) (Av (.int .u64 (((1 <<< k):Nat):Int)) (l_v (Bfu (p:=S) (q:=1 <<< k) rfl rfl (by omega) (by omega)) (Bj (Cfa Arz) (Bj (Cfa Arz) (Arv (Sq (vs:=[iV ((k:Int)-1),.int .u64 (((S ||| (1 <<< k)):Nat):Int)]) (caps:=[vc,vf,pV rc,pV rb,vl,vt]) rfl (ih (S:=S ||| (1 <<< k)) (C:=C) hc hf hl ht (Bok hS (by omega)) hC) Cdz rfl rfl ⟨rfl,rfl,trivial⟩ fun bc bg bj K=>?_))))))))));obtain⟨f,N⟩:=K;replace f:=f.symm;subst f N;refine l_k ZQ (qB (l_v (Em 2) (Av (iV 2) (Ac ?_))));refine We (qA fun ao a3=>l_v (Da rfl rfl) (Asa a3 fun ap b7=>Cg rfl rfl (Aj (Cez c) (Bx (x ?_)))));have hT:Hb (Bu b F) lot (k+1) S C=Hb (Bu b F) lot k (S ||| 1 <<< k) C:=by rw[Hb,if_pos (by have:=eq_of_beq a;omega)]
  exact⟨rfl,by rw[hT]⟩
 have ab:=Jq a;refine Ap (gN rfl a) (Ap (gN rfl a) (l_v (Bn rfl a (v:=bF) rfl) (l_k y (Cg rfl rfl (Al (kk U ?_))))));refine qB (l_v (Lb Acj rfl ht) (Av (iV k) (l_v (Ou rfl rfl (z:=(k:Int)-1) wrE) (Av (.int .u64 (S:Int)) (Av (.int .u64 0) (l_v (Bfu (p:=S) (q:=0) rfl rfl (by omega) (by omega)) (Bj (Cfa Arz) (Bj (Cfa Arz) (Arv (Sq (vs:=[iV ((k:Int)-1),.int .u64 (((S ||| 0):Nat):Int)]) (caps:=[vc,vf,pV rc,pV rb,vl,vt]) rfl (ih (S:=S ||| 0) (C:=C) hc hf hl ht (by rw[Axa];exact hS) hC) Cdz rfl rfl ⟨rfl,rfl,trivial⟩ fun bd bh bk L=>?_))))))))));obtain⟨g,O⟩:=L;replace g:=g.symm;subst g O;refine l_k D (qB (l_v (Em 1) (Av (iV 1) (Ac ?_))));refine We (qA fun aq a4=>l_v (Da rfl rfl) (Asa a4 fun ar a5=>Co rfl rfl (Al (kk a5 ?_))));refine Ai fun au a6=>Ao (qA fun av a7=>?_);obtain⟨I,u⟩:=Ed (xs:=([UW.mk 0,UW.mk (1 <<< k)]:List UW)) (i:=1) (by simp);obtain rfl:(UW.mk (1 <<< k))=I:=Option.some.inj u;refine Arw (Ch 1 Cdu Zt rfl j (q:=1) rfl rfl u) fun bb ae=>l_v (Aga Zt rfl ae) (Au (.int .u64 (((1 <<< k):Nat):Int)) (qE a7 fun aw ax a8 a9=>Av (iV k) ?_));have⟨b4,b5⟩:=At.rng hl;refine l_v (Bc ty3 rfl hl) (l_v (Ek rfl rfl) (Av (.bool ((k:Int)==(lot:Int))) (Ap (gN rfl a) (Ap (gN rfl a) (l_v (Bn rfl a (v:=bF) rfl) (l_k a9 (Cg rfl rfl (Al (kk a8 ?_)))))))));refine qB (l_v (Lb Acj rfl ht) (Av (iV k) (l_v (Ou rfl rfl (z:=(k:Int)-1) wrE) (Av (.int .u64 (S:Int)) (Av (.int .u64 (((1 <<< k):Nat):Int)) (l_v (Bfu (p:=S) (q:=1 <<< k) rfl rfl (by omega) (by omega)) (Bj (Cfa Arz) (Bj (Cfa Arz) (Arv (Sq (vs:=[iV ((k:Int)-1),.int .u64 (((S ||| (1 <<< k)):Nat):Int)]) (caps:=[vc,vf,pV rc,pV rb,vl,vt]) rfl (ih (S:=S ||| (1 <<< k)) (C:=Hb (Bu b F) lot k (S ||| 0) C) hc hf hl ht (Bok hS (by omega)) (Bcj (by omega) (by rw[Axa];exact hS) hC)) Cdz rfl rfl ⟨rfl,rfl,trivial⟩ fun be bi bl M=>?_))))))))));obtain⟨h,P⟩:=M;replace h:=h.symm;subst h P;refine l_k a6 (qB (l_v (Em 2) (Av (iV 2) (Ac ?_))));refine We (qA fun ay aa=>l_v (Da rfl rfl) (Asa aa fun az b8=>Cg rfl rfl (Aj (Cez c) (Bx (x ?_)))));have hT:Hb (Bu b F) lot (k+1) S C=Hb (Bu b F) lot k (S ||| 1 <<< k) (Hb (Bu b F) lot k (S ||| 0) C):=by rw[Hb,if_neg (fun e=>by rw[e]at a;simp at a),Axa]
 exact⟨rfl,by rw[hT]⟩
end
section
def Dz(b:LBook)(l:List Int)(k:Int):Int:=orF (Hd b) (orF (Er l b.fields.length) (if inR k 0 ((b.lots.length:Int)-1) then 0 else 6))
def Tq(b:LBook)(l:List Int)(k:Int)(c:List Int):Int:=orF (Dz b l k) (orF (Er c b.lots.length) (if k∈c then 0 else 6))
def Ga(l:List Int):List Nat:=l.map Int.toNat
def Bnm(b:LBook)(k:Nat):Int:=match b.lots[k]? with|some x=>Eo x|none=>0
theorem Axm{b:LBook}{k:Nat}{x:LLot}(h:b.lots[k]?=some x):Bnm b k=Eo x:=by unfold Bnm;rw[h]
def Sm(b:LBook)(F k:Nat):Span:=⟨Bnm b k-Cw b (Qa b.fields.length F) k,Cw b F k⟩
def Bkm(b:LBook)(k:Nat):List Span:=(List.range b.fields.length).map fun i=>Sm b (1 <<< i) k
theorem Bvt{b:LBook}{l:List Int}{k:Int}(h:Hd b≠0):Dz b l k=Hd b:=Ry h
theorem Bvu{b:LBook}{l:List Int}{k:Int}(h:Hd b=0)(h1:Er l b.fields.length≠0):Dz b l k=Er l b.fields.length:=by unfold Dz;rw[Gr h,Ry h1]
theorem Bju{b:LBook}{l:List Int}{k:Int}(h:Hd b=0)(h1:Er l b.fields.length=0)(h2:inR k 0 ((b.lots.length:Int)-1)=false):Dz b l k=6:=by unfold Dz;rw[Gr h,Gr h1,if_neg (by simp[h2])]
theorem Bjt{b:LBook}{l:List Int}{k:Int}(h:Hd b=0)(h1:Er l b.fields.length=0)(h2:inR k 0 ((b.lots.length:Int)-1)=true):Dz b l k=0:=by unfold Dz;rw[Gr h,Gr h1,if_pos h2]
theorem Bcc{l:List Int}{n:Nat}(h:Er l n=0):∃xs:List Nat,l=Bw xs/\(∀a∈xs,a<n)/\xs.Pairwise (·<·):=by
 have key:∀i,i<l.length->Tf l n i=0:=Fx.1 h;have hat:∀(i:Nat) (z:Int),l[i]?=some z->0<=z/\z<n/\∀(m:Int),0<i->l[i-1]?=some m->m<z:=fun i z hz=>by
  have b:=key i (lZ4.1 hz).1;unfold Tf at b;rw[hz]at b;simp only at b;split at b
  ·rename_i hr;have:=Fz.1 hr;split at b
   ·cases b
   ·rename_i hn;refine⟨by omega,by omega,fun m hi hm=>?_⟩;rw[Wx,hm]at hn;simp only[Amb,not_and]at hn;have:=hn hi;omega
  ·cases b
 refine⟨Ga l,?_,fun a ha=>?_,?_⟩
 ·unfold Ga Bw;rw[Beh]
  conv=>lhs;rw[<-List.map_id l]
  refine Aqa fun z hz=>?_;obtain⟨i,hi⟩:=Sr hz;have:=(hat i z hi).1;show z=((z.toNat:Nat):Int);omega
 ·obtain⟨z,hz,rfl⟩:=Iq.1 ha;obtain⟨i,hi⟩:=Sr hz;have:=hat i z hi;omega
 ·unfold Ga;rw[List.pairwise_map];have lt:∀(d i:Nat) (x y:Int),l[i]?=some x->l[i+d+1]?=some y->x<y:=by
   intro d;induction d with
   | zero=>intro i x y hx hy;exact(hat _ y hy).2.2 x (by omega) hx
   | succ d ih =>
    intro i x y hx hy;have hl:=(lZ4.1 hy).1;have hz:l[i+d+1]?=some l[i+d+1]:=Qj (by omega);have b:=ih i x _ hx hz;have e:=(hat _ y hy).2.2 _ (by omega) (show l[i+(d+1)+1-1]?=some l[i+d+1] from hz);omega
  rw[List.pairwise_iff_getElem];intro i j hi hj hij;have c:=(hat i _ (Qj hi)).1;have:=lt (j-i-1) i l[i] l[j] (Qj hi) (by rw[show i+(j-i-1)+1=j by omega];exact Qj hj);omega
theorem Bib{xs:List Nat}:Ga (Bw xs)=xs:=by
 unfold Ga Bw;rw[Beh]
 conv=>rhs;rw[<-List.map_id xs]
 exact Aqa fun z _=>rfl
def Ahf(n s:Nat):List Nat:=(List.range n).filter (Gw s)
theorem Brr{n s:Nat}:(Ahf n s).Pairwise (·<·):=List.Pairwise.filter _ List.pairwise_lt_range
theorem Brq{n s:Nat}:∀a∈Ahf n s,a<n:=fun a ha=>by simpa using (Ql.1 ha).1
theorem Agz{x n:Nat}(h:x<2^n)(h8:n<=8):Bv x=Ahf n x:=Adn h h8
theorem Aqq{x:Nat}(h:x<256):Bf (Bv x)=x:=by rw[<-Pb h];exact Abh (by omega)
theorem Bos{b:LBook}{l c:List Int}{k:Int}(h:Dz b l k=0)(h1:Er c b.lots.length=0)(h2:k∈c):Tq b l k c=0:=by unfold Tq;rw[Gr h,Gr h1,if_pos h2]
section
variable{b:LBook}{k s t:Nat}{x:LLot}
theorem Axn(ok:LotsOk b)(hx:b.lots[k]?=some x)(F:Nat):Hx b F k<256:=Nn (Aqr hx F).2 (Aih (by omega) ok.nl:2^b.lots.length<=2^8)
end
end
section
theorem Atg{l:List ByteArray}{s:ByteArray}:(Ic l s).isSome=true↔0<=Aht l s:=by
 rw[Qg];unfold Ic;by_cases h:s∈l
 ·rw[Adm h];simp[h]
 ·rw[Aiu h];simp[h,Ams]
theorem Bla{l:List ByteArray}{i:Nat}{s:ByteArray}(h:l[i]?=some s)(hn:Hg s=true)(hf:Aht (l.take i) s>=0):Jp l i=5:=Uk h (Atx hn (Atg.2 hf))
theorem Bkz{l:List ByteArray}{i:Nat}{s:ByteArray}(h:l[i]?=some s)(hn:Hg s=false):Jp l i=4:=Uk h (Atw hn)
theorem Bky{l:List ByteArray}{i:Nat}{s:ByteArray}(h:l[i]?=some s)(hn:Hg s=true)(hf:¬Aht (l.take i) s>=0):Jp l i=0:=Uk h (Ber hn (Aqb.2 fun h'=>hf (Atg.1 h')))
section
variable{b:LBook}{i k:Nat}{x y:LLot}{p:LPart}{s:ByteArray}{fs:List ByteArray}{l:List LLot}
theorem Aos:(Ix (Ic fs) l s).isSome=true↔Aht fs s>=0∨Dm l s>=0:=by
 have c:Dm l s>=0↔s∈Fl l:=Qg;rw[c];constructor
 ·intro h;rcases Agc h with a|a
  ·exact .inl (Atg.1 a)
  ·exact .inr a
 ·intro h;cases hm:(Ix (Ic fs) l s).isSome with
  | true=>rfl
  | false =>
   obtain⟨a,b⟩:=Aqo hm;rcases h with h|h
   ·rw[Atg.2 h]at b;cases b
   ·exact absurd h a
theorem Aot(h1:¬Aht fs s>=0)(h2:¬Dm l s>=0):(Ix (Ic fs) l s).isSome=false:=Aqb.2 fun h=>(Aos.1 h).elim h1 h2
theorem Btc(h5:b.fields.length<=5)(hf:∀j,j<b.fields.length->Jp b.fields j=0)(h8:b.lots.length<=8)(hl:∀j,j<i->Nr b j=0):LotsOk ⟨b.fields,b.lots.take i⟩:=by refine Tp (Yk h5 (Fb hf) (by show (b.lots.take i).length<=8;rw[Jb];omega) (Fb fun j hj=>?_));replace hj:j<(b.lots.take i).length:=hj;rw[Jb]at hj;have:=hl j (by omega);unfold Nr at this ⊢;show (match (b.lots.take i)[j]? with|some x=>Afx (Ix (Ic b.fields) ((b.lots.take i).take j)) (tkM ((b.lots.take i).take j)) x|none=>0)=0;rw[Afp (by omega),List.take_take,Als (by omega)];exact this
theorem Bpv{s:ByteArray}:∀{ps:List LPart},(∀q∈ps,q.of_≠s)->Sn s ps=0
 | [],_=>rfl
 | p::ps,h=>by rw[Sn,if_neg (fun e=>h p mC e.symm),Bpv fun q hq=>h q (lZ0 _ hq)];rfl
theorem Bmz(ok:LotsOk b){j:Nat}(hy:b.lots[j]?=some y):y.name∉Fl (b.lots.drop (j+1)):=fun hm=>by
 unfold Fl at hm;obtain⟨z,hz,hzn⟩:=Iq.1 hm;obtain⟨t,ht⟩:=Sr hz;rw[Ama]at ht;refine(ok.lnm _ z ht).2.2.1 ?_;rw[hzn];unfold Fl;exact Iq.2 ⟨y,lZ5 (i:=j) (by rw[Afp (by omega)];exact hy),rfl⟩
theorem Bep(ok:LotsOk b){j:Nat}(hy:b.lots[j]?=some y)(f:Iz):Ix f b.lots y.name=some (Eo y):=by
 have e:b.lots=b.lots.take j++y::b.lots.drop (j+1):=by rw[<-Avq hy,Aig]
 rw[e];exact Axl (Bmz ok hy)
theorem Wf(h:0<=Dm l s):∃y,l[(Dm l s).toNat]?=some y/\y.name=s:=by
 have a:(Fl l)[(Dm l s).toNat]?=some s:=Adg h;unfold Fl at a;rw[Oz]at a;cases hy:l[(Dm l s).toNat]? with
 | none=>rw[hy]at a;cases a
 | some y=>rw[hy]at a;exact⟨y,rfl,Option.some.inj a⟩
theorem Bvm{ps:List LPart}(hs:Ib ps s=false):(tkP (tkM l) ps s).getD 0=tkO s l:=by rw[Ajc];unfold tkM;rw[Auf,Bpv (Bfj hs)];simp[Ams]
theorem Bfb(ok:LotsOk ⟨fs,l⟩){ps:List LPart}(hs:Ib ps p.of_=false)(hr:inR p.grams 1 100000=true)(hx:Dm l p.of_>=0)(hy:l[(Dm l p.of_).toNat]?=some y)(h:tkO p.of_ l+p.grams>Eo y):Sg (Ix (Ic fs) l) (tkM l) ps p=8:=by
 obtain⟨y',hy',hn⟩:=Wf hx;rw[hy]at hy';cases hy';have hm:=Bep ok hy (Ic fs);rw[hn]at hm;refine Beo (Aos.2 (.inr hx)) hs hr ?_ ?_
 ·rw[show Ix (Ic fs) l p.of_=some (Eo y) from hm];exact(Pq ok hy).1
 ·rw[show Ix (Ic fs) l p.of_=some (Eo y) from hm,Bvm hs];exact h
theorem Axy(ok:LotsOk ⟨fs,l⟩){ps:List LPart}(hs:Ib ps p.of_=false)(hr:inR p.grams 1 100000=true)(hx:Dm l p.of_>=0)(hy:l[(Dm l p.of_).toNat]?=some y)(h:¬tkO p.of_ l+p.grams>Eo y):Sg (Ix (Ic fs) l) (tkM l) ps p=0:=by obtain⟨y',hy',hn⟩:=Wf hx;rw[hy]at hy';cases hy';have hm:=Bep ok hy (Ic fs);rw[hn]at hm;refine Aix (Aos.2 (.inr hx)) hs hr fun _=>?_;rw[show Ix (Ic fs) l p.of_=some (Eo y) from hm,Bvm hs];exact Int.not_lt.1 h
theorem Axx{m':Iz}{ps:List LPart}(hs:Ib ps p.of_=false)(hr:inR p.grams 1 100000=true)(hx:¬Dm l p.of_>=0)(hf:Aht fs p.of_>=0):Sg (Ix (Ic fs) l) m' ps p=0:=by refine Aix (Aos.2 (.inl hf)) hs hr fun h=>?_;exfalso;rw[Aiw (fun hm=>hx (Qg.2 hm))]at h;unfold Ic at h;rw[Adm (Qg.1 hf)]at h;simp at h
end
theorem Bch{s:ByteArray}:∀{l:List LLot},(∀x∈l,x.parts.length<=6/\∀p∈x.parts,1<=p.grams/\p.grams<=100000)->0<=tkO s l/\tkO s l<=600000*(l.length:Int)
 | [],_=>⟨Abx _,Abx _⟩
 | x::l,h=>by
  have ih:=Bch (s:=s) fun z hz=>h z (lZ0 _ hz);obtain⟨c,hg⟩:=h x mC;have key:∀{ps:List LPart},(∀p∈ps,1<=p.grams/\p.grams<=100000)->0<=Sn s ps/\Sn s ps<=100000*(ps.length:Int):=by
   intro ps;induction ps with
   | nil=>intro _;exact⟨Abx _,Abx _⟩
   | cons p ps ih =>
    intro h;have a:=h p mC;have b:=ih fun q hq=>h q (lZ0 _ hq);rw[Sn,lZ9];split<;>omega
  have:=key hg;rw[tkO,lZ9];omega
theorem Rx{b:LBook}(ok:LotsOk b):∀x∈b.lots,x.parts.length<=6/\∀p∈x.parts,1<=p.grams/\p.grams<=100000:=fun x hx=>by
 obtain⟨i,hi⟩:=Sr hx;refine⟨(ok.lnm i x hi).2.2.2.2,fun p hp=>?_⟩;obtain⟨k,hk⟩:=Sr hp;have:=ok.prt i x k p hi hk;exact⟨this.2.2.1,this.2.2.2.1⟩
theorem Arf{s:ByteArray}{l:List LPart}{i:Nat}{p:LPart}(h:l[i]?=some p):Sn s (l.take (i+1))=Sn s (l.take i)+(if s=p.of_ then p.grams else 0):=by
 have app:∀{a c:List LPart},Sn s (a++c)=Sn s a+Sn s c:=by
  intro a c;induction a with
  | nil=>simp[Sn]
  | cons q a ih=>rw[Sz,Sn,Sn,ih];omega
 rw[Wa,h,app];simp[Sn]
theorem Bpw{s:ByteArray}{l:List LLot}{i:Nat}{x:LLot}(h:l[i]?=some x):tkO s (l.take (i+1))=tkO s (l.take i)+Sn s x.parts:=by
 have app:∀{a c:List LLot},tkO s (a++c)=tkO s a+tkO s c:=by
  intro a c;induction a with
  | nil=>simp[tkO]
  | cons q a ih=>rw[Sz,tkO,tkO,ih];omega
 rw[Wa,h,app];simp[tkO]
theorem Cbx{a b:ByteArray}(h:(a.toList==b.toList)=true):b=a:=(toList_eq (eq_of_beq h)).symm
theorem Cbw{a b:ByteArray}(h:(a.toList==b.toList)=false):b≠a:=fun e=>by rw[e]at h;simp at h
end
section
theorem Bac{mn:Bool}{X:Frame->List Frame->Ro->Own->Cy->Prop}{b:LBook}{F lot rc rb:Nat}{vc vf vl vt:Value}(ok:LotsOk b)(hF:F<2^63):∀{k:Nat},k<=8->∀{Y:Ro} {Z:Own} {S C:Nat},At Y vc (Ptr.mk (⟨b,frD b⟩:Cel):Ptr Cel)->At Y vf (UW.mk F)->At Y vl (lot:Int)->At Y vt (RawV.mk (.func (.func 85) #[] #[vc,vf,pV rc,pV rb,vl,vt]))->S<256->C<256->CallsH (CX mn X) 85 #[iV ((k:Int)-1),.int .u64 (S:Int),vc,vf,pV rc,pV rb,vl,vt] Y ((rc,oC #[.int .u64 (C:Int)] 98)::(rb,oC #[iV (Bu b F C)] 3)::Z) (fun w Y' Z'=>Y'=Y/\Z'=(rc,oC #[.int .u64 (((Hb (Bu b F) lot k S C):Nat):Int)] 98)::(rb,oC #[iV (Bu b F (Hb (Bu b F) lot k S C))] 3)::Z)
 | 0,_=>fun hc hf hl ht hS hC=>Bwg ok hc hf hl ht hF hS hC
 | k+1,hk=>by
  intro hc hf hl ht hS hC;have e:(((k+1:Nat):Int)-1)=(k:Int):=by omega
  rw[e];exact Bwh ok hc hf hl ht hF hS hC (by omega) (fun hc hf hl ht hS hC=>Bac ok hF (k:=k) (by omega) hc hf hl ht hS hC)
theorem Bql:Fw Tryz.prog 201 .nilFunc:=⟨_,Ab Tryz.typeInfo201,rfl⟩
abbrev Bqi:List Value:=[.nilFunc]
theorem Afd{α:Type}[BEq α]{a c:α}{v:Bool}(h:(a==c)=v):(a != c) = !v:=by show (!(a==c))=_;rw[h]
theorem Btl{N F:Nat}(h:N<=5):Qa N F<32/\2^N-1<32:=by have a:2^N-1<2^5:=Nn (Nat.sub_lt (Nat.two_pow_pos N) (by omega)) (Aih (by omega) h);exact⟨Nat.xor_lt_two_pow (n:=5) a (Bdv Aop a),a⟩
theorem Axz{b:LBook}{i:Nat}{x:LLot}(ok:LotsOk b)(hx:b.lots[i]?=some x):∀p∈x.parts,0<=p.grams/\p.grams<=100000:=fun p hp=>by
 obtain⟨k,hk⟩:=Sr hp;have:=ok.prt i x k p hx hk;omega
variable{mn:Bool}{X:Frame->List Frame->Ro->Own->Cy->Prop}{Y:Ro}{Z:Own}
theorem Aso{b:LBook}{F k:Nat}{vc:Value}(ok:LotsOk b)(hc:At Y vc (⟨b,frD b⟩:Cel))(hF:F<2^63)(hk:k<b.lots.length):CallsH (CX mn X) 51 #[vc,.int .u64 (F:Int),iV k] Y Z (rP Y Z (.tuple #[iV (Cw b F k),.int .u64 (((Hx b F k):Nat):Int)])):=by
 have hnl:=ok.nl;have hsh:=Aha (n:=k) (by omega);refine Bq 30 [6,7] Cer rfl fun Q N az=>qA fun K1 k1=>Arv (Jl (v:=vc) rfl fun f=>?_);refine Bb (a:=Ptr.mk (⟨b,frD b⟩:Cel)) (Ir.2 hc) fun bb P d=>Arv (Jl (v:=.int .u64 (F:Int)) rfl fun g=>?_);refine Bb (a:=UW.mk F) (Rq.2 rfl) fun bd M m=>?_;replace d:=At.mono M d;refine Arv (Jl (v:=iV k) rfl fun h=>?_);refine Bb (a:=(k:Int)) (Cv.2 ⟨rfl,by constructor<;>omega⟩) fun bf G e=>?_
 replace d:=At.mono G d;replace m:=At.mono G m;refine Au (iV 0) (Au (.int .u64 0) (Asa k1 fun K5 O=>Rw (Fd 0 (zT 1 6) rfl (Ax Aui rfl d) fun v6 J=>?_)));replace J:=Ir.1 J;refine Ef 1 (zT 2 5) rfl (Aga Zt rfl m) ?_;have⟨ax,ay⟩:=At.rng e;refine Ef 2 (zT 3 4) rfl (Bc ty3 rfl e) (Ef 3 (zT 4 3) rfl (Md (p:=1) (q:=k) rfl rfl rfl (by omega) (z:=(((1 <<< k):Nat):Int)) hsh.1) (Acq (i:=4) (j:=5) (zT 5 2) [o1,o1,o1,o1,o0,o1,o0] rfl rfl (by kernel_rfl) rfl rfl rfl rfl ?_ ?_))
 ·refine Bm (vs:=[v6,.int .u64 (F:Int),.int .u64 (((1 <<< k):Nat):Int)]) (v:=iV (Bu b F (1 <<< k))) (Acx ok J (by omega) (by omega)) Cej rfl rfl ⟨rfl,rfl,rfl,trivial⟩ ⟨Cfb,?_⟩;refine Ma 5 (zT 6 1) rfl (Ct zr3 fun x=>⟨Cfb,?_⟩);refine Zd 6 (zT 7 0) rfl (Cz (j:=0) (v:=iV (Bu b F (1 <<< k))) ty3.2 rfl rfl rfl rfl nL ⟨Cfb,?_⟩);refine Ec rfl (kk O ?_);refine qA fun af a1=>?_;have⟨ap,aq⟩:=At.rng e;refine l_v (Bc ty3 rfl e) (l_v (Md (p:=1) (q:=k) rfl rfl rfl (by omega) (z:=(((1 <<< k):Nat):Int)) hsh.1) (Arv (Ct Aai fun t=>?_)));refine Cx rfl (Cz (j:=0) (v:=.int .u64 (((1 <<< k):Nat):Int)) Zt.2 rfl rfl rfl rfl nL ?_);refine qC a1 fun ag a2=>Arv (Ct Bql fun y=>?_);refine qC a2 fun ah a3=>l_v (Il (fn:=.func 85) (caps:=[.tmp 3,.tmp 4,.tmp 9,.tmp 8,.tmp 5,.tmp 10]) (vs:=[pV f,pV g,pV t,pV x,pV h,pV y]) ⟨rfl,rfl,rfl,rfl,rfl,rfl,trivial⟩) (Cx rfl (Dv (v:=.func (.func 85) #[] #[pV f,pV g,pV t,pV x,pV h,pV y]) (a:=RawV.mk (.func (.func 85) #[] #[pV f,pV g,pV t,pV x,pV h,pV y])) (c:=Bqi) Acj rfl rfl (Sp rfl) rfl ?_));refine Bb (a:=RawV.mk (.func (.func 85) #[] #[pV f,pV g,pV t,pV x,pV h,pV y])) (Sp rfl) fun ba D R=>?_;replace d:=At.mono D d;replace m:=At.mono D m;replace e:=At.mono D e;refine Asa a3 fun ai a4=>Rw (Ef 0 zZ2 rfl (Lb Acj rfl R) (Fm 1 zZ3 rfl (Ax Aui rfl d) fun b0 H=>?_));replace H:=Ir.1 H;refine Cf 2 zZ4 rfl (Hj rfl H) (Fm 3 zZ6 rfl (Ba Cel.f_b Cdi rfl Gt H) fun b1 ab=>Fm 4 zZ7 rfl (Ba LBook.f_lots Cct rfl Dy ab) fun b2 ac=>Fm 5 zZ8 rfl (Ax Dy rfl ac) fun b3 T=>?_);have ar:=Val.len T;refine Cf 6 zZ5 rfl (Ci (el:=51) Ccw rfl T) (Cf 7 zZ0 rfl (Ou rfl rfl (z:=(b.lots.length:Int)-1) wrE) (Ej (Cfa Arz) id (Ej (Cfa Arz) id (Ma 8 zZ1 rfl (Sq (vs:=[iV ((b.lots.length:Int)-1),.int .u64 0]) (caps:=[pV f,pV g,pV t,pV x,pV h,pV y]) rfl (Bac ok hF (k:=b.lots.length) (lot:=k) (S:=0) (C:=1 <<< k) hnl d m e R (by decide) hsh.2) Cdz rfl rfl ⟨rfl,rfl,trivial⟩ fun b8 bc bh W=>?_)))));obtain⟨K,ZQ⟩:=W;replace K:=K.symm;subst K ZQ;refine⟨Cfb,?_⟩;refine Ec rfl (kk a4 ?_);refine Ai fun aj a5=>Og ((t,oC #[.int .u64 (((Hb (Bu b F) k b.lots.length 0 (1 <<< k)):Nat):Int)] 98)::((x,oC #[iV (Bu b F (Hb (Bu b F) k b.lots.length 0 (1 <<< k)))] 3)::[])) [0,1,2,3] (by kernel_rfl) rfl rfl (Dr 0 [o1,o0,o0,o0] rfl ⟨Cfb,sB⟩ rfl (Fj (v:=iV (Bu b F (Hb (Bu b F) k b.lots.length 0 (1 <<< k)))) ty3.1 rfl (lZ0 _ mC) rfl) (Dr 1 [o1,o1,o0,o0] rfl ⟨Cfb,sB⟩ rfl (Fj (v:=.int .u64 (((Hb (Bu b F) k b.lots.length 0 (1 <<< k)):Nat):Int)) Zt.1 rfl mC rfl) (Dd 2 [o1,o1,o1,o0] rfl ⟨Cfb,sB⟩ rfl (Yld.o (Cp (v:=iV (Bu b F (Hb (Bu b F) k b.lots.length 0 (1 <<< k)))) rfl)) ⟨Cfb,sB⟩ (Dd 3 [o1,o1,o1,o1] rfl ⟨Cfb,sB⟩ rfl (Yld.o (Cp (v:=.int .u64 (((Hb (Bu b F) k b.lots.length 0 (1 <<< k)):Nat):Int)) rfl)) ⟨Cfb,sB⟩ (Se rfl (kk a5 ?_))))));refine Aj Ghost.drop (Aj Ghost.drop (Aj (Cez (Cfc (Cfc (Cfc P M) G) D)) (Aq (N ⟨rfl,rfl,Eq.trans (b:=.tuple #[iV (Bu b F (Hb (Bu b F) k b.lots.length 0 (1 <<< k))),.int .u64 (((Hb (Bu b F) k b.lots.length 0 (1 <<< k)):Nat):Int)]) (Mp (r:=6) (r':=7) (rs:=[]) (v:=iV (Bu b F (Hb (Bu b F) k b.lots.length 0 (1 <<< k)))) (v':=.int .u64 (((Hb (Bu b F) k b.lots.length 0 (1 <<< k)):Nat):Int)) (vs:=[]) ⟨rfl,rfl,trivial⟩) ?_⟩))));rfl
 ·refine Ct zr3 fun u=>⟨Cfb,?_⟩;refine Ma 4 (zT 6 1) rfl (Bm (Acx ok J (by omega) (by omega)) Cej rfl rfl ⟨rfl,rfl,rfl,trivial⟩ ⟨Cfb,?_⟩);refine Zd 6 (zT 7 0) rfl (Cz (j:=0) (v:=iV (Bu b F (1 <<< k))) ty3.2 rfl rfl rfl rfl nL ⟨Cfb,?_⟩);refine Ec rfl (kk O ?_);refine qA fun ak a6=>?_;have⟨au,av⟩:=At.rng e;refine l_v (Bc ty3 rfl e) (l_v (Md (p:=1) (q:=k) rfl rfl rfl (by omega) (z:=(((1 <<< k):Nat):Int)) hsh.1) (Arv (Ct Aai fun w=>?_)));refine Cx rfl (Cz (j:=0) (v:=.int .u64 (((1 <<< k):Nat):Int)) Zt.2 rfl rfl rfl rfl nL ?_);refine qC a6 fun al a7=>Arv (Ct Bql fun B=>?_);refine qC a7 fun am a8=>l_v (Il (fn:=.func 85) (caps:=[.tmp 3,.tmp 4,.tmp 9,.tmp 8,.tmp 5,.tmp 10]) (vs:=[pV f,pV g,pV w,pV u,pV h,pV B]) ⟨rfl,rfl,rfl,rfl,rfl,rfl,trivial⟩) (Cx rfl (Dv (v:=.func (.func 85) #[] #[pV f,pV g,pV w,pV u,pV h,pV B]) (a:=RawV.mk (.func (.func 85) #[] #[pV f,pV g,pV w,pV u,pV h,pV B])) (c:=Bqi) Acj rfl rfl (Sp rfl) rfl ?_));refine Bb (a:=RawV.mk (.func (.func 85) #[] #[pV f,pV g,pV w,pV u,pV h,pV B])) (Sp rfl) fun be E U=>?_;replace d:=At.mono E d;replace m:=At.mono E m;replace e:=At.mono E e;refine Asa a8 fun an a9=>Rw (Ef 0 zZ2 rfl (Lb Acj rfl U) (Fm 1 zZ3 rfl (Ax Aui rfl d) fun b4 I=>?_));replace I:=Ir.1 I;refine Cf 2 zZ4 rfl (Hj rfl I) (Fm 3 zZ6 rfl (Ba Cel.f_b Cdi rfl Gt I) fun b5 ad=>Fm 4 zZ7 rfl (Ba LBook.f_lots Cct rfl Dy ad) fun b6 ae=>Fm 5 zZ8 rfl (Ax Dy rfl ae) fun b7 V=>?_);have aw:=Val.len V;refine Cf 6 zZ5 rfl (Ci (el:=51) Ccw rfl V) (Cf 7 zZ0 rfl (Ou rfl rfl (z:=(b.lots.length:Int)-1) wrE) (Ej (Cfa Arz) id (Ej (Cfa Arz) id (Ma 8 zZ1 rfl (Sq (vs:=[iV ((b.lots.length:Int)-1),.int .u64 0]) (caps:=[pV f,pV g,pV w,pV u,pV h,pV B]) rfl (Bac ok hF (k:=b.lots.length) (lot:=k) (S:=0) (C:=1 <<< k) hnl d m e U (by decide) hsh.2) Cdz rfl rfl ⟨rfl,rfl,trivial⟩ fun b9 bg bi YQ=>?_)))));obtain⟨L,a0⟩:=YQ;replace L:=L.symm;subst L a0;refine⟨Cfb,?_⟩;refine Ec rfl (kk a9 ?_);refine Ai fun ao aa=>Og ((w,oC #[.int .u64 (((Hb (Bu b F) k b.lots.length 0 (1 <<< k)):Nat):Int)] 98)::((u,oC #[iV (Bu b F (Hb (Bu b F) k b.lots.length 0 (1 <<< k)))] 3)::[])) [0,1,2,3] (by kernel_rfl) rfl rfl (Dr 0 [o1,o0,o0,o0] rfl ⟨Cfb,sB⟩ rfl (Fj (v:=iV (Bu b F (Hb (Bu b F) k b.lots.length 0 (1 <<< k)))) ty3.1 rfl (lZ0 _ mC) rfl) (Dr 1 [o1,o1,o0,o0] rfl ⟨Cfb,sB⟩ rfl (Fj (v:=.int .u64 (((Hb (Bu b F) k b.lots.length 0 (1 <<< k)):Nat):Int)) Zt.1 rfl mC rfl) (Dd 2 [o1,o1,o1,o0] rfl ⟨Cfb,sB⟩ rfl (Yld.o (Cp (v:=iV (Bu b F (Hb (Bu b F) k b.lots.length 0 (1 <<< k)))) rfl)) ⟨Cfb,sB⟩ (Dd 3 [o1,o1,o1,o1] rfl ⟨Cfb,sB⟩ rfl (Yld.o (Cp (v:=.int .u64 (((Hb (Bu b F) k b.lots.length 0 (1 <<< k)):Nat):Int)) rfl)) ⟨Cfb,sB⟩ (Se rfl (kk aa ?_))))));refine Aj Ghost.drop (Aj Ghost.drop (Aj (Cez (Cfc (Cfc (Cfc P M) G) E)) (Aq (N ⟨rfl,rfl,Eq.trans (b:=.tuple #[iV (Bu b F (Hb (Bu b F) k b.lots.length 0 (1 <<< k))),.int .u64 (((Hb (Bu b F) k b.lots.length 0 (1 <<< k)):Nat):Int)]) (Mp (r:=6) (r':=7) (rs:=[]) (v:=iV (Bu b F (Hb (Bu b F) k b.lots.length 0 (1 <<< k)))) (v':=.int .u64 (((Hb (Bu b F) k b.lots.length 0 (1 <<< k)):Nat):Int)) (vs:=[]) ⟨rfl,rfl,trivial⟩) ?_⟩))));rfl
theorem Brl{b:LBook}{F k:Nat}{vc:Value}(ok:LotsOk b)(hc:At Y vc (⟨b,frD b⟩:Cel))(hF:F<2^63)(hk:k<b.lots.length):CallsH (CX mn X) 34 #[vc,.int .u64 (F:Int),iV k] Y Z (fun w Y' Z'=>Ro.le Y Y'/\Z'=Z/\Val Y' w (Sm b F k:Span)):=by
 obtain⟨L,M⟩:=Btl (F:=F) ok.nf;refine Lt (n:=41) (args:=[vc,.int .u64 (F:Int),iV k]) [.cell 6 53] Tryz.func34 rfl rfl rfl rfl fun Q d K=>qA fun C e=>Arv (Ct Aak fun N=>?_);refine qC e fun D f=>Av vc (Av vc (Arv (Cj (Bwd ok hc) Tryz.func35 ?_)));refine Av (.int .u64 (F:Int)) (l_v (Bjj (p:=2^b.fields.length-1) (q:=F) rfl rfl (by omega)) (Av (iV k) (Arv (Cj (Aso (F:=Qa b.fields.length F) ok hc (by omega) hk) Cer ?_))));refine Av (.tuple #[iV (Cw b (Qa b.fields.length F) k),.int .u64 (((Hx b (Qa b.fields.length F) k):Nat):Int)]) (l_v (Cr (iV (Cw b (Qa b.fields.length F) k))) (l_v (Cr (.int .u64 (((Hx b (Qa b.fields.length F) k):Nat):Int))) (Au (iV (Cw b (Qa b.fields.length F) k)) (Au (.int .u64 (((Hx b (Qa b.fields.length F) k):Nat):Int)) (qC f fun E g=>Av vc (Av (.int .u64 (F:Int)) (Av (iV k) (Arv (Cj (Aso (F:=F) ok hc (by omega) hk) Cer ?_)))))))));refine Av (.tuple #[iV (Cw b F k),.int .u64 (((Hx b F k):Nat):Int)]) (l_v (Cr (iV (Cw b F k))) (l_v (Cr (.int .u64 (((Hx b F k):Nat):Int))) (Au (iV (Cw b F k)) (Au (.int .u64 (((Hx b F k):Nat):Int)) (qC g fun G h=>Av vc (l_v (Hj rfl hc) (Arw (Ba Cel.f_b Cdi rfl Gt hc) fun R t=>Arw (Ba LBook.f_lots Cct rfl Dy t) fun T u=>Arw (Ax Dy rfl u) fun U y=>Av (iV k) ?_)))))));obtain⟨a,c⟩:=Ed (xs:=b.lots) (i:=k) (by omega);have H:=(ok.lnm _ _ c).2.2.2.2;have hmb:=Pq ok c;have I:=Zs ok c (Qa b.fields.length F);have J:=Zs ok c F;refine Arw (Ch k Ccw Gk rfl y (q:=(k:Int)) rfl rfl c) fun V B=>Arw (Ax Gk rfl B) fun P j=>Arv (Cj (Asn j (by omega) (Axz ok c)) Ceq ?_);refine Av (iV (Cw b (Qa b.fields.length F) k)) (l_v (Ou rfl rfl (z:=(Eo a)-(Cw b (Qa b.fields.length F) k)) (Bo (by rfl) (by omega) (by omega))) (Av (iV (Cw b F k)) ?_));have O:Val Y (.agg #[iV ((Eo a)-(Cw b (Qa b.fields.length F) k)),iV (Cw b F k)]) (⟨(Eo a)-(Cw b (Qa b.fields.length F) k),Cw b F k⟩:Span):=Span.shut (x:=(⟨(Eo a)-(Cw b (Qa b.fields.length F) k),Cw b F k⟩:Span)) (iC ((Eo a)-(Cw b (Qa b.fields.length F) k))) (iC (Cw b F k));refine l_v (Dn (ns:=[1,1]) (vs:=[(0,(iV ((Eo a)-(Cw b (Qa b.fields.length F) k)))),(1,(iV (Cw b F k)))]) (zc:=Arm) (cs:=[iV ((Eo a)-(Cw b (Qa b.fields.length F) k)),iV (Cw b F k)]) Ceb Aak rfl ⟨ty3.2,ty3.2,trivial⟩ (EvB.map ⟨⟨rfl,rfl⟩,⟨rfl,rfl⟩,trivial⟩) ((Be (cs:=[iV ((Eo a)-(Cw b (Qa b.fields.length F) k))]) rfl rfl nL).trans ((Be (cs:=[iV (Cw b F k)]) rfl rfl nL).trans rfl))) (Cx rfl (Li (i:=0) (vs:=[iV ((Eo a)-(Cw b (Qa b.fields.length F) k)),iV (Cw b F k)]) (c':=[iV ((Eo a)-(Cw b (Qa b.fields.length F) k)),iV (Cw b F k)]) Mx.2 rfl rfl rfl rfl (Zh ⟨rfl,rfl,trivial⟩) rfl nL rfl ?_));refine l_k h (Aq ?_);have m:Val Y (.agg #[iV ((Eo a)-(Cw b (Qa b.fields.length F) k)),iV (Cw b F k)]) (⟨(Eo a)-(Cw b (Qa b.fields.length F) k),Cw b F k⟩:Span):=Span.shut (x:=(⟨(Eo a)-(Cw b (Qa b.fields.length F) k),Cw b F k⟩:Span)) (iC ((Eo a)-(Cw b (Qa b.fields.length F) k))) (iC (Cw b F k));refine d _ _ _ _ _ [.agg #[iV ((Eo a)-(Cw b (Qa b.fields.length F) k)),iV (Cw b F k)]] ⟨Qh Mx.1 Mx.2 rfl (i:=0) rfl rfl,trivial⟩ Ghost.drop ⟨Cfb,rfl,Abz (v:=.agg #[iV ((Eo a)-(Cw b (Qa b.fields.length F) k)),iV (Cw b F k)]) rfl (Val.cast ?_ m)⟩
 ·unfold Sm;rw[Axm c]
theorem Ake{b:LBook}{l:List Int}{k:Int}{vb vl:Value}(rv:Val Y vb b)(rl:Val Y vl l):CallsH (CX mn X) 33 #[vb,vl,iV k] Y Z (fun w Y' Z'=>Ro.le Y Y'/\Z'=Z/\∃p,w=(.tuple #[p,iV (Dz b l k)])/\(Dz b l k=0->At Y' p (⟨b,frD b⟩:Cel))):=by
 refine Bq 34 [6,7] Cen rfl fun Q h am=>qA fun K1 G=>Arv (Jl (v:=vb) rfl fun k2=>?_);refine Bb (a:=b) rv fun aw g i=>?_;replace rl:=Val.mono g rl;refine Au (.pointer none) (Au (iV 0) (Arx rfl rfl G fun K3 N=>Arw (Ax Gt rfl i) fun v4 r4=>Arv (Cj (Ahe r4) Tryz.func16 ?_)));refine Au (iV (Hd b)) (Ary rfl rfl N fun K5 K6 C V=>Av (iV (Hd b)) (l_v (Ek rfl rfl) (l_k V (Bp (t:=(Hd b)==0) rfl (fun d=>?_) (fun d=>?_)))))
 ·have ok:=Tp (eq_of_beq d);have hnf:=ok.nf;have hnl:=ok.nl;have ZQ:=Jr d;refine qB (Av vl (Arw (Ba LBook.f_fields Cct rfl Hw i) fun v8 r8=>Arw (Ax Hw rfl r8) fun v9 E=>?_));have ak:=Val.len E;refine l_v (Ci (el:=9) Ccv rfl E) (Arv (Cj (Avi (b:=b.fields.length) rl (by omega)) Tryz.func40 ?_));refine Au (iV (Er l (b.fields.length:Int))) (Ary rfl rfl C fun a4 a5 n B=>Av (iV (Er l (b.fields.length:Int))) (l_v (Ek rfl rfl) (Av (.bool ((Er l (b.fields.length:Int))==0)) (Cn ((Er l (b.fields.length:Int))==0) (fun c=>?_) (fun c=>?_)))))
  ·have YQ:=Jr c;refine l_M (iV k) (qF c) rfl (Ak (qF c) (Ba LBook.f_lots Cct rfl Dy i) fun au a0=>Ak (qF c) (Ax Dy rfl a0) fun av D=>?_);have al:=Val.len D;refine Aa (qF c) (Ci (el:=51) Ccw rfl D) (Aa (qF c) (Ou rfl rfl (z:=(b.lots.length:Int)-1) wrE) (Ae (qF c) (Cj Qx Cdy ?_)));refine Aa (qF c) (Iy rfl) (l_v (Bt rfl c (v:=.bool (!(inR k 0 ((b.lots.length:Int)-1)))) rfl) (l_k B (Bp (t:=!(inR k 0 ((b.lots.length:Int)-1))) rfl (fun j=>?_) (fun j=>?_))))
   ·have u:=not_eq_t j;have aq:=Xo.1 u;refine qB (Au (iV 6) (qE n fun a6 a7 an H=>Av (iV 6) (l_v (Dg rfl rfl) (l_k H (Co rfl rfl (qA fun a8 I=>Av (iV 6) (Au (.pointer none) (Au (iV 6) (l_k I (Aq (h ?_)))))))))));have hq:Dz b l k=6:=Bju (eq_of_beq d) (eq_of_beq c) u;exact⟨g,rfl,_,Eq.trans (Mp (r:=6) (r':=7) (rs:=[]) (v:=.pointer none) (v':=iV 6) (vs:=[]) ⟨rfl,rfl,trivial⟩) (by rw[hq]),fun f=>by rw[hq]at f;cases f⟩
   have y:=Fp j;have ar:=Fz.1 y;refine Al (kk n ?_);refine qD fun a9 aa J K=>Av (iV (Er l (b.fields.length:Int))) (l_v (Dg rfl rfl) (l_k K (Cg rfl (Afd c) (Al (kk J ?_)))));refine qA fun ab L=>Arw (Ax Gt rfl i) fun a3 a1=>Arv (Cm (vs:=[a3]) (Brh a1 hnl (fun x hx=>(Rx ok x hx).1)) Tryz.func41 rfl rfl ⟨rfl,trivial⟩ fun q ax ay F=>?_);obtain⟨W,m,a2⟩:=F;replace m:=m.symm;subst m;refine Au q (Au (iV 0) (l_k L (Aq (h ?_))));have hq:Dz b l k=0:=Bjt (eq_of_beq d) (eq_of_beq c) y;exact⟨(Cfc g W),rfl,_,Eq.trans (Mp (r:=6) (r':=7) (rs:=[]) (v:=q) (v':=iV 0) (vs:=[]) ⟨rfl,rfl,trivial⟩) (by rw[hq]),fun _=>atE (p:=q) rfl a2⟩
  have YQ:=Jq c;refine Ap (gN rfl c) (Ap (gN rfl c) (Ap (gN rfl c) (Ap (gN rfl c) (Ap (gN rfl c) (Ap (gN rfl c) (Ap (gN rfl c) (l_v (Bn rfl c (v:=bF) rfl) (l_k B (Cg rfl rfl (Al (kk n ?_)))))))))));refine qD fun ac ad ao M=>Av (iV (Er l (b.fields.length:Int))) (l_v (Dg rfl rfl) (l_k M (Co rfl (Afd c) (qA fun ae O=>Av (iV (Er l (b.fields.length:Int))) (Au (.pointer none) (Au (iV (Er l (b.fields.length:Int))) (l_k O (Aq (h ?_)))))))));have hq:Dz b l k=Er l (b.fields.length:Int):=Bvu (eq_of_beq d) (fun e=>by rw[e]at c;cases c);exact⟨g,rfl,_,Eq.trans (Mp (r:=6) (r':=7) (rs:=[]) (v:=.pointer none) (v':=iV (Er l (b.fields.length:Int))) (vs:=[]) ⟨rfl,rfl,trivial⟩) (by rw[hq]),fun f=>by rw[hq]at f;rw[f]at c;cases c⟩
 have ZQ:=Jq d;refine Al (kk C ?_);refine qD fun af ag P R=>Av (iV (Hd b)) (l_v (Ek rfl rfl) (Av (.bool ((Hd b)==0)) (Ap (gN rfl d) (Ap (gN rfl d) (Ap (gN rfl d) (Ap (gN rfl d) (Ap (gN rfl d) (Ap (gN rfl d) (Ap (gN rfl d) (l_v (Bn rfl d (v:=bF) rfl) (l_k R (Cg rfl rfl (Al (kk P ?_))))))))))))));refine qD fun ah ai ap T=>Av (iV (Hd b)) (l_v (Dg rfl rfl) (l_k T (Co rfl (Afd d) (qA fun aj U=>Av (iV (Hd b)) (Au (.pointer none) (Au (iV (Hd b)) (l_k U (Aq (h ?_)))))))));have hq:Dz b l k=Hd b:=Bvt (fun e=>by rw[e]at d;cases d);exact⟨g,rfl,_,Eq.trans (Mp (r:=6) (r':=7) (rs:=[]) (v:=.pointer none) (v':=iV (Hd b)) (vs:=[]) ⟨rfl,rfl,trivial⟩) (by rw[hq]),fun f=>by rw[hq]at f;rw[f]at d;cases d⟩
end
section
def Apc(b:LBook)(k:Int):List Span:=if Dz b [] k=0 then Bkm b k.toNat else []
def Tk(b:LBook)(l:List Int)(k:Int):Int:=if Dz b l k=0 then Cw b (Bf (Ga l)) k.toNat else 0
def Aax(b:LBook)(l:List Int)(k:Int):List Int:=if Dz b l k=0 then Bw (Bv (Hx b (Bf (Ga l)) k.toNat)) else []
def Ot(b:LBook)(l:List Int)(k:Int)(c:List Int):Int:=if Tq b l k c=0 then Bu b (Bf (Ga l)) (Bf (Ga c)) else 0
theorem Tw{b:LBook}{l:List Int}{k:Int}(h:Dz b l k=0):Hd b=0/\Er l b.fields.length=0/\0<=k/\k<b.lots.length:=by
 unfold Dz at h;obtain⟨c,d⟩:=Jx.1 h;obtain⟨e,a⟩:=Jx.1 d;refine⟨c,e,?_⟩;by_cases hr:inR k 0 ((b.lots.length:Int)-1)=true
 ·have:=Fz.1 hr;omega
 ·rw[if_neg hr]at a;cases a
theorem Zx{l:List Int}{n:Nat}(h:Er l n=0):l=Bw (Ga l)/\(∀a∈Ga l,a<n)/\(Ga l).Pairwise (·<·):=by obtain⟨xs,rfl,b,c⟩:=Bcc h;rw[Bib];exact⟨rfl,b,c⟩
def zAt(l:List Int)(z:Int)(i:Nat):Bool:=match l[i]? with|some a=>z==a|none=>false
def Bbd(l:List Int)(z:Int):Int:=match Cl l.length (zAt l z) with|some i=>(i:Int)|none=>-1
variable{mn:Bool}{X:Frame->List Frame->Ro->Own->Cy->Prop}{Y:Ro}{Z:Own}
theorem Blr{l:List Int}{z:Int}:decide (Bbd l z>=0)=decide (z∈l):=by
 refine decide_eq_decide.2 ?_;unfold Bbd;rcases Ft (n:=l.length) (p:=zAt l z) with⟨i,hi,hp,_,he⟩|⟨a,he⟩
 ·rw[he];have hm:z∈l:=by
   unfold zAt at hp;rw[Qj hi]at hp;simp only at hp;rw[eq_of_beq hp];exact Awv hi
  exact⟨fun _=>hm,fun _=>by simp⟩
 ·rw[he];refine⟨fun h=>by simp at h,fun hm=>?_⟩;obtain⟨i,hi⟩:=Sr hm;have:=a i (lZ4.1 hi).1;unfold zAt at this;rw[hi]at this;simp at this
section
variable{b:LBook}{F:Nat}{k:Int}{vc:Value}
theorem Brm(ok:LotsOk b)(hc:At Y vc (⟨b,frD b⟩:Cel))(hF:F<2^63)(h0:0<=k)(h1:k<b.lots.length):CallsH (CX mn X) 34 #[vc,.int .u64 (F:Int),.int .i64 k] Y Z (fun w Y' Z'=>Ro.le Y Y'/\Z'=Z/\Val Y' w (Sm b F k.toNat:Span)):=by obtain⟨n,rfl⟩:∃n:Nat,k=n:=⟨k.toNat,by omega⟩;exact Brl ok hc hF (by omega)
theorem Brg(ok:LotsOk b)(hc:At Y vc (⟨b,frD b⟩:Cel))(hF:F<2^63)(h0:0<=k)(h1:k<b.lots.length):CallsH (CX mn X) 51 #[vc,.int .u64 (F:Int),.int .i64 k] Y Z (rP Y Z (.tuple #[iV (Cw b F k.toNat),.int .u64 ((Hx b F k.toNat:Nat):Int)])):=by obtain⟨n,rfl⟩:∃n:Nat,k=n:=⟨k.toNat,by omega⟩;exact Aso ok hc hF (by omega)
end
theorem Bhy{b:LBook}{F:Nat}{k:Int}(ok:LotsOk b)(h0:0<=k)(h1:k<b.lots.length):Hx b F k.toNat<256:=Axn ok (Qj (show k.toNat<b.lots.length by omega)) F
theorem Amm{l:List Nat}{n:Nat}(h:∀a∈l,a<n)(h8:n<=8):Bf l<256:=Nn (Sl h) (Aih (by omega) h8:2^n<=2^8)
theorem Bou{b:LBook}{l c:List Int}{k:Int}(h:Dz b l k≠0):Tq b l k c=Dz b l k:=Ry h
theorem Bbv{b:LBook}{l c:List Int}{k:Int}(h:Dz b l k=0)(h1:Er c b.lots.length≠0):Tq b l k c=Er c b.lots.length:=by unfold Tq;rw[Gr h,Ry h1]
theorem Bot{b:LBook}{l c:List Int}{k:Int}(h:Dz b l k=0)(h1:Er c b.lots.length=0)(h2:decide (k∈c)=false):Tq b l k c=6:=by unfold Tq;rw[Gr h,Gr h1,if_neg (lZ2 h2)]
theorem Bke{l:List Int}{vl:Value}{z:Int}(rl:Val Y vl l):CallsH (CX mn X) 90 #[vl,iV z] Y Z (rP Y Z (iV (Bbd l z))):=by
 refine Bq 19 [4] Tryz.func90 rfl fun Q p a1=>qA fun L x=>Au (iV 0) (qE x fun R T E F=>Av vl ?_);have g4:=Val.len rl;refine l_v (Ci (el:=3) Ccu rfl rl) (Av (iV 0) (l_k F (Ao (Cc (fun mm ee dd Y' Z'=>∃(i:Nat),(l.length-i)=mm/\[]=dd/\Y=Y'/\Z=Z'/\ee 0=vl/\ee 1=iV z/\ee 7=(iV (l.length:Int))/\ee 8=iV i/\(i<=l.length)/\(∀j,j<i->zAt l z j=false)/\True) (m:=_) ⟨0,rfl,rfl,rfl,rfl,rfl,rfl,rfl,rfl,Hr _,fun j h=>absurd h (Td _),trivial⟩ ?_))));rintro m5 YQ _ _ _ ⟨i,rfl,rfl,rfl,rfl,f,g,k,c,a2,e,_⟩;refine qA fun U G=>l_v (Da c k) (Asa G fun V H=>Bp (t:=decide ((i:Int)<(l.length:Int))) rfl (fun b=>?_) (fun b=>?_))
 ·have K:=lZ1 b;refine Al (kk H ?_);refine Ai fun W I=>Ao (qA fun M y=>l_v (Ah (v:=iV i) c) (Au (iV i) (qC y fun N B=>l_v (Ah (v:=iV z) g) (l_v (Ah (v:=vl) f) (Av (iV i) ?_)))));obtain⟨w,d⟩:=Ed (xs:=l) (i:=i) (by omega);refine Arw (Ch i Ccu ty3 rfl rl (q:=(i:Int)) rfl rfl d) fun a3 u=>?_;have⟨ZQ,a0⟩:=At.rng u;refine l_v (Bc ty3 rfl u) (l_v (Ek rfl rfl) (l_k B (Bp (t:=z==w) rfl (fun a=>?_) (fun a=>?_))))
  ·have J:=Jr a;refine qA fun O C=>Av (iV i) (Au (iV i) (l_k C (Aq (p (rT (iV i) ?_)))));have hi:=Fh (n:=l.length) e (by omega) (show zAt l z i=true by simp only[zAt,d,a]);simp only[Bbd,hi]
  have J:=Jq a;refine Al (kk I ?_);refine qB (l_v (Br c rfl (z:=(((i+1):Nat):Int)) wrE) (Av (iV ((i+1):Nat)) (Ac ?_)));refine⟨_,?_,(i+1),rfl,rfl,rfl,rfl,f,g,k,rfl,(by omega),(Eg e (by simp only[zAt,d,a])),trivial⟩;omega
 have K:=lZ2 b;refine Bx (kk E ?_);refine qA fun P D=>Au (iV (-1)) (l_k D (Aq (p (rT (iV (-1)) ?_))));have hn:=Ep (n:=l.length) fun j hj=>e j (by omega);simp only[Bbd,hn]
theorem Avd{l:List Int}{vl:Value}{z:Int}(rl:Val Y vl l):CallsH (CX mn X) 54 #[vl,iV z] Y Z (rP Y Z (.bool (decide (z∈l)))):=by refine Bq 9 [4] Tryz.func54 rfl fun Q a f=>qA fun d b=>Au bF (qC b fun e c=>Av vl (Av (iV z) (Arv (Cj (Bke (z:=z) rl) Tryz.func90 ?_))));refine l_v (Uy rfl rfl) (Au (.bool (decide ((Bbd l z)>=0))) (l_k c (Aq (a (rT (.bool (decide ((Bbd l z)>=0))) ?_)))));rw[Blr]
theorem Ave{b:LBook}{k:Int}{vb:Value}(rv:Val Y vb b):CallsH (CX mn X) 13 #[vb,iV k] Y Z (fun w Y' Z'=>Ro.le Y Y'/\Z'=Z/\∃vx,w=(.tuple #[vx,iV (Dz b [] k)])/\Val Y' vx (Apc b k:List Span)):=by
 refine Bq 35 [4,5] Tryz.func13 rfl fun Q K ax=>qA fun K1 k1=>Arv (Jl (v:=vb) rfl fun k2=>?_);refine Bb (a:=b) rv fun b3 M n=>Au nS (Au (iV 0) (qC k1 fun K3 k3=>Arw (Ax Gt rfl n) fun v4 r4=>Av (iV k) (Arv (Cm (vs:=[v4,nS,iV k]) (Ake r4 (Gx:Val _ _ ([]:List Int))) Cen rfl rfl ⟨rfl,rfl,rfl,trivial⟩ fun w5 T b7 a1=>?_))));obtain⟨D,B,d,a4,y⟩:=a1;replace B:=B.symm;subst B a4;replace n:=At.mono D n;have y:(Dz b [] k)=0->At T d (⟨b,frD b⟩:Cel):=y;refine Av (.tuple #[d,iV (Dz b [] k)]) (l_v (Cr d) (l_v (Cr (iV (Dz b [] k))) (Au d (Au (iV (Dz b [] k)) (qE k3 fun K6 K7 k6 k7=>Av (iV (Dz b [] k)) (l_v (Dg rfl rfl) (l_k k7 (Bp (t:=(Dz b [] k) != 0) rfl (fun f=>?_) (fun f=>?_)))))))))
 ·have q8:=Ls f;refine qA fun K9 k9=>Av (iV (Dz b [] k)) (Au nS (Au (iV (Dz b [] k)) (l_k k9 (Aq (K ⟨Cfc M D,rfl,nS,Eq.trans (b:=.tuple #[nS,iV (Dz b [] k)]) (Mp (r:=4) (r':=5) (rs:=[]) (v:=nS) (v':=iV (Dz b [] k)) (vs:=[]) ⟨rfl,rfl,trivial⟩) ?_,Val.cast ?_ Gx⟩)))))
  ·rfl
  ·unfold Apc;rw[if_neg (Ls f)]
 have g:(Dz b [] k)=0:=Jh f;have E:=y g;obtain⟨hlo,hri,a2,a3⟩:=Tw g;have ok:=Tp hlo;have hnf:=ok.nf;have hnl:=ok.nl;have q8:=Jh f;refine Al (kk k6 ?_);refine qA fun al a5=>Au nS (qE a5 fun am an a6 a7=>Arw (Ba LBook.f_fields Cct rfl Hw n) fun b0 af=>Arw (Ax Hw rfl af) fun b1 P=>?_);have aw:=Val.len P;refine l_v (Ci (el:=9) Ccv rfl P) (Av (iV 0) (l_k a7 (Ao (Cc (fun mm ee dd Y' Z'=>∃(i:Nat) (c:Value) (h:Own),(b.fields.length-i)=mm/\[]=dd/\Ro.le T Y'/\(h++Z)=Z'/\ee 1=iV k/\ee 6=d/\ee 21=(iV (b.fields.length:Int))/\ee 8=c/\ee 22=iV i/\(i<=b.fields.length)/\Grow Y' 53 c ((List.range i).map fun j=>Sm b (1 <<< j) k.toNat) h/\True) (m:=_) ⟨0,nS,[],rfl,rfl,Cfb,rfl,rfl,rfl,rfl,rfl,rfl,Hr _,Hm,trivial⟩ ?_))));rintro ay av _ b2 _ ⟨i,c,h,rfl,rfl,C,rfl,G,I,H,J,x,az,e,_⟩;replace E:=At.mono C E;refine qA fun ao a8=>l_v (Da x H) (Asa a8 fun ap a9=>Bp (t:=decide ((i:Int)<(b.fields.length:Int))) rfl (fun u=>?_) (fun u=>?_))
 ·have ae:=lZ1 u;refine Al (kk a9 ?_);refine Ai fun aq aa=>Ao (qA fun ar ab=>l_v (Ah (v:=iV i) x) (Au (iV i) (l_k ab (qB (l_v (Ah (v:=c) J) (l_v (Ah (v:=d) I) (Av (iV i) (l_v (Md (p:=1) (q:=i) rfl rfl rfl (by omega) (z:=(((1 <<< i):Nat):Int)) (Aha (by omega)).1) (l_v (Ah (v:=iV k) G) (Arv (Cm (vs:=[d,.int .u64 (((1 <<< i):Nat):Int),iV k]) (Brm ok E (Nat.lt_trans (Aha (by omega)).2 (by decide)) a2 a3) Tryz.func34 rfl rfl ⟨rfl,rfl,rfl,trivial⟩ fun aj ak b6 a0=>?_)))))))))));obtain⟨N,F,ag⟩:=a0;replace F:=F.symm;subst F;replace e:=Grow.mono N e;refine Arv (Bi (α:=Span) (xs:=[Sm b (1 <<< i) k.toNat]) (vs:=[aj]) Cdf Mx Aak rfl (by decide) (Dk (os:=[.tmp 30]) ⟨rfl,trivial⟩) ⟨ag,trivial⟩ rfl (by decide) fun L YQ W=>?_);have U:Grow ak 53 (.slice (some ⟨L,0,none⟩) 1 1) ([Sm b (1 <<< i) k.toNat]:List Span) [(L,oC YQ.toArray 53)]:=Bs W rfl (by decide);refine Ca U fun b4 O ah=>?_;replace e:=Grow.mono O e;refine Arv (Gc (Z:=Z) (gr:=h) (xs:=(List.range i).map fun j=>Sm b (1 <<< j) k.toNat) (ys:=([Sm b (1 <<< i) k.toNat]:List Span)) Cdf Cdf (Ab Cef) rfl nL rfl rfl rfl rfl e ah (by simp only[lZ3,lZ9,Nq,Uu,Aws];omega) fun R ZQ V=>?_);refine Au R (l_k aa (qB (l_v (Br x rfl (z:=(((i+1):Nat):Int)) wrE) (Av (iV ((i+1):Nat)) (Ac ?_)))));refine⟨_,?_,(i+1),R,ZQ,rfl,rfl,(Cfc (Cfc C N) O),rfl,G,I,H,rfl,rfl,(by omega),(Fy (by rw[Awy,Lo];rfl) V),trivial⟩;omega
 have ae:=lZ2 u;refine Bx (kk a6 ?_);refine qA fun au ac=>l_v (Ah (v:=c) J) (Au c (Au (iV 0) (l_k ac (Hc e fun b5 ad ai=>Aq (K ⟨Cfc (Cfc (Cfc M D) C) ad,rfl,c,Eq.trans (b:=.tuple #[c,iV 0]) (Mp (r:=4) (r':=5) (rs:=[]) (v:=c) (v':=iV 0) (vs:=[]) ⟨rfl,rfl,trivial⟩) ?_,Val.cast ?_ ai⟩)))))
 ·rw[g]
 ·unfold Apc Bkm;rw[if_pos g,show i=b.fields.length by omega]
theorem Bra{b:LBook}{l:List Int}{k:Int}{vb vl:Value}(rv:Val Y vb b)(rl:Val Y vl l):CallsH (CX mn X) 18 #[vb,vl,iV k] Y Z (fun w Y' Z'=>Ro.le Y Y'/\Z'=Z/\∃vx,w=(.tuple #[iV (Tk b l k),vx,iV (Dz b l k)])/\Val Y' vx (Aax b l k:List Int)):=by
 refine Bq 33 [6,7,8] Tryz.func18 rfl fun Q u a1=>qA fun V C=>Arv (Jl (v:=vb) rfl fun k2=>?_);refine Bb (a:=b) rv fun a3 i N=>?_;replace rl:=Val.mono i rl;refine Au (iV 0) (Au nS (Au (iV 0) (Arx rfl rfl C fun ZQ G=>Arw (Ax Gt rfl N) fun T O=>Av vl (Av (iV k) (Arv (Cm (vs:=[T,vl,iV k]) (Ake O rl) Cen rfl rfl ⟨rfl,rfl,rfl,trivial⟩ fun w5 U a5 z=>?_))))));obtain⟨j,h,e,B,g⟩:=z;replace h:=h.symm;subst h B;replace rl:=Val.mono j rl;have g:(Dz b l k)=0->At U e (⟨b,frD b⟩:Cel):=g;refine Av (.tuple #[e,iV (Dz b l k)]) (l_v (Cr e) (l_v (Cr (iV (Dz b l k))) (Au e (Au (iV (Dz b l k)) (Ary rfl rfl G fun K6 K7 H I=>Av (iV (Dz b l k)) (l_v (Dg rfl rfl) (l_k I (Bp (t:=(Dz b l k) != 0) rfl (fun c=>?_) (fun c=>?_)))))))))
 ·have L:=Ls c;refine qA fun K9 J=>Av (iV (Dz b l k)) (Au (iV 0) (Au nS (Au (iV (Dz b l k)) (l_k J (Aq (u ⟨Cfc i j,rfl,nS,Eq.trans (b:=.tuple #[iV 0,nS,iV (Dz b l k)]) (Mp (r:=6) (r':=7) (rs:=[8]) (v:=iV 0) (v':=nS) (vs:=[iV (Dz b l k)]) ⟨rfl,rfl,rfl,trivial⟩) ?_,Val.cast ?_ Gx⟩))))))
  ·unfold Tk;rw[if_neg (Ls c)]
  ·unfold Aax;rw[if_neg (Ls c)]
 have d:(Dz b l k)=0:=Jh c;have P:=g d;obtain⟨hlo,hri,p,q⟩:=Tw d;have ok:=Tp hlo;have hnf:=ok.nf;have hnl:=ok.nl;obtain⟨hle,hlt,hlp⟩:=Zx hri;have a0:=Amm hlt (by omega);have R:=Val.cast hle rl;have L:=Jh c;refine Al (kk H ?_);refine qA fun W D=>Av e (Av vl (Arv (Cj (Bab (xs:=Ga l) R (fun n hn=>by have:=hlt n hn;omega)) Ceo ?_)));refine Av (iV k) (Arv (Cj (Brg (F:=Bf (Ga l)) ok P (by omega) p q) Cer ?_));refine Av (.tuple #[iV (Cw b (Bf (Ga l)) k.toNat),.int .u64 (((Hx b (Bf (Ga l)) k.toNat):Nat):Int)]) (l_v (Cr (iV (Cw b (Bf (Ga l)) k.toNat))) (l_v (Cr (.int .u64 (((Hx b (Bf (Ga l)) k.toNat):Nat):Int))) (Au (iV (Cw b (Bf (Ga l)) k.toNat)) (Au (.int .u64 (((Hx b (Bf (Ga l)) k.toNat):Nat):Int)) (Arx rfl rfl D fun YQ E=>Av (iV (Cw b (Bf (Ga l)) k.toNat)) (Av (.int .u64 (((Hx b (Bf (Ga l)) k.toNat):Nat):Int)) (Arv (Cm (vs:=[.int .u64 (((Hx b (Bf (Ga l)) k.toNat):Nat):Int)]) (Asl (x:=Hx b (Bf (Ga l)) k.toNat) (Bhy ok p q)) Ces rfl rfl ⟨rfl,trivial⟩ fun f a2 a4 y=>?_))))))));obtain⟨K,m,M⟩:=y;replace m:=m.symm;subst m;refine Au (iV (Cw b (Bf (Ga l)) k.toNat)) (Au f (Au (iV 0) (l_k E (Aq (u ⟨Cfc (Cfc i j) K,rfl,f,Eq.trans (b:=.tuple #[iV (Cw b (Bf (Ga l)) k.toNat),f,iV 0]) (Mp (r:=6) (r':=7) (rs:=[8]) (v:=iV (Cw b (Bf (Ga l)) k.toNat)) (v':=f) (vs:=[iV 0]) ⟨rfl,rfl,rfl,trivial⟩) ?_,Val.cast ?_ M⟩)))))
 ·unfold Tk;rw[if_pos d,d]
 ·unfold Aax;rw[if_pos d]
theorem Bgl{b:LBook}{l c:List Int}{k:Int}{vb vl vc:Value}(rv:Val Y vb b)(rl:Val Y vl l)(rc:Val Y vc c):CallsH (CX mn X) 20 #[vb,vl,iV k,vc] Y Z (rP Y Z (.tuple #[iV (Ot b l k c),iV (Tq b l k c)])):=by
 refine Bq 43 [8,9] Tryz.func20 rfl fun Q m ap=>qA fun K1 J=>Arv (Jl (v:=vb) rfl fun k2=>?_);refine Bb (a:=b) rv fun aw h p=>?_;replace rl:=Val.mono h rl;replace rc:=Val.mono h rc;refine Au (iV 0) (Au (iV 0) (Arx rfl rfl J fun K3 V=>Arw (Ax Gt rfl p) fun v4 r4=>Av vl (Av (iV k) (Arv (Cm (vs:=[v4,vl,iV k]) (Ake r4 rl) Cen rfl rfl ⟨rfl,rfl,rfl,trivial⟩ fun w5 a3 ax H=>?_)))));obtain⟨g,w,j,I,u⟩:=H;replace w:=w.symm;subst w I;replace rl:=Val.mono g rl;replace rc:=Val.mono g rc;replace p:=At.mono g p;have u:(Dz b l k)=0->At a3 j (⟨b,frD b⟩:Cel):=u;refine Av (.tuple #[j,iV (Dz b l k)]) (l_v (Cr j) (l_v (Cr (iV (Dz b l k))) (Au j (Au (iV (Dz b l k)) (Ary rfl rfl V fun K6 K7 B ZQ=>Av (iV (Dz b l k)) (l_v (Ek rfl rfl) (l_k ZQ (Bp (t:=(Dz b l k)==0) rfl (fun f=>?_) (fun f=>?_)))))))))
 ·have i:(Dz b l k)=0:=eq_of_beq f;have r5:=u i;obtain⟨hlo,hri,am,an⟩:=Tw i;have ok:=Tp hlo;have hnf:=ok.nf;have hnl:=ok.nl;obtain⟨hle,hlt,hlp⟩:=Zx hri;have ao:=Amm hlt (by omega);have a2:=Val.cast hle rl;have q8:=Jr f;refine qB (Av vc (Arw (Ba LBook.f_lots Cct rfl Dy p) fun v9 r9=>Arw (Ax Dy rfl r9) fun av D=>?_));have ak:=Val.len D;refine l_v (Ci (el:=51) Ccw rfl D) (Arv (Cj (Avi (b:=b.lots.length) rc (by omega)) Tryz.func40 ?_));refine Au (iV (Er c (b.lots.length:Int))) (Ary rfl rfl B fun a4 a5 x y=>Av (iV (Er c (b.lots.length:Int))) (l_v (Ek rfl rfl) (Av (.bool ((Er c (b.lots.length:Int))==0)) (Cn ((Er c (b.lots.length:Int))==0) (fun d=>?_) (fun d=>?_)))))
  ·obtain⟨hce,hct,hcp⟩:=Zx (eq_of_beq d);have al:=Amm hct hnl;have a1:=Val.cast hce rc;have a0:=Jr d;refine l_M vc (qF d) rfl (l_M (iV k) (qF d) rfl (Ae (qF d) (Cj (Avd (z:=k) rc) Tryz.func54 ?_)));refine Aa (qF d) (Iy rfl) (l_v (Bt rfl d (v:=.bool (!(decide (k∈c)))) rfl) (l_k y (Bp (t:=!(decide (k∈c))) rfl (fun q=>?_) (fun q=>?_))))
   ·have E:=not_eq_t q;refine qB (Au (iV 6) (qE x fun a6 a7 aq K=>Av (iV 6) (l_v (Dg rfl rfl) (l_k K (Co rfl rfl (qA fun a8 L=>Av (iV 6) (Au (iV 0) (Au (iV 6) (l_k L (Aj (Cez (Cfc h g)) (Aq (m ⟨rfl,rfl,Eq.trans (b:=.tuple #[iV 0,iV 6]) (Mp (r:=8) (r':=9) (rs:=[]) (v:=iV 0) (v':=iV 6) (vs:=[]) ⟨rfl,rfl,trivial⟩) ?_⟩))))))))))));have hq:=Bot i (eq_of_beq d) E;unfold Ot;rw[if_neg (by rw[hq];exact(by decide)),hq]
   have G:=Fp q;refine Al (kk x ?_);refine qD fun a9 aa M N=>Av (iV (Er c (b.lots.length:Int))) (l_v (Dg rfl rfl) (l_k N (Cg rfl (Afd d) (Al (kk M ?_)))));refine qA fun ab O=>Av j (Av vl (Arv (Cj (Bab (xs:=Ga l) a2 (fun n hn=>by have:=hlt n hn;omega)) Ceo ?_)));refine Av vc (Arv (Cj (Bab (xs:=Ga c) a1 (fun n hn=>by have:=hct n hn;omega)) Ceo ?_));refine Arv (Cj (Acx (F:=Bf (Ga l)) (C:=Bf (Ga c)) ok r5 (by omega) (by omega)) Cej ?_);refine Au (iV (Bu b (Bf (Ga l)) (Bf (Ga c)))) (Au (iV 0) (l_k O (Aj (Cez (Cfc h g)) (Aq (m ⟨rfl,rfl,Eq.trans (b:=.tuple #[iV (Bu b (Bf (Ga l)) (Bf (Ga c))),iV 0]) (Mp (r:=8) (r':=9) (rs:=[]) (v:=iV (Bu b (Bf (Ga l)) (Bf (Ga c)))) (v':=iV 0) (vs:=[]) ⟨rfl,rfl,trivial⟩) ?_⟩)))));have hq:=Bos i (eq_of_beq d) (lZ1 G);unfold Ot;rw[if_pos hq,hq]
  have a0:=Jq d;refine Ap (gN rfl d) (Ap (gN rfl d) (Ap (gN rfl d) (Ap (gN rfl d) (l_v (Bn rfl d (v:=bF) rfl) (l_k y (Cg rfl rfl (Al (kk x ?_))))))));refine qD fun ac ad ar P=>Av (iV (Er c (b.lots.length:Int))) (l_v (Dg rfl rfl) (l_k P (Co rfl (Afd d) (qA fun ae R=>Av (iV (Er c (b.lots.length:Int))) (Au (iV 0) (Au (iV (Er c (b.lots.length:Int))) (l_k R (Aj (Cez (Cfc h g)) (Aq (m ⟨rfl,rfl,Eq.trans (b:=.tuple #[iV 0,iV (Er c (b.lots.length:Int))]) (Mp (r:=8) (r':=9) (rs:=[]) (v:=iV 0) (v':=iV (Er c (b.lots.length:Int))) (vs:=[]) ⟨rfl,rfl,trivial⟩) ?_⟩))))))))));have hq:=Bbv i (fun e=>by rw[e]at d;cases d);unfold Ot;rw[if_neg (by rw[hq];exact(fun e=>by rw[e]at d;cases d)),hq]
 have q8:=Jq f;refine Al (kk B ?_);refine qD fun af ag T U=>Av (iV (Dz b l k)) (l_v (Ek rfl rfl) (Av (.bool ((Dz b l k)==0)) (Ap (gN rfl f) (Ap (gN rfl f) (Ap (gN rfl f) (Ap (gN rfl f) (l_v (Bn rfl f (v:=bF) rfl) (l_k U (Cg rfl rfl (Al (kk T ?_)))))))))));refine qD fun ah ai au W=>Av (iV (Dz b l k)) (l_v (Dg rfl rfl) (l_k W (Co rfl (Afd f) (qA fun aj YQ=>Av (iV (Dz b l k)) (Au (iV 0) (Au (iV (Dz b l k)) (l_k YQ (Aj (Cez (Cfc h g)) (Aq (m ⟨rfl,rfl,Eq.trans (b:=.tuple #[iV 0,iV (Dz b l k)]) (Mp (r:=8) (r':=9) (rs:=[]) (v:=iV 0) (v':=iV (Dz b l k)) (vs:=[]) ⟨rfl,rfl,trivial⟩) ?_⟩))))))))));have hq:=Bou (c:=c) (fun e=>by rw[e]at f;cases f);unfold Ot;rw[if_neg (by rw[hq];exact(fun e=>by rw[e]at f;cases f)),hq]
end
end Go.Proofs.YtfeahfjambednaaGreatDoor
