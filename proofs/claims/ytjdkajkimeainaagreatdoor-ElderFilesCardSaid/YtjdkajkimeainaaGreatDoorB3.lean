/- Part 3 of what all laws of layer 8 need: a logic of programs that start goroutines, and what the functions yield. -/
import Derived.Test.YtjdkajkimeainaaGreatDoorB2
set_option linter.unusedVariables false
set_option linter.unusedSimpArgs false
set_option maxRecDepth 100000
set_option maxHeartbeats 4000000
namespace Go.Proofs.YtjdkajkimeainaaGreatDoor
section
open Go
theorem Bhd{mn:Bool}{X:Frame→List Frame→Ro→Own→Cy→Prop}{ρ:Ro}{σ:Own}{n:Nat}(hn:n<100):CallsH (CX mn X) 155 #[iV n] ρ σ (rP ρ σ (.string (bs (Ew n)))):=by
 refine Bf 15 [2] Tryz.func155 rfl fun Q b v=>w_q rfl rfl fun j c=>Av (.string (ByteArray.mk #[])) (Ary rfl rfl c fun k m d e=>Ay (iV n) (l_v (Da rfl rfl) (l_k e (Bb (t:=decide ((n:Int)<10)) rfl (fun a=>?_) (fun a=>?_)))))
 ·have i:=lZ3 a
  refine w_q rfl rfl fun q f=>Ay (iV n) (Ay (iV n) (l_v (Ga (((n+1):Nat):Int)) (l_v (Lp (p:=bZ2) (l:=n) (h:=n+1) Brs rfl (.inr ⟨_,rfl,rfl⟩) (.inr ⟨_,rfl,rfl⟩) (by first|omega|(show _≤36;omega)|(show _≤200;omega)) (by first|omega|(show _≤36;omega)|(show _≤200;omega))) (Av (.string (bs (((bZ2).take (n+1)).drop n))) (l_k f (Aq (b ⟨rfl,rfl,eT (.string (bs (((bZ2).take (n+1)).drop n))) ?_⟩)))))))
  rw[Bju (by omega)]
 have i:=lZ4 a
 refine Al (kk d ?_)
 refine w_q rfl rfl fun u g=>Ay (iV n) (l_v (Wq rfl rfl (z:=(((n*2):Nat):Int)) wrE) (Ay (iV n) (l_v (Wq rfl rfl (z:=(((n*2):Nat):Int)) wrE) (l_v (Ga ((((n*2)+2):Nat):Int)) (l_v (Lp (p:=smL) (l:=n*2) (h:=(n*2)+2) Brs rfl (.inr ⟨_,rfl,rfl⟩) (.inr ⟨_,rfl,rfl⟩) (by first|omega|(show _≤36;omega)|(show _≤200;omega)) (by first|omega|(show _≤36;omega)|(show _≤200;omega))) (Av (.string (bs ((smL.take ((n*2)+2)).drop (n*2)))) (l_k g (Aq (b ⟨rfl,rfl,eT (.string (bs ((smL.take ((n*2)+2)).drop (n*2)))) ?_⟩)))))))))
 rw[Bjv (by omega) (by omega)]
theorem Aye{mn:Bool}{X:Frame→List Frame→Ro→Own→Cy→Prop}{ρ:Ro}{σ:Own}{n:Nat}(h1:n<100):CallsH (CX mn X) 123 #[iV n,iV 10] ρ σ (rP ρ σ (.string (bs (Ew n)))):=by
 refine Bf 54 [4] Tryz.func123 rfl fun Q a m=>w_q rfl rfl fun f b=>Av (.string (ByteArray.mk #[])) (Ary rfl rfl b fun g h p c=>Ay (iV 10) (l_v (Ek rfl rfl) (l_k c (Co rfl rfl (Asb rfl rfl fun i j q d=>Ay (iV n) (l_v (Uz rfl rfl) (Ay (.bool (decide (0≤(n:Int)))) (l_M (iV n) (gY rfl (Lg (by omega))) rfl (Aa (gY rfl (Lg (by omega))) (Da rfl rfl) (l_v (Bt rfl (Lg (by omega)) (v:=.bool (decide ((n:Int)<100))) rfl) (l_k d (Co rfl (Lg (by omega)) (w_q rfl rfl fun k e=>Ay (iV n) (Arv (Ii (Bhd (n:=n) (by omega)) Tryz.func155 ?_)))))))))))))))
 refine Av (.string (bs (Ew n))) (l_k e (Aq (a (rT (.string (bs (Ew n))) ?_))))
 rfl
def pcC(c:UInt8):Bool:=decide (32≤c.toNat)&&decide (c.toNat≤126)
def Dd(p:List UInt8):Bool:=p.all pcC
def Azw(p:List UInt8)(j:Nat):Bool:=match p[j]? with|some c=>pcC c|none=>true
theorem Bkz{p:List UInt8}{i:Nat}{c:UInt8}(h:p[i]?=some c)(h1:32≤c.toNat)(h2:c.toNat≤126):Azw p i=true:=by
 unfold Azw;rw[h];simp[pcC,h1,h2]
theorem Awx{p:List UInt8}(h:∀j,j<p.length→Azw p j=true):Dd p=true:=by
 unfold Dd
 rw[Hs]
 intro c hc
 obtain⟨j,hj⟩:=Aau hc
 have:=h j (Ig.1 hj).1
 unfold Azw at this;rw[hj]at this;exact this
theorem Abs{p:List UInt8}{i:Nat}{c:UInt8}(h:p[i]?=some c)(h1:c.toNat<32∨126<c.toNat):Dd p=false:=by
 cases hp:Dd p with
 | false=>rfl
 | true =>
  have:=Hs.1 hp c (lZ6 h)
  simp only[pcC,Fd,decide_eq_true_eq]at this
  omega
/-- The weighted sum,from a place on. -/
def Jd:List UInt8→Nat→Nat
 | [],_=>0
 | c::p,i=>c.toNat*(i%96+1)+Jd p (i+1)
theorem Me(p q:List UInt8)(i:Nat):Jd (p++q) i=Jd p i+Jd q (i+p.length):=by
 induction p generalizing i with
 | nil=>simp[Jd]
 | cons c p ih =>
  rw[Nu,Jd,Jd,ih,lZ2,show i+1+p.length=i+(p.length+1) by omega];omega
theorem Ajo{p:List UInt8}{i:Nat}{c:UInt8}(h:p[i]?=some c):Jd (p.take (i+1)) 0=Jd (p.take i) 0+c.toNat*(i%96+1):=by
 rw[Apx,h,Me]
 have:(p.take i).length=i:=by rw[Ea];have:=(Ig.1 h).1;omega
 simp[Jd,this]
theorem Awn(c:UInt8)(i:Nat):c.toNat*(i%96+1)≤24480:=by
 have d:=c.toNat_lt
 have b:i%96+1≤96:=by omega
 calc c.toNat*(i%96+1)≤255*96:=Aey (by omega) b
  _=24480:=rfl
/-- The check of a line. -/
def Dr(n:Nat)(p:List UInt8):Nat:=(7*n+Jd p 0)%97
theorem Mw(n:Nat)(p:List UInt8):Dr n p<97:=Ais _ (by omega)
def Gh(c:Nat):List UInt8:=[UInt8.ofNat (48+c/10),UInt8.ofNat (48+c%10)]
/-- A line with its check. -/
def Fp(n:Nat)(p:List UInt8):List UInt8:=p++[32,35]++Gh (Dr n p)++[10]
/-- It ends with a line feed. -/
def Gr(p:List UInt8):Bool:=p.drop (p.length-1)==[10]
/-- A blank,# and two digits. -/
def Gt(s:List UInt8):Bool:=s.take 2==[32,35]&&(s.drop 2).all Df
def ckV(s:List UInt8):Nat:=match s with|[_,_,a,b]=>(a.toNat-48)*10+(b.toNat-48)|_=>0
def ckR(s:List UInt8):Nat:=if Gt s=true then ckV s else 0
theorem Bpd{s:List UInt8}(h:(s.take 2 != [32,35])=true):Gt s=false:=by
 unfold Gt
 rw[bne_iff_ne]at h
 have:(s.take 2==[32,35])=false:=by simpa using h
 rw[this];rfl
theorem Bpe{s:List UInt8}(h:(s.drop 2).all Df=false):Gt s=false:=by unfold Gt;rw[h,Aeg]
theorem Bqq{s:List UInt8}(h1:(s.take 2 != [32,35])=false)(h2:(s.drop 2).all Df=true):Gt s=true:=by
 unfold Gt
 have:(s.take 2==[32,35])=true:=by simpa using h1
 rw[this,h2];rfl
theorem Bko{s:List UInt8}(h:Gt s=false):ckR s=0:=by unfold ckR;rw[h];rfl
theorem Bkp{s:List UInt8}{i:Nat}{c:UInt8}(h:(s.drop 2).all Df=true)(hi:2≤i)(hc:s[i]?=some c):48≤c.toNat∧c.toNat≤57:=by
 have hm:c∈s.drop 2:=lZ6 (i:=i-2) (by rw[Yx,show 2+(i-2)=i by omega];exact hc)
 have:=Hs.1 h c hm
 exact Alj this
theorem Bpc{s:List UInt8}{a b:UInt8}(hl:s.length=4)(h:Gt s=true)(h2:s[2]?=some a)(h3:s[3]?=some b):ckR s=(a.toNat-48)*10+(b.toNat-48):=by
 unfold ckR
 rw[if_pos h]
 match s,hl with
 | [x,y,z,w],_ =>
  simp at h2 h3
  subst h2 h3
  rfl
end
section
open Go
variable{mn:Bool}{X:Frame→List Frame→Ro→Own→Cy→Prop}{ρ:Ro}{σ:Own}
theorem Vb{n low high:Int} :CallsH (CX mn X) 62 #[iV n,iV low,iV high] ρ σ (rP ρ σ (.bool (inR n low high))):=by
 refine Bf 15 [6] Bsv rfl fun Q b h=>w_q rfl rfl fun f d=>Av bF (Arx rfl rfl d fun g c=>Ay (iV low) (Ay (iV n) (l_v (Uz rfl rfl) (Ay (.bool (decide (low≤n))) (Cn (decide (low≤n)) (fun a=>?_) (fun a=>?_))))))
 ·have e:=lZ3 a
  refine l_M (iV n) (gY rfl a) rfl (l_M (iV high) (gY rfl a) rfl (Aa (gY rfl a) (Uz rfl rfl) (l_v (Bt rfl a (v:=.bool (decide (n≤high))) rfl) (Av (.bool (decide (n≤high))) (l_k c (Aq (b (rT (.bool (decide (n≤high))) ?_))))))))
  simp only[inR,a,bZl]
 have e:=lZ4 a
 refine Ap (gN rfl a) (Ap (gN rfl a) (Ap (gN rfl a) (l_v (Bn rfl a (v:=bF) rfl) (Av bF (l_k c (Aq (b (rT bF ?_))))))))
 simp only[inR,a,bZl]
theorem Ayj{c:UInt8} :CallsH (CX mn X) 64 #[.int .u8 (c.toNat:Int)] ρ σ (rP ρ σ (.bool (Ov (c.toNat:Int)))):=by
 refine Bf 21 [2] Tryz.func64 rfl fun Q h z=>w_q rfl rfl fun x j=>Av bF (Arx rfl rfl j fun y i=>Ay (.int .u8 (c.toNat:Int)) (l_v (Da rfl rfl) (Ay (.bool (decide ((c.toNat:Int)<97))) (Cn (decide ((c.toNat:Int)<97)) (fun b=>?_) (fun b=>?_)))))
 ·have k:=lZ3 b
  refine Ap (gN rfl b) (Ap (gN rfl b) (l_v (Bt rfl b (v:=bT) rfl) (Ay bT (l_M (.int .u8 (c.toNat:Int)) (gY rfl rfl) rfl (Aa (gY rfl rfl) (Da rfl rfl) (l_M (.bool (decide ((c.toNat:Int)<48))) (gY rfl rfl) rfl (Cn (decide ((c.toNat:Int)<48)) (fun d=>?_) (fun d=>?_))))))))
  ·have m:=lZ3 d
   refine Ap (gN rfl d) (Ap (gN rfl d) (Aa (gY rfl rfl) (Bt rfl d (v:=bT) rfl) (l_v (Bt rfl rfl (v:=bT) rfl) (Ay bT (l_M (.int .u8 (c.toNat:Int)) (gY rfl rfl) rfl (Aa (gY rfl rfl) (Dg rfl rfl) (l_v (Bt rfl rfl (v:=.bool ((c.toNat:Int) != 45)) rfl) (Av (.bool ((c.toNat:Int) != 45)) (l_k i (Aq (h (rT (.bool ((c.toNat:Int) != 45)) ?_))))))))))))
   simp only[Ov,b,d,bZl]
  have m:=lZ4 d
  refine l_M (.int .u8 (c.toNat:Int)) (gY rfl d) rfl (Aa (gY rfl d) (Gl (p:=(c.toNat:Int)) (q:=57) rfl rfl) (Aa (gY rfl rfl) (Bn rfl d (v:=.bool (decide ((c.toNat:Int)>57))) rfl) (l_v (Bt rfl rfl (v:=.bool (decide ((c.toNat:Int)>57))) rfl) (Ay (.bool (decide ((c.toNat:Int)>57))) (Cn (decide ((c.toNat:Int)>57)) (fun f=>?_) (fun f=>?_))))))
  ·have n:=lZ3 f
   refine l_M (.int .u8 (c.toNat:Int)) (gY rfl f) rfl (Aa (gY rfl f) (Dg rfl rfl) (l_v (Bt rfl f (v:=.bool ((c.toNat:Int) != 45)) rfl) (Av (.bool ((c.toNat:Int) != 45)) (l_k i (Aq (h (rT (.bool ((c.toNat:Int) != 45)) ?_)))))))
   simp only[Ov,b,d,f,bZl]
  have n:=lZ4 f
  refine Ap (gN rfl f) (Ap (gN rfl f) (l_v (Bn rfl f (v:=bF) rfl) (Av bF (l_k i (Aq (h (rT bF ?_)))))))
  simp only[Ov,b,d,f,bZl]
 have k:=lZ4 b
 refine l_M (.int .u8 (c.toNat:Int)) (gY rfl b) rfl (Aa (gY rfl b) (Gl (p:=(c.toNat:Int)) (q:=122) rfl rfl) (l_v (Bn rfl b (v:=.bool (decide ((c.toNat:Int)>122))) rfl) (Ay (.bool (decide ((c.toNat:Int)>122))) (Cn (decide ((c.toNat:Int)>122)) (fun a=>?_) (fun a=>?_)))))
 ·have t:=lZ3 a
  refine l_M (.int .u8 (c.toNat:Int)) (gY rfl a) rfl (Aa (gY rfl a) (Da rfl rfl) (l_M (.bool (decide ((c.toNat:Int)<48))) (gY rfl a) rfl (Cn (decide ((c.toNat:Int)<48)) (fun e=>?_) (fun e=>?_))))
  ·have u:=lZ3 e
   refine Ap (gN rfl e) (Ap (gN rfl e) (Aa (gY rfl a) (Bt rfl e (v:=bT) rfl) (l_v (Bt rfl a (v:=bT) rfl) (Ay bT (l_M (.int .u8 (c.toNat:Int)) (gY rfl rfl) rfl (Aa (gY rfl rfl) (Dg rfl rfl) (l_v (Bt rfl rfl (v:=.bool ((c.toNat:Int) != 45)) rfl) (Av (.bool ((c.toNat:Int) != 45)) (l_k i (Aq (h (rT (.bool ((c.toNat:Int) != 45)) ?_))))))))))))
   simp only[Ov,b,a,e,bZl]
  have u:=lZ4 e
  refine l_M (.int .u8 (c.toNat:Int)) (gY rfl e) rfl (Aa (gY rfl e) (Gl (p:=(c.toNat:Int)) (q:=57) rfl rfl) (Aa (gY rfl a) (Bn rfl e (v:=.bool (decide ((c.toNat:Int)>57))) rfl) (l_v (Bt rfl a (v:=.bool (decide ((c.toNat:Int)>57))) rfl) (Ay (.bool (decide ((c.toNat:Int)>57))) (Cn (decide ((c.toNat:Int)>57)) (fun g=>?_) (fun g=>?_))))))
  ·have w:=lZ3 g
   refine l_M (.int .u8 (c.toNat:Int)) (gY rfl g) rfl (Aa (gY rfl g) (Dg rfl rfl) (l_v (Bt rfl g (v:=.bool ((c.toNat:Int) != 45)) rfl) (Av (.bool ((c.toNat:Int) != 45)) (l_k i (Aq (h (rT (.bool ((c.toNat:Int) != 45)) ?_)))))))
   simp only[Ov,b,a,e,g,bZl]
  have w:=lZ4 g
  refine Ap (gN rfl g) (Ap (gN rfl g) (l_v (Bn rfl g (v:=bF) rfl) (Av bF (l_k i (Aq (h (rT bF ?_)))))))
  simp only[Ov,b,a,e,g,bZl]
 have t:=lZ4 a
 refine Ap (gN rfl a) (Ap (gN rfl a) (Ap (gN rfl a) (Ap (Jf rfl rfl rfl) (Ap (Jf rfl rfl rfl) (Ap (gN rfl a) (l_v (Bn rfl a (v:=bF) rfl) (Ay bF (Ap (gN rfl rfl) (Ap (gN rfl rfl) (l_v (Bn rfl rfl (v:=bF) rfl) (Av bF (l_k i (Aq (h (rT bF ?_)))))))))))))))
 simp only[Ov,b,a,bZl]
theorem Aoh{s:ByteArray}(hs:s.size<2^60):CallsH (CX mn X) 24 #[.string s] ρ σ (rP ρ σ (.bool (Hg s))):=by
 refine Bf 21 [2] Tryz.func24 rfl fun Q h U=>w_q rfl rfl fun J w=>Av bF (Ary rfl rfl w fun N O D j=>Ay (.string s) (l_v (Afz Brs (s:=s) rfl) (Arv (Bm (vs:=[iV (s.size:Int),iV 1,iV 14]) (v:=.bool (inR (s.size:Int) 1 14)) Vb Bsv rfl rfl ⟨rfl,rfl,rfl,trivial⟩ ?_))))
 refine l_v (Iy rfl) (Ay (.bool (!(inR (s.size:Int) 1 14))) (Cn (!(inR (s.size:Int) 1 14)) (fun a=>?_) (fun a=>?_)))
 ·have k:=not_eq_t a
  have V:=Aij.1 k
  refine Ap (gN rfl a) (Ap (gN rfl a) (Ap (gN rfl a) (l_v (Bt rfl a (v:=bT) rfl) (Ay bT (Ap (gN rfl rfl) (Ap (gN rfl rfl) (Ap (gN rfl rfl) (l_v (Bt rfl rfl (v:=bT) rfl) (l_k j (Co rfl rfl (w_q rfl rfl fun P E=>Av bF (l_k E (Aq (h (rT bF ?_)))))))))))))))
  simp only[Hg,Qb,a,k,bZl]
 have g:=Ev a
 have W:=Fz.1 g
 refine l_M (.string s) (gY rfl a) rfl ?_
 obtain⟨d,f⟩:=Alc (s:=s) (i:=0) (by omega)
 refine Aa (gY rfl a) (Ace 0 d Brs rfl (q:=0) rfl rfl f) (Aa (gY rfl a) (Da rfl rfl) (l_v (Bn rfl a (v:=.bool (decide ((d.toNat:Int)<97))) rfl) (Ay (.bool (decide ((d.toNat:Int)<97))) (Cn (decide ((d.toNat:Int)<97)) (fun b=>?_) (fun b=>?_)))))
 ·have H:=lZ3 b
  refine Ap (gN rfl b) (Ap (gN rfl b) (Ap (gN rfl b) (l_v (Bt rfl b (v:=bT) rfl) (l_k j (Co rfl rfl (w_q rfl rfl fun K y=>Av bF (l_k y (Aq (h (rT bF ?_))))))))))
  simp only[Hg,Qb,f,a,g,b,bZl]
 have H:=lZ4 b
 refine l_M (.string s) (gY rfl b) rfl (Aa (gY rfl b) (Ace 0 d Brs rfl (q:=0) rfl rfl f) (Aa (gY rfl b) (Gl (p:=(d.toNat:Int)) (q:=122) rfl rfl) (l_v (Bn rfl b (v:=.bool (decide ((d.toNat:Int)>122))) rfl) (l_k j (Bb (t:=decide ((d.toNat:Int)>122)) rfl (fun e=>?_) (fun e=>?_))))))
 ·have G:=lZ3 e
  refine w_q rfl rfl fun L z=>Av bF (l_k z (Aq (h (rT bF ?_))))
  simp only[Hg,Qb,f,a,g,b,e,bZl]
 have G:=lZ4 e
 refine Al (kk D ?_)
 refine w_q rfl rfl fun M B=>Ay (.string s) (Arv (Amd (s:=s) Brs Bru Brv rfl (by omega) fun C n R Y T m u=>?_))
 refine Alh m u (by omega) fun Z F I=>Arv (Bm (vs:=[.slice (some ⟨C,0,none⟩) s.size n,.func (.func 64) #[] #[]]) (v:=.bool (s.data.toList.any (fun c:UInt8=>Ov (c.toNat:Int)))) (Ta I (⟨64,Tryz.f64,[],rfl,Tryz.func64,rfl,rfl,fun mn X ρ σ v x hv=>by rw[Uq.1 hv];exact Ayj⟩:Su (.func (.func 64) #[] #[]) (fun c:UInt8=>Ov (c.toNat:Int)))) Tryz.func63 rfl rfl ⟨rfl,rfl,trivial⟩ ?_)
 refine l_v (Iy rfl) (Av (.bool (!(s.data.toList.any (fun c:UInt8=>Ov (c.toNat:Int))))) (l_k B (Aj (Ghost.forget F) (Aq (h ⟨rfl,rfl,eT (.bool (!(s.data.toList.any (fun c:UInt8=>Ov (c.toNat:Int))))) ?_⟩)))))
 rw[Akl,Bool.not_not]
 simp only[Hg,Qb,f,a,g,b,e,bZl]
theorem Ava{s:List UInt8}(hb:s.length≤60000):CallsH (CX mn X) 28 #[.string (bs s)] ρ σ (rP ρ σ (.bool (Dd s))):=by
 refine Bf 20 [2] Tryz.func28 rfl fun Q k a0=>w_q rfl rfl fun M x=>Av bF (Ary rfl rfl x fun T U D E=>Ay (.string (bs s)) (l_v (Ce Brs (p:=s) rfl) (Ay (iV 0) (l_k E (Ao (Cc (fun mm ee dd ρ' σ'=>∃(i:Nat),(s.length-i)=mm∧[]=dd∧ρ=ρ'∧σ=σ'∧ee 0=(.string (bs s))∧ee 5=(iV (s.length:Int))∧ee 6=iV i∧(i≤s.length)∧(∀j,j<i→Azw s j=true)∧True) (m:=_) ⟨0,rfl,rfl,rfl,rfl,rfl,rfl,rfl,Mq _,fun j h=>absurd h (Aeq _),trivial⟩ ?_))))))
 rintro m4 e4 _ _ _ ⟨i,rfl,rfl,rfl,rfl,f,n,g,a2,w,_⟩
 refine w_q rfl rfl fun V F=>l_v (Da g n) (Asa F fun W G=>Bb (t:=decide ((i:Int)<(s.length:Int))) rfl (fun e=>?_) (fun e=>?_))
 ·have L:=lZ3 e
  refine Al (kk G ?_)
  refine Ai fun Y H=>Ao (w_q rfl rfl fun Z I=>l_v (Ah (v:=iV i) g) (Av (iV i) (Arx rfl rfl I fun N u=>l_v (Ah (v:=.string (bs s)) f) (Ay (iV i) ?_))))
  obtain⟨b,c⟩:=Nd (p:=s) (i:=i) (by omega)
  have a1:=b.toNat_lt
  refine l_v (Cr (p:=s) i b Brs rfl (q:=(i:Int)) rfl rfl c) (l_v (Da rfl rfl) (Ay (.bool (decide ((b.toNat:Int)<32))) (Cn (decide ((b.toNat:Int)<32)) (fun a=>?_) (fun a=>?_))))
  ·have J:=lZ3 a
   refine Ap (gN rfl a) (Ap (gN rfl a) (Ap (gN rfl a) (Ap (gN rfl a) (l_v (Bt rfl a (v:=bT) rfl) (l_k u (Co rfl rfl (w_q rfl rfl fun O y=>Av bF (l_k y (Aq (k (rT bF ?_)))))))))))
   rw[Abs c (by omega)]
  have J:=lZ4 a
  refine Aa (gY rfl a) (Ah (v:=.string (bs s)) f) (l_M (iV i) (gY rfl a) rfl (Aa (gY rfl a) (Cr (p:=s) i b Brs rfl (q:=(i:Int)) rfl rfl c) (Aa (gY rfl a) (Gl (p:=(b.toNat:Int)) (q:=126) rfl rfl) (l_v (Bn rfl a (v:=.bool (decide ((b.toNat:Int)>126))) rfl) (l_k u (Bb (t:=decide ((b.toNat:Int)>126)) rfl (fun d=>?_) (fun d=>?_)))))))
  ·have K:=lZ3 d
   refine w_q rfl rfl fun P B=>Av bF (l_k B (Aq (k (rT bF ?_))))
   rw[Abs c (by omega)]
  have K:=lZ4 d
  refine Al (kk H ?_)
  refine Ag rfl rfl (l_v (Br g rfl (z:=(((i+1):Nat):Int)) wrE) (Ay (iV ((i+1):Nat)) (Ac ?_)))
  refine⟨_,?_,(i+1),rfl,rfl,rfl,rfl,f,n,rfl,(by omega),(Eg w (Bkz c (by omega) (by omega))),trivial⟩
  omega
 have L:=lZ4 e
 refine Bx (kk D ?_)
 refine w_q rfl rfl fun R C=>Av bT (l_k C (Aq (k (rT bT ?_))))
 rw[Awx fun j hj=>w j (by omega)]
theorem Acz{n:Nat}{s:List UInt8}(hn:n≤60000)(hb:s.length≤60000):CallsH (CX mn X) 66 #[iV n,.string (bs s)] ρ σ (rP ρ σ (iV ((Dr n s):Nat))):=by
 refine Bf 27 [4] Bsx rfl fun Q k T=>w_q rfl rfl fun H u=>Av (iV 0) (Arx rfl rfl u fun K y=>Ay (iV n) (l_v (Wq rfl rfl (z:=(((7*n):Nat):Int)) wrE) (Av (iV ((7*n):Nat)) (Ary rfl rfl y fun L M B C=>Ay (.string (bs s)) (l_v (Ce Brs (p:=s) rfl) (Ay (iV 0) (l_k C (Ao (Cc (fun mm ee dd ρ' σ'=>∃(i:Nat) (a:Nat),(s.length-i)=mm∧[]=dd∧ρ=ρ'∧σ=σ'∧ee 1=(.string (bs s))∧ee 10=(iV (s.length:Int))∧ee 5=iV a∧ee 11=iV i∧(i≤s.length)∧(a=7*n+Jd (s.take i) 0)∧(a≤420000+24480*i)∧True) (m:=_) ⟨0,7*n,rfl,rfl,rfl,rfl,rfl,rfl,rfl,rfl,Mq _,rfl,(by omega),trivial⟩ ?_)))))))))
 rintro V R _ _ _ ⟨i,a,rfl,rfl,rfl,rfl,e,f,g,d,W,j,Y,_⟩
 refine w_q rfl rfl fun N D=>l_v (Da d f) (Asa D fun O E=>Bb (t:=decide ((i:Int)<(s.length:Int))) rfl (fun c=>?_) (fun c=>?_))
 ·have G:=lZ3 c
  refine Al (kk E ?_)
  refine Ai fun P F=>Ao (w_q rfl rfl fun I w=>l_v (Ah (v:=iV i) d) (Av (iV i) (l_k w (Ag rfl rfl (l_v (Ah (v:=iV a) g) (l_v (Ah (v:=.string (bs s)) e) (Ay (iV i) ?_)))))))
  obtain⟨b,h⟩:=Nd (p:=s) (i:=i) (by omega)
  have U:=b.toNat_lt
  have hm:=Awn b i
  refine l_v (Cr (p:=s) i b Brs rfl (q:=(i:Int)) rfl rfl h) (l_v (Acf (p:=(b.toNat:Int)) (z:=(b.toNat:Int)) Brv Brw rfl wrR) (Ay (iV i) (l_v (Aah (p:=(i:Int)) (q:=96) rfl rfl (by omega) (z:=(((i%96):Nat):Int)) rfl) (l_v (Br rfl rfl (z:=((((i%96)+1):Nat):Int)) wrE) (l_v (Wq rfl rfl (z:=(((b.toNat*((i%96)+1)):Nat):Int)) wrE) (l_v (Br rfl rfl (z:=(((a+(b.toNat*((i%96)+1))):Nat):Int)) wrE) (Av (iV (((a+(b.toNat*((i%96)+1))):Nat):Int)) (l_k F (Ag rfl rfl (l_v (Br d rfl (z:=(((i+1):Nat):Int)) wrE) (Ay (iV ((i+1):Nat)) (Ac ?_))))))))))))
  refine⟨_,?_,(i+1),(a+(b.toNat*((i%96)+1))),rfl,rfl,rfl,rfl,e,f,rfl,rfl,(by omega),(by rw[Ajo h,j,Aqb]),(by omega),trivial⟩
  omega
 have G:=lZ4 c
 refine Bx (kk B ?_)
 refine w_q rfl rfl fun J x=>l_v (Ah (v:=iV a) g) (l_v (Aah (p:=(a:Int)) (q:=97) rfl rfl (by omega) (z:=(((a%97):Nat):Int)) rfl) (Av (iV ((a%97):Nat)) (l_k x (Aq (k (rT (iV ((a%97):Nat)) ?_))))))
 have hi:i=s.length:=by omega
 rw[j,hi,Nn];rfl
end
section
open Go
variable{mn:Bool}{X:Frame→List Frame→Ro→Own→Cy→Prop}{ρ:Ro}{σ:Own}
theorem Ayb{p:List UInt8}(hb:p.length≤60000):CallsH (CX mn X) 125 #[.string (bs p),.string (bs ([10]:List UInt8))] ρ σ (rP ρ σ (.tuple #[.string (bs (Bc p)),.bool (Gr p)])):=by
 refine Bf 18 [4,5] Tryz.func125 rfl fun Q d y=>w_q rfl rfl fun m f=>Av (.string (ByteArray.mk #[])) (Av bF (Ary rfl rfl f fun n u g i=>Ay (.string (bs p)) (Ay (.string (bs ([10]:List UInt8))) (Arv (Bm (vs:=[.string (bs p),.string (bs ([10]:List UInt8))]) (v:=.bool (p.drop (p.length-1)==[10])) (Aog (p:=p) (by omega)) Tryz.func160 rfl rfl ⟨rfl,rfl,trivial⟩ ?_)))))
 refine l_v (Iy rfl) (l_k i (Bb (t:=!(p.drop (p.length-1)==[10])) rfl (fun a=>?_) (fun a=>?_)))
 ·have e:=not_eq_t a
  refine w_q rfl rfl fun w j=>Ay (.string (bs p)) (Av (.string (bs p)) (Av bF (l_k j (Aq (d ⟨rfl,rfl,Eq.trans (b:=.tuple #[.string (bs p),bF]) (Mp (r:=4) (r':=5) (rs:=[]) (v:=.string (bs p)) (v':=bF) (vs:=[]) ⟨rfl,rfl,trivial⟩) ?_⟩)))))
  unfold Bc Gr;rw[e];rfl
 have c:=Ev a
 have B:1≤p.length:=by
  cases p with
  | nil=>exact absurd c (by decide)
  | cons=>simp
 refine Al (kk g ?_)
 refine w_q rfl rfl fun x k=>Ay (.string (bs p)) (Ay (.string (bs p)) (l_v (Ce Brs (p:=p) rfl) (Ay (.string (bs ([10]:List UInt8))) (l_v (Ce Brs (p:=([10]:List UInt8)) rfl) (l_v (Ou (p:=(p.length:Int)) (q:=1) rfl rfl (z:=(((p.length-1):Nat):Int)) (Bo (by omega) (by omega) (by omega))) (l_v (Lp (p:=p) (l:=0) (h:=p.length-1) Brs rfl (.inl ⟨rfl,rfl⟩) (.inr ⟨_,rfl,rfl⟩) (by omega) (by omega)) (Av (.string (bs ((p.take (p.length-1)).drop 0))) (Av bT (l_k k (Aq (d ⟨rfl,rfl,Eq.trans (b:=.tuple #[.string (bs ((p.take (p.length-1)).drop 0)),bT]) (Mp (r:=4) (r':=5) (rs:=[]) (v:=.string (bs ((p.take (p.length-1)).drop 0))) (v':=bT) (vs:=[]) ⟨rfl,rfl,trivial⟩) ?_⟩)))))))))))
 unfold Bc Gr;rw[c];rfl
theorem Bbk{p:List UInt8}(hb:p.length≤60000):CallsH (CX mn X) 70 #[.string (bs p),.string (bs ([10]:List UInt8))] ρ σ (rP ρ σ (.tuple #[.string (bs (Bc p)),.bool (Gr p)])):=by
 refine Bf 11 [4,5] Tryz.func70 rfl fun Q a g=>w_q rfl rfl fun e c=>Av (.string (ByteArray.mk #[])) (Av bF (Arx rfl rfl c fun f d=>Ay (.string (bs p)) (Ay (.string (bs ([10]:List UInt8))) (Arv (Bm (vs:=[.string (bs p),.string (bs ([10]:List UInt8))]) (v:=.tuple #[.string (bs (Bc p)),.bool (Gr p)]) (Ayb (p:=p) (by omega)) Tryz.func125 rfl rfl ⟨rfl,rfl,trivial⟩ ?_)))))
 refine l_v (Bk (vs:=#[.string (bs (Bc p)),.bool (Gr p)]) rfl (v:=.string (bs (Bc p))) rfl) (l_v (Bk (vs:=#[.string (bs (Bc p)),.bool (Gr p)]) rfl (v:=.bool (Gr p)) rfl) (Av (.string (bs (Bc p))) (Av (.bool (Gr p)) (l_k d (Aq (a ⟨rfl,rfl,Eq.trans (b:=.tuple #[.string (bs (Bc p)),.bool (Gr p)]) (Mp (r:=4) (r':=5) (rs:=[]) (v:=.string (bs (Bc p))) (v':=.bool (Gr p)) (vs:=[]) ⟨rfl,rfl,trivial⟩) ?_⟩))))))
 rfl
theorem Ayk{s:List UInt8}(hb:s.length≤60000):CallsH (CX mn X) 127 #[.string (bs s)] ρ σ (fun w ρ' σ'=>Ro.le ρ ρ'∧σ'=σ∧w = .tuple #[iV (Jb s),.bool (Er s)]):=by
 have hbl:=Bbe (s:=s)
 refine Bf 33 [2,3] Tryz.func127 rfl fun Q e a3=>w_q rfl rfl fun V F=>Av (iV 0) (Av bF (Arx rfl rfl F fun K2 L=>Ay (.string (bs s)) (Arv (Bm (vs:=[.string (bs s),.string (ByteArray.mk #[45])]) (v:=.string (bs (Dv s))) (Akx (p:=s) (by omega)) Tryz.func168 rfl rfl ⟨rfl,rfl,trivial⟩ ?_))))
 refine Av (.string (bs (Dv s))) (Ary rfl rfl L fun K3 K4 z j=>Ay (.string (bs (Dv s))) (l_v (Ce Brs (p:=Dv s) rfl) (Arv (Bm (vs:=[iV ((((Dv s)).length:Nat):Int),iV 1,iV 9]) (v:=.bool (inR ((((Dv s)).length:Nat):Int) 1 9)) Vb Bsv rfl rfl ⟨rfl,rfl,rfl,trivial⟩ ?_))))
 refine l_v (Iy rfl) (Ay (.bool (!(inR ((((Dv s)).length:Nat):Int) 1 9))) (Cn (!(inR ((((Dv s)).length:Nat):Int) 1 9)) (fun c=>?_) (fun c=>?_)))
 ·have u:=not_eq_t c
  have hz:Er s=false:=Bnc (by have:=u;unfold inR at this;simp at this;omega)
  have q6:=Aij.1 u
  refine Ap (gN rfl c) (Ap (gN rfl c) (Ap (gN rfl c) (l_v (Bt rfl c (v:=bT) rfl) (Ay bT (Ap (gN rfl rfl) (Ap (gN rfl rfl) (Ap (gN rfl rfl) (Ap (gN rfl rfl) (Ap (Jf rfl rfl rfl) (Ap (Jf rfl rfl rfl) (Ap (gN rfl rfl) (l_v (Bt rfl rfl (v:=bT) rfl) (l_k j (Co rfl rfl (w_q rfl rfl fun K7 N=>Av (iV 0) (Av bF (l_k N (Aq (e ⟨Bsy,rfl,Eq.trans (Mp (r:=2) (r':=3) (rs:=[]) (v:=iV 0) (v':=bF) (vs:=[]) ⟨rfl,rfl,trivial⟩) (by rw[Zc hz,hz])⟩)))))))))))))))))))
 have x:=Ev c
 have h:1≤(Dv s).length∧(Dv s).length≤9:=by have:=x;unfold inR at this;simp at this;omega
 have q8:=Fz.1 x
 refine l_M (.string (bs (Dv s))) (gY rfl c) rfl (Ae (gY rfl c) (Bm (vs:=[.string (bs (Dv s)),.string (ByteArray.mk #[48,49,50,51,52,53,54,55,56,57])]) (v:=.string (bs (Qa (Dv s)))) (Bbp (p:=Dv s) (by omega)) Tryz.func126 rfl rfl ⟨rfl,rfl,trivial⟩ ?_))
 refine Aa (gY rfl c) (Qc (p:=Qa (Dv s)) (q:=([]:List UInt8)) rfl rfl) (l_v (Bn rfl c (v:=.bool ((Qa (Dv s)) != ([]:List UInt8))) rfl) (Ay (.bool ((Qa (Dv s)) != ([]:List UInt8))) (Cn ((Qa (Dv s)) != ([]:List UInt8)) (fun a=>?_) (fun a=>?_))))
 ·have hz:Er s=false:=Bnd (by have:=a;rw[Xq]at this;simpa using this)
  have U:=Ls a
  refine Ap (gN rfl a) (Ap (gN rfl a) (Ap (gN rfl a) (Ap (gN rfl a) (Ap (Jf rfl rfl rfl) (Ap (Jf rfl rfl rfl) (Ap (gN rfl a) (l_v (Bt rfl a (v:=bT) rfl) (l_k j (Co rfl rfl (w_q rfl rfl fun W G=>Av (iV 0) (Av bF (l_k G (Aq (e ⟨Bsy,rfl,Eq.trans (Mp (r:=2) (r':=3) (rs:=[]) (v:=iV 0) (v':=bF) (vs:=[]) ⟨rfl,rfl,trivial⟩) (by rw[Zc hz,hz])⟩))))))))))))))
 have y:(Dv s).all Df=true:=by have:=a;rw[Xq]at this;simpa using this
 have U:=Jh a
 refine l_M (.string (bs (Dv s))) (gY rfl a) rfl ?_
 obtain⟨f,g⟩:=Nd (p:=Dv s) (i:=0) (by omega)
 have a4:=f.toNat_lt
 refine Aa (gY rfl a) (Cr (p:=Dv s) 0 f Brs rfl (q:=0) rfl rfl g) (Aa (gY rfl a) (Ek rfl rfl) (l_M (.bool ((f.toNat:Int)==48)) (gY rfl a) rfl (Cn ((f.toNat:Int)==48) (fun b=>?_) (fun b=>?_))))
 ·have R:=Jr b
  refine l_M (.string (bs s)) (gY rfl b) rfl (Aa (gY rfl b) (Qc (p:=s) (q:=([48]:List UInt8)) rfl rfl) (Aa (gY rfl a) (Bt rfl b (v:=.bool (s != ([48]:List UInt8))) rfl) (l_v (Bn rfl a (v:=.bool (s != ([48]:List UInt8))) rfl) (l_k j (Bb (t:=s != ([48]:List UInt8)) rfl (fun d=>?_) (fun d=>?_))))))
  ·have hz:Er s=false:=Bne g (Ie (n:=48) (Jr b)) (by simpa using d)
   have T:=Ls d
   refine w_q rfl rfl fun Y H=>Av (iV 0) (Av bF (l_k H (Aq (e ⟨Bsy,rfl,Eq.trans (Mp (r:=2) (r':=3) (rs:=[]) (v:=iV 0) (v':=bF) (vs:=[]) ⟨rfl,rfl,trivial⟩) (by rw[Zc hz,hz])⟩))))
  have hz:Er s=true:=Bkv h.1 h.2 y g (.inr (by simpa using d))
  have T:=Jh d
  refine Al (kk z ?_)
  refine w_q rfl rfl fun Z I=>Ay (.string (bs s)) (Arv (Cm (vs:=[.string (bs s)]) (Bbj (s:=s) hz) Tryz.func169 rfl rfl ⟨rfl,trivial⟩ fun a5 a7 a9 B=>?_))
  obtain⟨O,k,D⟩:=B
  replace k:=k.symm;subst k D
  refine Ay (.tuple #[iV (Jt s),.nilIface]) (l_v (Bk (vs:=#[iV (Jt s),.nilIface]) rfl (v:=iV (Jt s)) rfl) (l_v (Bk (vs:=#[iV (Jt s),.nilIface]) rfl (v:=.nilIface) rfl) (Av (iV (Jt s)) (Av .nilIface (Arx rfl rfl I fun a0 J=>Ay (iV (Jt s)) (Av (iV (Jt s)) (Av bT (l_k J (Aq (e ⟨O,rfl,Eq.trans (Mp (r:=2) (r':=3) (rs:=[]) (v:=iV (Jt s)) (v':=bT) (vs:=[]) ⟨rfl,rfl,trivial⟩) (by rw[Afj hz,hz])⟩))))))))))
 have hz:Er s=true:=Bkv h.1 h.2 y g (.inl (Rh (n:=48) (Jq b)))
 have R:=Jq b
 refine Ap (gN rfl b) (Ap (gN rfl b) (Aa (gY rfl a) (Bn rfl b (v:=bF) rfl) (l_v (Bn rfl a (v:=bF) rfl) (l_k j (Cg rfl rfl (Al (kk z ?_)))))))
 refine w_q rfl rfl fun a1 K=>Ay (.string (bs s)) (Arv (Cm (vs:=[.string (bs s)]) (Bbj (s:=s) hz) Tryz.func169 rfl rfl ⟨rfl,trivial⟩ fun a6 a8 aa C=>?_))
 obtain⟨P,m,E⟩:=C
 replace m:=m.symm;subst m E
 refine Ay (.tuple #[iV (Jt s),.nilIface]) (l_v (Bk (vs:=#[iV (Jt s),.nilIface]) rfl (v:=iV (Jt s)) rfl) (l_v (Bk (vs:=#[iV (Jt s),.nilIface]) rfl (v:=.nilIface) rfl) (Av (iV (Jt s)) (Av .nilIface (Arx rfl rfl K fun a2 M=>Ay (iV (Jt s)) (Av (iV (Jt s)) (Av bT (l_k M (Aq (e ⟨P,rfl,Eq.trans (Mp (r:=2) (r':=3) (rs:=[]) (v:=iV (Jt s)) (v':=bT) (vs:=[]) ⟨rfl,rfl,trivial⟩) (by rw[Afj hz,hz])⟩))))))))))
theorem Bbq{s:List UInt8}(h4:s.length=4):CallsH (CX mn X) 71 #[.string (bs s)] ρ σ (rP ρ σ (.tuple #[iV ((ckR s):Nat),.bool (Gt s)])):=by
 refine Bf 23 [2,3] Tryz.func71 rfl fun Q k J=>w_q rfl rfl fun D n=>Av (iV 0) (Av bF (Ary rfl rfl n fun E F u m=>Ay (.string (bs s)) (l_v (Lp (p:=s) (l:=0) (h:=2) Brs rfl (.inl ⟨rfl,rfl⟩) (.inr ⟨_,rfl,rfl⟩) (by omega) (by omega)) (l_v (Qc (p:=(s.take 2).drop 0) (q:=([32,35]:List UInt8)) rfl rfl) (Ay (.bool (((s.take 2).drop 0) != ([32,35]:List UInt8))) (Cn (((s.take 2).drop 0) != ([32,35]:List UInt8)) (fun a=>?_) (fun a=>?_)))))))
 ·have hz:Gt s=false:=Bpd a
  have B:=Ls a
  refine Ap (gN rfl a) (Ap (gN rfl a) (Ap (gN rfl a) (Ap (gN rfl a) (l_v (Bt rfl a (v:=bT) rfl) (l_k m (Co rfl rfl (w_q rfl rfl fun G w=>Av (iV 0) (Av bF (l_k w (Aq (k ⟨rfl,rfl,Eq.trans (b:=.tuple #[iV 0,bF]) (Mp (r:=2) (r':=3) (rs:=[]) (v:=iV 0) (v':=bF) (vs:=[]) ⟨rfl,rfl,trivial⟩) ?_⟩)))))))))))
  rw[Bko hz,hz];rfl
 have B:=Jh a
 refine l_M (.string (bs s)) (gY rfl a) rfl (Aa (gY rfl a) (Lp (p:=s) (l:=2) (h:=s.length) Brs rfl (.inr ⟨_,rfl,rfl⟩) (.inl ⟨rfl,rfl⟩) (by omega) (by omega)) (Ae (gY rfl a) (Bm (vs:=[.string (bs ((s.take s.length).drop 2)),.string (ByteArray.mk #[48,49,50,51,52,53,54,55,56,57])]) (v:=.string (bs (Qa ((s.take s.length).drop 2)))) (Bbp (p:=(s.take s.length).drop 2) (by simp only[En,Ea];omega)) Tryz.func126 rfl rfl ⟨rfl,rfl,trivial⟩ ?_)))
 refine Aa (gY rfl a) (Qc (p:=Qa ((s.take s.length).drop 2)) (q:=([]:List UInt8)) rfl rfl) (l_v (Bn rfl a (v:=.bool ((Qa ((s.take s.length).drop 2)) != ([]:List UInt8))) rfl) (l_k m (Bb (t:=(Qa ((s.take s.length).drop 2)) != ([]:List UInt8)) rfl (fun e=>?_) (fun e=>?_))))
 ·have hz:Gt s=false:=Bpe (by have:=e;rw[Xq,Nn]at this;simpa using this)
  have C:=Ls e
  refine w_q rfl rfl fun H x=>Av (iV 0) (Av bF (l_k x (Aq (k ⟨rfl,rfl,Eq.trans (b:=.tuple #[iV 0,bF]) (Mp (r:=2) (r':=3) (rs:=[]) (v:=iV 0) (v':=bF) (vs:=[]) ⟨rfl,rfl,trivial⟩) ?_⟩))))
  rw[Bko hz,hz];rfl
 have f:(s.drop 2).all Df=true:=by have:=e;rw[Xq,Nn]at this;simpa using this
 have C:=Jh e
 refine Al (kk u ?_)
 refine Ai fun I y=>Agu (Bu 0 (zT 1 11) rfl (Ah (v:=.string (bs s)) rfl) ?_)
 obtain⟨c,j⟩:=Nd (p:=s) (i:=2) (by omega)
 have N:=c.toNat_lt
 have L:=Bkp f (by omega) j
 refine Bu 1 (zT 2 10) rfl (Cr (p:=s) 2 c Brs rfl (q:=2) rfl rfl j) (Bu 2 (zT 3 9) rfl (Ou (p:=(c.toNat:Int)) (q:=48) rfl rfl (z:=(((c.toNat-48):Nat):Int)) ((Anq (by omega) (by omega)).trans (by omega))) (Bu 3 (zT 4 8) rfl (Acf (p:=(((c.toNat-48):Nat):Int)) (z:=(((c.toNat-48):Nat):Int)) Brv Brw rfl wrR) (Bu 4 (zT 5 7) rfl (Wq rfl rfl (z:=((((c.toNat-48)*10):Nat):Int)) wrE) (Bq 5 (zT 6 6) rfl (Ah (v:=.string (bs s)) rfl) ?_))))
 obtain⟨d,g⟩:=Nd (p:=s) (i:=3) (by omega)
 have M:=d.toNat_lt
 have K:=Bkp f (by omega) g
 refine Bq 6 (zT 7 5) rfl (Cr (p:=s) 3 d Brs rfl (q:=3) rfl rfl g) (Bq 7 (zT 8 4) rfl (Ou (p:=(d.toNat:Int)) (q:=48) rfl rfl (z:=(((d.toNat-48):Nat):Int)) ((Anq (by omega) (by omega)).trans (by omega))) (Bq 8 (zT 9 3) rfl (Acf (p:=(((d.toNat-48):Nat):Int)) (z:=(((d.toNat-48):Nat):Int)) Brv Brw rfl wrR) (Bq 9 (zT 10 2) rfl (Br rfl rfl (z:=(((((c.toNat-48)*10)+(d.toNat-48)):Nat):Int)) wrE) (Bq 10 (zT 11 1) rfl (Cp (v:=iV (((((c.toNat-48)*10)+(d.toNat-48)):Nat):Int)) rfl) (Bq 11 (zT 12 0) rfl (Cp (v:=bT) rfl) (Ec rfl (kk y ?_)))))))
 refine Aq (k ⟨rfl,rfl,Eq.trans (b:=.tuple #[iV (((((c.toNat-48)*10)+(d.toNat-48)):Nat):Int),bT]) (Mp (r:=2) (r':=3) (rs:=[]) (v:=iV (((((c.toNat-48)*10)+(d.toNat-48)):Nat):Int)) (v':=bT) (vs:=[]) ⟨rfl,rfl,trivial⟩) ?_⟩)
 have hz:Gt s=true:=Bqq a f
 rw[Bpc h4 hz j g,hz]
theorem Ada{n:Nat}{s:List UInt8}(hn:n≤60000)(hb:s.length≤60000):CallsH (CX mn X) 26 #[iV n,.string (bs s)] ρ σ (rP ρ σ (.string (bs (Fp n s)))):=by
 have hc:=Mw n s
 refine Bf 23 [4] Tryz.func26 rfl fun Q e u=>w_q rfl rfl fun k f=>Av (.string (ByteArray.mk #[])) (Arx rfl rfl f fun m g=>Ay (iV n) (Ay (.string (bs s)) (Arv (Bm (vs:=[iV n,.string (bs s)]) (v:=iV ((Dr n s):Nat)) (Acz (n:=n) (s:=s) (by omega) (by omega)) Bsx rfl rfl ⟨rfl,rfl,trivial⟩ ?_))))
 refine Av (iV ((Dr n s):Nat)) (Arx rfl rfl g fun t h=>Ay (.string (bs s)) (l_v (Jw (p:=s) (q:=([32,35]:List UInt8)) rfl rfl (by first|omega|(simp only[lZ1,lZ2,Dy,Ea,En]at *;omega))) (Ay (iV ((Dr n s):Nat)) (l_v (Bgi (p:=(((Dr n s):Nat):Int)) (q:=10) rfl rfl (by omega) (z:=((((Dr n s)/10):Nat):Int)) wrR) (l_v (Br rfl rfl (z:=(((48+((Dr n s)/10)):Nat):Int)) wrE) (l_v (Acf (p:=(((48+((Dr n s)/10)):Nat):Int)) (z:=(((48+((Dr n s)/10)):Nat):Int)) Brw Brv rfl (Anq (by omega) (by omega))) (Ay (iV ((Dr n s):Nat)) (l_v (Aah (p:=(((Dr n s):Nat):Int)) (q:=10) rfl rfl (by omega) (z:=((((Dr n s)%10):Nat):Int)) rfl) (l_v (Br rfl rfl (z:=(((48+((Dr n s)%10)):Nat):Int)) wrE) (l_v (Acf (p:=(((48+((Dr n s)%10)):Nat):Int)) (z:=(((48+((Dr n s)%10)):Nat):Int)) Brw Brv rfl (Anq (by omega) (by omega))) (Arv (Bi (α:=UInt8) (xs:=[UInt8.ofNat ((((48+((Dr n s)/10)):Nat):Int)).toNat,UInt8.ofNat ((((48+((Dr n s)%10)):Nat):Int)).toNat]) (vs:=[.int .u8 (((48+((Dr n s)/10)):Nat):Int),.int .u8 (((48+((Dr n s)%10)):Nat):Int)]) Bru ty5 zr5 rfl (by decide) (Dk (os:=[.tmp 14,.tmp 18]) ⟨rfl,rfl,trivial⟩) ⟨Vy (by omega) (by omega),Vy (by omega) (by omega),trivial⟩ rfl (by decide) fun a d c=>?_))))))))))))
 have b:Grow ρ 5 (.slice (some ⟨a,0,none⟩) 2 2) ([UInt8.ofNat ((((48+((Dr n s)/10)):Nat):Int)).toNat,UInt8.ofNat ((((48+((Dr n s)%10)):Nat):Int)).toNat]:List UInt8) [(a,oC d.toArray 5)]:=Bs c rfl (by decide)
 refine Ca b fun w i j=>l_v (Tf (el:=5) Bru Brs Brv rfl j) (l_v (Jw (p:=s++([32,35]:List UInt8)) (q:=([UInt8.ofNat ((((48+((Dr n s)/10)):Nat):Int)).toNat,UInt8.ofNat ((((48+((Dr n s)%10)):Nat):Int)).toNat]:List UInt8)) rfl rfl (by first|omega|(simp only[lZ1,lZ2,Dy,Ea,En]at *;omega))) (l_v (Jw (p:=(s++([32,35]:List UInt8))++([UInt8.ofNat ((((48+((Dr n s)/10)):Nat):Int)).toNat,UInt8.ofNat ((((48+((Dr n s)%10)):Nat):Int)).toNat]:List UInt8)) (q:=([10]:List UInt8)) rfl rfl (by first|omega|(simp only[lZ1,lZ2,Dy,Ea,En]at *;omega))) (Av (.string (bs (((s++([32,35]:List UInt8))++([UInt8.ofNat ((((48+((Dr n s)/10)):Nat):Int)).toNat,UInt8.ofNat ((((48+((Dr n s)%10)):Nat):Int)).toNat]:List UInt8))++([10]:List UInt8)))) (l_k h (Aj (Ghost.forget i) (Aq (e ⟨rfl,rfl,eT (.string (bs (((s++([32,35]:List UInt8))++([UInt8.ofNat ((((48+((Dr n s)/10)):Nat):Int)).toNat,UInt8.ofNat ((((48+((Dr n s)%10)):Nat):Int)).toNat]:List UInt8))++([10]:List UInt8)))) ?_⟩)))))))
 rfl
end
section
open Go
def Fc(a:ByteArray):Bool:=decide (a.data.toList.length≤200)&&Dd a.data.toList
def Pq(ls:List ByteArray)(j:Nat):Bool:=match ls[j]? with|some a=>Fc a|none=>true
def Mi(k:List UInt8)(n:Nat):List UInt8:=Fp 0 (([98,111,111,107,32]++k)++[32]++Ew n)
def Ez:List ByteArray→Nat→List UInt8
 | [],_=>[]
 | a::ls,n=>Fp n a.data.toList++Ez ls (n+1)
def Pb(k:List UInt8)(ls:List ByteArray):List UInt8:=Mi k ls.length++Ez ls 1
def Bw(k:List UInt8)(ls:List ByteArray):Int:=if Hg (bs k)=false then 4 else if 90<ls.length then 2 else if ls.all Fc=true then 0 else 3
def Au(k:List UInt8)(ls:List ByteArray):List UInt8:=if Bw k ls=0 then Pb k ls else []
theorem Axz(x y:List ByteArray)(n:Nat):Ez (x++y) n=Ez x n++Ez y (n+x.length):=by
 induction x generalizing n with
 | nil=>simp[Ez]
 | cons a x ih=>rw[Nu,Ez,Ez,ih,lZ2,show n+1+x.length=n+(x.length+1) by omega,lZ9]
theorem Act{ls:List ByteArray}{i:Nat}{a:ByteArray}(h:ls[i]?=some a):Ez (ls.take (i+1)) 1=Ez (ls.take i) 1++Fp (i+1) a.data.toList:=by
 rw[Apx,h,Axz]
 have:(ls.take i).length=i:=by rw[Ea];have:=(Ig.1 h).1;omega
 rw[this,Aei 1 i];simp[Ez]
theorem Im(n:Nat)(p:List UInt8):(Fp n p).length=p.length+5:=by simp[Fp,Gh]
theorem Yc(ls:List ByteArray)(i n:Nat)(h:∀j,j<i→Pq ls j=true):(Ez (ls.take i) n).length≤205*i:=by
 have key:∀(x:List ByteArray) (n:Nat),(∀a∈x,Fc a=true)→(Ez x n).length≤205*x.length:=by
  intro x
  induction x with
  | nil=>intro n _;simp[Ez]
  | cons a x ih =>
   intro n hx
   have c:=hx a mC
   have d:=ih (n+1) fun b hb=>hx b (lZ0 _ hb)
   unfold Fc at c
   simp only[Fd,decide_eq_true_eq]at c
   rw[Ez,lZ1,Im,lZ2]
   omega
 refine Mm (key _ n fun a ha=>?_) (Nat.mul_le_mul_left _ (by rw[Ea];omega))
 obtain⟨j,hj⟩:=Aau ha
 rw[Bdg]at hj
 split at hj
 ·rename_i hlt
  have:=h j hlt
  unfold Pq at this;rw[hj]at this;exact this
 ·cases hj
theorem Awk{ls:List ByteArray}{i:Nat}{a:ByteArray}(h:ls[i]?=some a)(h1:a.data.toList.length≤200)(h2:Dd a.data.toList=true):Pq ls i=true:=by
 unfold Pq;rw[h];simp only[Fc,h2,Amy,decide_eq_true_eq];exact h1
theorem all_t{ls:List ByteArray}(h:∀j,j<ls.length→Pq ls j=true):ls.all Fc=true:=by
 rw[Hs]
 intro a ha
 obtain⟨j,hj⟩:=Aau ha
 have:=h j (Ig.1 hj).1
 unfold Pq at this;rw[hj]at this;exact this
theorem Auw{ls:List ByteArray}{i:Nat}{a:ByteArray}(h:ls[i]?=some a)(hn:200<a.data.toList.length∨Dd a.data.toList=false):ls.all Fc=false:=by
 cases hp:ls.all Fc with
 | false=>rfl
 | true =>
  have:=Hs.1 hp a (lZ6 h)
  simp only[Fc,Fd,decide_eq_true_eq]at this
  rcases hn with hn|hn
  ·omega
  ·rw[hn]at this;cases this.2
theorem Ano{k:List UInt8}{ls:List ByteArray}(h:Hg (bs k)=false):Bw k ls=4∧Au k ls=[]:=by
 have:Bw k ls=4:=by unfold Bw;rw[if_pos h]
 exact⟨this,by unfold Au;rw[this];rfl⟩
theorem Ann{k:List UInt8}{ls:List ByteArray}(h:Hg (bs k)=true)(h2:90<ls.length):Bw k ls=2∧Au k ls=[]:=by
 have:Bw k ls=2:=by unfold Bw;rw[if_neg (by rw[h];simp),if_pos h2]
 exact⟨this,by unfold Au;rw[this];rfl⟩
theorem Zn{k:List UInt8}{ls:List ByteArray}(h:Hg (bs k)=true)(h2:ls.length≤90)(h3:ls.all Fc=false):Bw k ls=3∧Au k ls=[]:=by
 have:Bw k ls=3:=by unfold Bw;rw[if_neg (by rw[h];simp),if_neg (by omega),if_neg (by rw[h3];simp)]
 exact⟨this,by unfold Au;rw[this];rfl⟩
theorem Agp{k:List UInt8}{ls:List ByteArray}(h:Hg (bs k)=true)(h2:ls.length≤90)(h3:ls.all Fc=true):Bw k ls=0∧Au k ls=Pb k ls:=by
 have:Bw k ls=0:=by unfold Bw;rw[if_neg (by rw[h];simp),if_neg (by omega),if_pos h3]
 exact⟨this,by unfold Au;rw[this];rfl⟩
end
section
open Go
variable{mn:Bool}{X:Frame→List Frame→Ro→Own→Cy→Prop}{ρ:Ro}{σ:Own}
theorem Bbl{n:Nat}(hn:n<100):CallsH (CX mn X) 67 #[iV n] ρ σ (rP ρ σ (.string (bs (Ew n)))):=by
 refine Bf 5 [2] Tryz.func67 rfl fun Q a f=>w_q rfl rfl fun d b=>Av (.string (ByteArray.mk #[])) (Arx rfl rfl b fun e c=>Ay (iV n) (Arv (Bm (vs:=[iV n,iV 10]) (v:=.string (bs (Ew n))) (Aye (n:=n) hn) Tryz.func123 rfl rfl ⟨rfl,rfl,trivial⟩ ?_)))
 refine Av (.string (bs (Ew n))) (l_k c (Aq (a (rT (.string (bs (Ew n))) ?_))))
 rfl
theorem Bha{n:Nat}(hn:n<100):CallsH (CX mn X) 27 #[iV n] ρ σ (rP ρ σ (.string (bs (Ew n)))):=by
 refine Bf 5 [2] Tryz.func27 rfl fun Q a f=>w_q rfl rfl fun d b=>Av (.string (ByteArray.mk #[])) (Arx rfl rfl b fun e c=>Ay (iV n) (Arv (Bm (vs:=[iV n]) (v:=.string (bs (Ew n))) (Bbl (n:=n) hn) Tryz.func67 rfl rfl ⟨rfl,trivial⟩ ?_)))
 refine Av (.string (bs (Ew n))) (l_k c (Aq (a (rT (.string (bs (Ew n))) ?_))))
 rfl
theorem Abc{k:List UInt8}{ls:List ByteArray}{vl:Value}(hk:k.length≤50000)(rl:Val ρ vl ls)(hz:∀(j:Nat) (a:ByteArray),ls[j]?=some a→a.data.toList.length≤60000):CallsH (CX mn X) 8 #[.string (bs k),vl] ρ σ (rP ρ σ (.tuple #[.string (bs (Au k ls)),iV (Bw k ls)])):=by
 refine Bf 48 [4,5] Tryz.func8 rfl fun Q g bh=>w_q rfl rfl fun K1 k1=>Av (.string (ByteArray.mk #[])) (Av (iV 0) (Asa k1 fun K2 k2=>Ao (w_q rfl rfl fun K3 k3=>Ay (.string (bs k)) (Arv (Bm (vs:=[.string (bs k)]) (v:=.bool (Hg (bs k))) (Aoh (by first|omega|(rw[Gp];omega))) Tryz.func24 rfl rfl ⟨rfl,trivial⟩ ?_)))))
 refine l_v (Iy rfl) (Av (.bool (!(Hg (bs k)))) (l_k k3 (Bb (t:=!(Hg (bs k))) rfl (fun E=>?_) (fun E=>?_))))
 ·have b5:=not_eq_t E
  refine w_q rfl rfl fun K6 k6=>Av (.string (ByteArray.mk #[])) (Av (iV 4) (l_k k6 (Aq (g ⟨rfl,rfl,Eq.trans (b:=.tuple #[.string (ByteArray.mk #[]),iV 4]) (Mp (r:=4) (r':=5) (rs:=[]) (v:=.string (ByteArray.mk #[])) (v':=iV 4) (vs:=[]) ⟨rfl,rfl,trivial⟩) ?_⟩))))
  have hw:=Ano (ls:=ls) b5
  rw[hw.1,hw.2];rfl
 have x:=Ev E
 refine w_q rfl rfl fun K8 k8=>Ay vl ?_
 have g9:=Val.len rl
 refine l_v (Ci (el:=9) Brt rfl rl) (l_v (Gl (p:=(ls.length:Int)) (q:=90) rfl rfl) (Av (.bool (decide ((ls.length:Int)>90))) (l_k k8 (Bb (t:=decide ((ls.length:Int)>90)) rfl (fun B=>?_) (fun B=>?_)))))
 ·have an:=lZ3 B
  refine w_q rfl rfl fun au a8=>Av (.string (ByteArray.mk #[])) (Av (iV 2) (l_k a8 (Aq (g ⟨rfl,rfl,Eq.trans (b:=.tuple #[.string (ByteArray.mk #[]),iV 2]) (Mp (r:=4) (r':=5) (rs:=[]) (v:=.string (ByteArray.mk #[])) (v':=iV 2) (vs:=[]) ⟨rfl,rfl,trivial⟩) ?_⟩))))
  have hw:=Ann (ls:=ls) x (by omega)
  rw[hw.1,hw.2];rfl
 have hdl:(Ew ls.length).length≤20:=Wi (by omega)
 have an:=lZ4 B
 refine Al (kk k2 ?_)
 refine w_q rfl rfl fun av a9=>Arv (Ct Bow fun e=>?_)
 refine Arx rfl rfl a9 fun aw aa=>Ay (.string (bs k)) (l_v (Jw (p:=bZ1) (q:=k) rfl rfl (by first|omega|(simp only[lZ1,lZ2,Dy,Ea,En]at *;omega))) (l_v (Jw (p:=bZ1++k) (q:=([32]:List UInt8)) rfl rfl (by first|omega|(simp only[lZ1,lZ2,Dy,Ea,En]at *;omega))) (Ay vl ?_)))
 have bc:=Val.len rl
 refine l_v (Ci (el:=9) Brt rfl rl) (Arv (Bm (vs:=[iV (ls.length:Int)]) (v:=.string (bs (Ew ls.length))) (Bha (n:=ls.length) (by omega)) Tryz.func27 rfl rfl ⟨rfl,trivial⟩ ?_))
 refine l_v (Jw (p:=(bZ1++k)++([32]:List UInt8)) (q:=Ew ls.length) rfl rfl (by first|omega|(simp only[lZ1,lZ2,Dy,Ea,En]at *;omega))) (Arv (Bm (vs:=[iV 0,.string (bs (((bZ1++k)++([32]:List UInt8))++(Ew ls.length)))]) (v:=.string (bs (Fp 0 (((bZ1++k)++([32]:List UInt8))++(Ew ls.length))))) (Ada (n:=0) (s:=((bZ1++k)++([32]:List UInt8))++(Ew ls.length)) (by omega) (by first|omega|(simp only[lZ1,lZ2,Dy];omega))) Tryz.func26 rfl rfl ⟨rfl,rfl,trivial⟩ ?_))
 refine Arv (Cm (vs:=[pV e,.string (bs (Fp 0 (((bZ1++k)++([32]:List UInt8))++(Ew ls.length))))]) (Acx (r:=e) (s:=Fp 0 (((bZ1++k)++([32]:List UInt8))++(Ew ls.length))) Hm (by first|omega|(simp only[Im,lZ1,lZ2,Dy]at *;omega))) Bsr rfl rfl ⟨rfl,rfl,trivial⟩ fun bo br c0 a2=>?_)
 obtain⟨G,aq,a0,a5,V,J⟩:=a2
 replace G:=G.symm;replace J:=J.symm;subst G J a5
 refine Ary rfl rfl aa fun ax ay ab ac=>Ay vl ?_
 have bd:=Val.len rl
 refine l_v (Ci (el:=9) Brt rfl rl) (Ay (iV 0) (l_k ac (Ao (Aj (Ghost.perm Asc) (Cc (fun mm ee dd ρ' σ'=>∃(i:Nat) (N:Value) (M:Own),(ls.length-i)=mm∧[]=dd∧Ro.le ρ ρ'∧(M++((e,oC #[pV e,N] 90)::σ))=σ'∧ee 6=pV e∧ee 26=vl∧ee 27=(iV (ls.length:Int))∧ee 28=iV i∧(i≤ls.length)∧(∀j,j<i→Pq ls j=true)∧Grow ρ' 5 N (Mi k ls.length++Ez (ls.take i) 1) M∧True) (m:=_) ⟨0,aq,a0,rfl,rfl,Bsy,rfl,rfl,rfl,rfl,rfl,Mq _,fun j h=>absurd h (Aeq _),Fy (by simp only[Ez,List.take_zero,Lz,Pj];rfl) V,trivial⟩ ?_)))))
 rintro bj bb _ bt _ ⟨i,N,M,rfl,rfl,u,rfl,F,P,R,y,bk,O,w,_⟩
 replace rl:=Val.mono u rl
 have bf:=Yc ls i 1 O
 have bg:(Mi k ls.length).length≤100000:=by unfold Mi;rw[Im];simp only[lZ1,lZ2,Dy];omega
 refine w_q rfl rfl fun az ad=>l_v (Da y R) (Asa ad fun b0 ae=>Bb (t:=decide ((i:Int)<(ls.length:Int))) rfl (fun C=>?_) (fun C=>?_))
 ·have ao:=lZ3 C
  refine Al (kk ae ?_)
  refine Ai fun b1 af=>Ao (w_q rfl rfl fun b2 ag=>l_v (Ah (v:=iV i) y) ?_)
  obtain⟨c,f⟩:=Ed (xs:=ls) (i:=i) (by omega)
  have bi:=hz _ _ f
  refine Arw (Ch i Brt ty9 P rl (q:=(i:Int)) y rfl f) fun bn U=>?_
  have be:c.data.toList.length<2^60:=At.slen U
  refine l_v (Pk ty9 rfl U) (Av (iV i) (Av (.string c) (Ary rfl rfl ag fun b3 b6 ah T=>Ay (.string c) (l_v (Ce Brs (p:=c.data.toList) rfl) (l_v (Gl (p:=(c.data.toList.length:Int)) (q:=200) rfl rfl) (Ay (.bool (decide ((c.data.toList.length:Int)>200))) (Cn (decide ((c.data.toList.length:Int)>200)) (fun d=>?_) (fun d=>?_))))))))
  ·have ap:=lZ3 d
   refine Ap (gN rfl d) (Ap (gN rfl d) (Ap (gN rfl d) (l_v (Bt rfl d (v:=bT) rfl) (l_k T (Co rfl rfl (w_q rfl rfl fun b8 ai=>Av (.string (ByteArray.mk #[])) (Av (iV 3) (l_k ai (Hc w fun bu al bl=>Aj Ghost.drop (Aj (Ghost.forget (Bsz u al)) (Aq (g ⟨rfl,rfl,Eq.trans (b:=.tuple #[.string (ByteArray.mk #[]),iV 3]) (Mp (r:=4) (r':=5) (rs:=[]) (v:=.string (ByteArray.mk #[])) (v':=iV 3) (vs:=[]) ⟨rfl,rfl,trivial⟩) ?_⟩))))))))))))
   have hw:=Zn (ls:=ls) x (by omega) (Auw f (.inl (by omega)))
   rw[hw.1,hw.2];rfl
  have ap:=lZ4 d
  refine l_M (.string c) (gY rfl d) rfl (Ae (gY rfl d) (Bm (vs:=[.string c]) (v:=.bool (Dd c.data.toList)) (Ava (s:=c.data.toList) (by omega)) Tryz.func28 rfl rfl ⟨rfl,trivial⟩ ?_))
  refine Aa (gY rfl d) (Iy rfl) (l_v (Bn rfl d (v:=.bool (!(Dd c.data.toList))) rfl) (l_k T (Bb (t:=!(Dd c.data.toList)) rfl (fun D=>?_) (fun D=>?_))))
  ·have Y:=not_eq_t D
   refine w_q rfl rfl fun b9 aj=>Av (.string (ByteArray.mk #[])) (Av (iV 3) (l_k aj (Hc w fun bv am bm=>Aj Ghost.drop (Aj (Ghost.forget (Bsz u am)) (Aq (g ⟨rfl,rfl,Eq.trans (b:=.tuple #[.string (ByteArray.mk #[]),iV 3]) (Mp (r:=4) (r':=5) (rs:=[]) (v:=.string (ByteArray.mk #[])) (v':=iV 3) (vs:=[]) ⟨rfl,rfl,trivial⟩) ?_⟩))))))
   have hw:=Zn (ls:=ls) x (by omega) (Auw f (.inr Y))
   rw[hw.1,hw.2];rfl
  have Z:=Ev D
  refine Al (kk ah ?_)
  refine Ag rfl rfl (Ay (iV i) (l_v (Br rfl rfl (z:=(((i+1):Nat):Int)) wrE) (Ay (.string c) (Arv (Bm (vs:=[iV ((i+1):Nat),.string c]) (v:=.string (bs (Fp (i+1) c.data.toList))) (Ada (n:=i+1) (s:=c.data.toList) (by omega) (by first|omega|(simp only[lZ1,lZ2,Dy];omega))) Tryz.func26 rfl rfl ⟨rfl,rfl,trivial⟩ ?_)))))
  refine Bj (Ghost.perm Asd) (Arv (Cm (vs:=[pV e,.string (bs (Fp (i+1) c.data.toList))]) (Acy (r:=e) (s:=Fp (i+1) c.data.toList) w (by first|omega|(simp only[Im,lZ1,lZ2,Dy]at *;omega))) Bsr rfl rfl ⟨F,rfl,trivial⟩ fun bp bx c1 a3=>?_))
  obtain⟨H,ar,a1,a6,W,K⟩:=a3
  replace H:=H.symm;replace K:=K.symm;subst H K a6
  refine l_k af (Ag rfl rfl (l_v (Br y rfl (z:=(((i+1):Nat):Int)) wrE) (Ay (iV ((i+1):Nat)) (Bj (Ghost.perm Asc) (Ac ?_)))))
  refine⟨_,?_,(i+1),ar,a1,rfl,rfl,u,rfl,F,P,R,rfl,(by omega),(Eg O (Awk f (by omega) Z)),(Fy (by rw[Act f,lZ9]) W),trivial⟩
  omega
 have ao:=lZ4 C
 refine Bx (kk ab ?_)
 refine w_q rfl rfl fun ba ak=>Bj (Ghost.perm Asd) (Arv (Cm (vs:=[pV e]) (Aya (r:=e) w (by unfold Mi Fp;simp)) Tryz.func29 rfl rfl ⟨F,trivial⟩ fun bq bz c2 a4=>?_))
 obtain⟨I,L,a7⟩:=a4
 replace I:=I.symm;replace L:=L.symm;subst I L a7
 refine Av (.string (bs (Mi k ls.length++Ez (ls.take i) 1))) (Av (iV 0) (l_k ak (Aj (Ghost.forget u) (Aq (g ⟨rfl,rfl,Eq.trans (b:=.tuple #[.string (bs (Mi k ls.length++Ez (ls.take i) 1)),iV 0]) (Mp (r:=4) (r':=5) (rs:=[]) (v:=.string (bs (Mi k ls.length++Ez (ls.take i) 1))) (v':=iV 0) (vs:=[]) ⟨rfl,rfl,trivial⟩) ?_⟩)))))
 have hw:=Agp (ls:=ls) x (by omega) (all_t fun j hj=>O j (by omega))
 rw[hw.1,hw.2]
 rw[show i=ls.length by omega,Nn];rfl
end
section
open Go
theorem Tk{C:Ctx}{f:FuncId}{fn:Func}{c:Code}{n:Nat}{args:List Value}{ρ:Ro}{σ:Own}{R X:Value→Ro→Own→Prop}(rs:List Nat)(hf:C.P.funcs[f]?=some fn)(hc:fn.body=some c)(hn:fn.ntmps=n)(ha:Nat.ble args.length n=true)(hr:fn.results=(rs.map ResultVar.tmp).toArray)
  (h:∀Q:Hu,(∀e ρ' σ',R (Abp rs e) ρ' σ'→Q .ret e [] ρ' σ')→(∀e ρ' σ',R (Abp rs e) ρ' σ'→Q .normal e [] ρ' σ')→WpP C (fun x _ ds ρ' σ'=>ds=[]∧X x ρ' σ') ⟨f,.normal,none⟩ n c Q (Pn args) [] ρ σ):CallsP C f args.toArray ρ σ R X :=
 Aok hf hc hn (lZ5 ha) (h _ (fun e ρ' σ' hR=>⟨fun id h=>(by cases h),Lm (Q:=fun v σ'=>R v ρ' σ') hr hR⟩) (fun e ρ' σ' hR=>⟨fun id h=>(by cases h),Lm (Q:=fun v σ'=>R v ρ' σ') hr hR⟩))
section
variable{C:Ctx}{V:Hn}{b:FB}{n:Nat}{l₀ rest:List Oper}{Q:Env→List Deferred→Ro→Own→Prop}{e:Env}{ds:List Deferred}{ρ:Ro}{σ:Own}
variable{ty:TypeId}{pos:String}{af:Array Edge}{g:Option (Nat×Bool)}{op:Op}
theorem Fx{d:Nat}(hw:Bz l₀.toArray ⟨some d,op,ty,pos,af,g⟩ e=true)(h:wpS C.P ρ (execOp (Af e) ⟨some d,op,ty,pos,af,g⟩) σ (NextP C (fun v=>Db C V b n l₀ rest Q (upd e d v)) (fun x ρ' σ'=>V x e ds ρ' σ') ds ρ)):Db C V b n l₀ (⟨some d,op,ty,pos,af,g⟩::rest) Q e ds ρ σ:=Bmp hw h
theorem Hb{K:Value→List Deferred→Ro→Own→Prop}{dd:Option Tmp}{f:FuncId}{fn:Func}{args:List Operand}{tys:Array TypeId}{vs:List Value}{R X X':Value→Ro→Own→Prop}(hc:CallsP C f vs.toArray ρ σ R X)(hf:C.P.funcs[f]?=some fn)(hn:(fn.name == "runtime.NumGoroutine")=false)(hb:fn.body.isNone=false)
  (hv:EvL e args vs) (h:∀v ρ' σ',R v ρ' σ'→K v ds ρ' σ') (hx:∀v ρ' σ',X v ρ' σ'→X' v ρ' σ'):wpS C.P ρ (execOp (Af e) ⟨dd,.call ⟨.value (.func f),args.toArray,tys⟩,ty,pos,af,g⟩) σ (NextP C K X' ds ρ):=by
 have hv':=hv.map
 show wpS C.P ρ (invoke (.fn (.func f) #[]) (#[]++args.toArray.map (Af e))) σ _
 show wpS C.P ρ (callFunc f ((#[]++args.toArray.map (Af e)) ++ #[])) σ _
 rw[Wx,Vh,hv']
 exact Mr hf hn hb (hc.mono h hx)
end
abbrev Bou:List Value:=[.int .i64 0,.int .i64 0]
theorem Bgk:Fw Tryz.prog 100 (.agg #[.int .i64 0,.int .i64 0]):=⟨_,Ab Tryz.typeInfo100,rfl⟩
abbrev Bov:List Value:=[.int .i64 0,.string ⟨#[]⟩,.int .i64 0,.slice none 0 0]
theorem Boy:Fw Tryz.prog 103 (.agg #[.int .i64 0,.string ⟨#[]⟩,.int .i64 0,.slice none 0 0]):=⟨_,Ab Tryz.typeInfo103,rfl⟩
/-- What a wrong line panics with. -/
def Rd(ln f:Int):Value:=.iface 100 (.agg #[.int .i64 ln,.int .i64 f])
end
section
open Go
theorem Jy{mn:Bool}{X:Frame→List Frame→Ro→Own→Cy→Prop}{ρ:Ro}{σ:Own}{r:Nat}{ln f:Int}{ok:Bool}{v1 v2 v3:Value}(hf:I64 ln):CallsP (CX mn X) 37 #[pV r,.bool ok,iV f] ρ ((r,oC #[iV ln,v1,v2,v3] 103)::σ) (fun w ρ' σ'=>ρ'=ρ∧σ'=(r,oC #[.int .i64 ln,v1,v2,v3] 103)::σ∧ok=true∧w = .tuple #[]) (fun x ρ' σ'=>ρ'=ρ∧σ'=(r,oC #[.int .i64 ln,v1,v2,v3] 103)::σ∧ok=false∧x=Rd ln f):=by
 refine Tk (n:=15) (args:=[pV r,.bool ok,iV f]) [] Bsa rfl rfl rfl rfl fun Q h d=>?_
 refine w_q rfl rfl fun g e=>Ay (.bool ok) (l_v (Iy rfl) (l_k e (Bb (t:=!(ok)) rfl (fun a=>?_) (fun a=>?_))))
 ·have b:=not_eq_t a
  refine Ag rfl rfl (Ay (pV r) (l_v (Ck rfl) (l_v (Cb Brx rfl rfl ⟨_,Ab Bry,rfl⟩ (by decide) rfl rfl) (Arv (Dt (i:=0) (v:=iV ln) ⟨_,Brw,rfl⟩ rfl rfl rfl ?_)))))
  refine Ay (iV f) (l_v (Dn (ns:=[1,1]) (vs:=[(0,(iV ln)),(1,(iV f))]) (zc:=Bou) (cs:=[iV ln,iV f]) Bsi Bgk rfl ⟨⟨_,Ab Bry,rfl⟩,⟨_,Ab Bsh,rfl⟩,trivial⟩ (EvB.map ⟨⟨rfl,rfl⟩,⟨rfl,rfl⟩,trivial⟩) ((Be (cs:=[iV ln]) rfl rfl nL).trans ((Be (cs:=[iV f]) rfl rfl nL).trans rfl))) (l_v (Auq Bsi rfl rfl) (Bir rfl rfl ⟨rfl,?_⟩)))
  exact⟨rfl,rfl,b,rfl⟩
 have c:=Ev a
 refine Al (d _ _ _ ⟨rfl,rfl,c,rfl⟩)
end
section
open Go
def Nt:List UInt8:=[98,111,111,107]
def Ds(t:List UInt8):Bool:=match Cu t with
 | [a,b,c]=>a==Nt&&b != []&&Er c
 | _=>false
def Dm(t:List UInt8):List UInt8:=(Cu t).getD 1 []
def Dp(t:List UInt8):Int:=Jb ((Cu t).getD 2 [])
section
variable{t:List UInt8}{L:List ByteArray}
theorem Acv(hL:L=bw (Cu t)){i:Nat}{a:ByteArray}(h:L[i]?=some a):(Cu t)[i]?=some a.data.toList:=by
 subst hL
 unfold bw at h
 rw[Oj]at h
 cases hs:(Cu t)[i]? with
 | none=>rw[hs]at h;cases h
 | some w=>rw[hs]at h;cases h;rfl
theorem Bbh(hL:L=bw (Cu t)):L.length=(Cu t).length:=by subst hL;unfold bw;rw[Aax]
theorem Ue:∀{s acc:List UInt8} {w:List UInt8},w∈Ef 32 acc s→w.length≤acc.length+s.length
 | [],acc,w,h=>by
  simp only[Ef,Lc]at h
  subst h;simp
 | c::s,acc,w,h=>by
  unfold Ef at h
  split at h
  ·rcases lZ8.1 h with rfl|h
   ·simp
   ·have:=Ue h;simp at this ⊢;omega
  ·have:=Ue h;simp at this ⊢;omega
theorem Ank(hL:L=bw (Cu t)){i:Nat}{a:ByteArray}(h:L[i]?=some a):a.data.toList.length≤t.length:=by
 have:=Ue (lZ6 (Acv hL h));simpa using this
theorem Bid(hL:L=bw (Cu t))(h:L.length≠3):Ds t=false:=by
 rw[Bbh hL]at h
 unfold Ds
 split
 ·rename_i he;rw[he]at h;exact absurd rfl h
 ·rfl
theorem Amr(hL:L=bw (Cu t))(h3:L.length=3):∃a b c,Cu t=[a,b,c]:=by
 rw[Bbh hL]at h3
 match hs:Cu t,h3 with
 | [a,b,c],_=>exact⟨a,b,c,rfl⟩
theorem Bie(hL:L=bw (Cu t))(h3:L.length=3){a:ByteArray}(h0:L[0]?=some a)(ha:a.data.toList≠Nt):Ds t=false:=by
 obtain⟨x,y,z,hs⟩:=Amr hL h3
 have h:=Acv hL h0
 rw[hs]at h
 simp at h
 subst h
 unfold Ds;rw[hs]
 simp only[Bda]
 exact .inl (.inl (by simpa using ha))
theorem Bif(hL:L=bw (Cu t))(h3:L.length=3){a:ByteArray}(h1:L[1]?=some a)(ha:a.data.toList=[]):Ds t=false:=by
 obtain⟨x,y,z,hs⟩:=Amr hL h3
 have h:=Acv hL h1
 rw[hs]at h
 simp at h
 subst h
 unfold Ds;rw[hs,ha];simp
theorem Big(hL:L=bw (Cu t))(h3:L.length=3){a:ByteArray}(h2:L[2]?=some a)(ha:Er a.data.toList=false):Ds t=false:=by
 obtain⟨x,y,z,hs⟩:=Amr hL h3
 have h:=Acv hL h2
 rw[hs]at h
 simp at h
 subst h
 unfold Ds;rw[hs];simp only[ha,Aeg]
theorem Bml(hL:L=bw (Cu t))(h3:L.length=3){a b c:ByteArray}(h0:L[0]?=some a)(h1:L[1]?=some b)(h2:L[2]?=some c)(ha:a.data.toList=Nt)(hb:b.data.toList≠[])(hc:Er c.data.toList=true):Ds t=true∧Dm t=b.data.toList∧Dp t=Jb c.data.toList:=by
 obtain⟨x,y,z,hs⟩:=Amr hL h3
 have d:=Acv hL h0
 have e:=Acv hL h1
 have f:=Acv hL h2
 rw[hs]at d e f
 simp at d e f
 subst d e f
 refine⟨?_,by unfold Dm;rw[hs];rfl,by unfold Dp;rw[hs];rfl⟩
 unfold Ds;rw[hs];simp only[ha,hc,Amy]
 simp[hb]
end
end
section
open Go
theorem Blr{mn:Bool}{X:Frame→List Frame→Ro→Own→Cy→Prop}{ρ:Ro}{σ:Own}{r:Nat}{ln:Int}{t:List UInt8}{v1 v2 v3:Value}(hln:I64 ln)(hb:t.length≤60000):CallsP (CX mn X) 72 #[pV r,.string (bs t)] ρ ((r,oC #[iV ln,v1,v2,v3] 103)::σ) (fun w ρ' σ'=>Ro.le ρ ρ'∧σ'=(r,oC #[.int .i64 ln,.string (bs (Dm t)),iV (Dp t),v3] 103)::σ∧Ds t=true∧w = .tuple #[]) (fun x ρ' σ'=>Ro.le ρ ρ'∧σ'=(r,oC #[.int .i64 ln,v1,v2,v3] 103)::σ∧Ds t=false∧x=Rd ln 3):=by
 obtain⟨L,hL⟩:∃L,L=bw (Cu t):=⟨_,rfl⟩
 refine Tk (n:=46) (args:=[pV r,.string (bs t)]) [] Tryz.func72 rfl rfl rfl rfl fun Q b7 a8=>?_
 refine w_q rfl rfl fun K1 k1=>Ay (.string (bs t)) (Arv (Cm (vs:=[.string (bs t),.string (ByteArray.mk #[32])]) (Bbo (p:=t) hL hb) Tryz.func118 rfl rfl ⟨rfl,rfl,trivial⟩ fun v2 bq bt a3=>?_))
 obtain⟨E,J,d⟩:=a3
 replace J:=J.symm;subst J
 refine Av v2 (Arx rfl rfl k1 fun K3 k3=>Ay (pV r) (Ay v2 ?_))
 have g4:=Val.len d
 refine l_v (Ci (el:=9) Brt rfl d) (l_v (Ek rfl rfl) (Ay (.bool ((L.length:Int)==3)) (Cn ((L.length:Int)==3) (fun c=>?_) (fun c=>?_))))
 ·have q5:=Jr c
  refine l_M v2 (gY rfl c) rfl ?_
  obtain⟨g,G⟩:=Ed (xs:=L) (i:=0) (by omega)
  have bb:=Ank hL G
  refine Ak (gY rfl c) (Ch 0 Brt ty9 rfl d (q:=0) rfl rfl G) fun v6 P=>?_
  have g8:g.data.toList.length<2^60:=At.slen P
  refine Aa (gY rfl c) (Pk ty9 rfl P) (Aa (gY rfl c) (Us (p:=g.data.toList) (q:=bZ3) rfl rfl) (l_v (Bt rfl c (v:=.bool (g.data.toList==bZ3)) rfl) (Ay (.bool (g.data.toList==bZ3)) (Cn (g.data.toList==bZ3) (fun b=>?_) (fun b=>?_)))))
  ·have q9:=Jr b
   refine l_M v2 (gY rfl b) rfl ?_
   obtain⟨e,h⟩:=Ed (xs:=L) (i:=1) (by omega)
   have b8:=Ank hL h
   refine Ak (gY rfl b) (Ch 1 Brt ty9 rfl d (q:=1) rfl rfl h) fun bd M=>?_
   have b0:e.data.toList.length<2^60:=At.slen M
   refine Aa (gY rfl b) (Pk ty9 rfl M) (Aa (gY rfl b) (Qc (p:=e.data.toList) (q:=([]:List UInt8)) rfl rfl) (l_v (Bt rfl b (v:=.bool (e.data.toList != ([]:List UInt8))) rfl) (Fx rfl (Hb (vs:=[pV r,.bool (e.data.toList != ([]:List UInt8)),iV 3]) (Jy (r:=r) (ln:=ln) (ok:=e.data.toList != ([]:List UInt8)) (f:=3) hln) Bsa rfl rfl ⟨rfl,rfl,rfl,trivial⟩ (fun bg ao au a1=>?_) fun bl ao au ai=>⟨rfl,?_⟩))))
   rotate_left
   ·obtain⟨k,z,Z,a9⟩:=ai
    subst k z
    exact⟨E,rfl,Bif hL (by omega) h (by simpa using Z),a9⟩
   obtain⟨k,z,K,ad⟩:=a1
   replace k:=k.symm;replace z:=z.symm;subst k z ad
   have bc:=Ls K
   refine Arx rfl rfl k3 fun ay am=>Ay v2 ?_
   obtain⟨a,F⟩:=Ed (xs:=L) (i:=2) (by omega)
   have ba:=Ank hL F
   refine Arw (Ch 2 Brt ty9 rfl d (q:=2) rfl rfl F) fun be N=>?_
   have b1:a.data.toList.length<2^60:=At.slen N
   refine l_v (Pk ty9 rfl N) (Arv (Cm (vs:=[.string a]) (Ayk (s:=a.data.toList) (by omega)) Tryz.func127 rfl rfl ⟨rfl,trivial⟩ fun bh bp br a2=>?_))
   obtain⟨I,H,ae⟩:=a2
   replace H:=H.symm;subst H ae
   replace d:=Val.mono I d
   have b6:=Abj (s:=a.data.toList)
   refine Ay (.tuple #[iV (Jb a.data.toList),.bool (Er a.data.toList)]) (l_v (Bk (vs:=#[iV (Jb a.data.toList),.bool (Er a.data.toList)]) rfl (v:=iV (Jb a.data.toList)) rfl) (l_v (Bk (vs:=#[iV (Jb a.data.toList),.bool (Er a.data.toList)]) rfl (v:=.bool (Er a.data.toList)) rfl) (Av (iV (Jb a.data.toList)) (Av (.bool (Er a.data.toList)) (Arx rfl rfl am fun az an=>Ay (pV r) (Ay (.bool (Er a.data.toList)) (Fx rfl (Hb (vs:=[pV r,.bool (Er a.data.toList),iV 3]) (Jy (r:=r) (ln:=ln) (ok:=Er a.data.toList) (f:=3) hln) Bsa rfl rfl ⟨rfl,rfl,rfl,trivial⟩ (fun bi ap av a4=>?_) fun bm ap av aj=>⟨rfl,?_⟩))))))))
   rotate_left
   ·obtain⟨m,B,a0,aa⟩:=aj
    subst m B
    exact⟨(Bsz E I),rfl,Big hL (by omega) F (by simpa using a0),aa⟩
   obtain⟨m,B,R,af⟩:=a4
   replace m:=m.symm;replace B:=B.symm;subst m B af
   refine l_k an (Ag rfl rfl (Ay (pV r) (Ay (pV r) (Ay v2 (Arw (Ch 1 Brt ty9 rfl d (q:=1) rfl rfl h) fun bf O=>?_)))))
   have b2:e.data.toList.length<2^60:=At.slen O
   refine l_v (Pk ty9 rfl O) (Ay (iV (Jb a.data.toList)) (l_v (Ck rfl) (l_v (Cb Brx rfl rfl ty9.2 (by decide) rfl rfl) (Cx rfl (Cz (j:=0) (v:=.string e) ty9.2 rfl rfl rfl rfl nL ?_)))))
   refine l_v (Ck rfl) (l_v (Cb Brx rfl rfl ⟨_,Ab Bry,rfl⟩ (by decide) rfl rfl) (Cx rfl (Cz (j:=0) (v:=iV (Jb a.data.toList)) ⟨_,Ab Bry,rfl⟩ rfl rfl rfl rfl nL ?_)))
   apply Ac
   refine a8 _ _ _ ?_
   obtain⟨V,W,Y⟩:=Bml hL (by omega) G h F (by simpa[Nt]using b) (by simpa using K) R
   rw[V,W,Y]
   exact⟨(Bsz E I),rfl,rfl,rfl⟩
  have q9:=Jq b
  refine Ap (gN rfl b) (Ap (gN rfl b) (Ap (gN rfl b) (Ap (gN rfl b) (l_v (Bn rfl b (v:=bF) rfl) (Fx rfl (Hb (vs:=[pV r,bF,iV 3]) (Jy (r:=r) (ln:=ln) (ok:=false) (f:=3) hln) Bsa rfl rfl ⟨rfl,rfl,rfl,trivial⟩ (fun bj aq aw a5=>?_) fun bn aq aw ak=>⟨rfl,?_⟩))))))
  rotate_left
  ·obtain⟨u,C,b3,ab⟩:=ak
   subst u C
   exact⟨E,rfl,Bie hL (by omega) G (by simpa[Nt]using b),ab⟩
  obtain⟨u,C,T,ag⟩:=a5
  replace u:=u.symm;replace C:=C.symm;subst u C ag
  exact absurd T (by decide)
 have q5:=Jq c
 refine Ap (gN rfl c) (Ap (gN rfl c) (Ap (gN rfl c) (Ap (gN rfl c) (l_v (Bn rfl c (v:=bF) rfl) (Ay bF (Ap (gN rfl rfl) (Ap (gN rfl rfl) (Ap (gN rfl rfl) (Ap (gN rfl rfl) (l_v (Bn rfl rfl (v:=bF) rfl) (Fx rfl (Hb (vs:=[pV r,bF,iV 3]) (Jy (r:=r) (ln:=ln) (ok:=false) (f:=3) hln) Bsa rfl rfl ⟨rfl,rfl,rfl,trivial⟩ (fun bk ar ax a6=>?_) fun bo ar ax al=>⟨rfl,?_⟩))))))))))))
 rotate_left
 ·obtain⟨y,D,b4,ac⟩:=al
  subst y D
  exact⟨E,rfl,Bid hL (by omega),ac⟩
 obtain⟨y,D,U,ah⟩:=a6
 replace y:=y.symm;replace D:=D.symm;subst y D ah
 exact absurd U (by decide)
end
section
open Go
/-- The line's text,its check. -/
def rdT(s:List UInt8):List UInt8:=List.drop 0 (List.take ((Bc s).length-4) (Bc s))
def rdC(s:List UInt8):List UInt8:=List.drop ((Bc s).length-4) (List.take (Bc s).length (Bc s))
def Jo(s:List UInt8):Bool:=Gr s&&Dd (Bc s)&&decide (4≤(Bc s).length)
def rdF(n:Nat)(s:List UInt8):Int :=
 if Jo s=false then 3 else if Gt (rdC s)=false then 3 else if n=0∧Ds (rdT s)=false then 3 else if 200<(rdT s).length then 3
 else if ckR (rdC s)≠Dr n (rdT s) then 9 else if n≠0 then 0 else if Hg (bs (Dm (rdT s)))=false then 4 else if inR (Dp (rdT s)) 0 90=false then 2 else 0
def rdS(n:Nat)(kd:List UInt8)(mn:Int)(xs:List ByteArray)(s:List UInt8):List UInt8×Int×List ByteArray:=if n=0 then (Dm (rdT s),Dp (rdT s),xs) else (kd,mn,xs++[bs (rdT s)])
variable{n:Nat}{s:List UInt8}
theorem Aml(h:Gr s=false∨Dd (Bc s)=false∨(Bc s).length<4):Jo s=false:=by
 unfold Jo
 rcases h with h|h|h
 ·rw[h];rfl
 ·rw[h,Aeg];rfl
 ·rw[Om (by omega),Aeg]
theorem Atc(h1:Gr s=true)(h2:Dd (Bc s)=true)(h3:4≤(Bc s).length):Jo s=true:=by unfold Jo;rw[h1,h2,Lg h3];rfl
theorem Baa(h:Jo s=false):rdF n s=3:=by unfold rdF;rw[if_pos h]
theorem Bny(hA:Jo s=true)(h:Gt (rdC s)=false):rdF n s=3:=by unfold rdF;rw[if_neg (by rw[hA];simp),if_pos h]
theorem Bjn(hA:Jo s=true)(hB:Gt (rdC s)=true)(hn:n=0)(h:Ds (rdT s)=false):rdF n s=3:=by unfold rdF;rw[if_neg (by rw[hA];simp),if_neg (by rw[hB];simp),if_pos ⟨hn,h⟩]
theorem Bab(hC:n=0→Ds (rdT s)=true):¬(n=0∧Ds (rdT s)=false):=fun⟨b,a⟩=>by rw[hC b]at a;cases a
theorem Bjo(hA:Jo s=true)(hB:Gt (rdC s)=true)(hC:n=0→Ds (rdT s)=true)(h:200<(rdT s).length):rdF n s=3:=by unfold rdF;rw[if_neg (by rw[hA];simp),if_neg (by rw[hB];simp),if_neg (Bab hC),if_pos h]
theorem Bjp(hA:Jo s=true)(hB:Gt (rdC s)=true)(hC:n=0→Ds (rdT s)=true)(hD:(rdT s).length≤200)(h:ckR (rdC s)≠Dr n (rdT s)):rdF n s=9:=by unfold rdF;rw[if_neg (by rw[hA];simp),if_neg (by rw[hB];simp),if_neg (Bab hC),if_neg (by omega),if_pos h]
theorem Bnx(hA:Jo s=true)(hB:Gt (rdC s)=true)(hC:n=0→Ds (rdT s)=true)(hD:(rdT s).length≤200)(hE:ckR (rdC s)=Dr n (rdT s))(hn:n≠0):rdF n s=0:=by unfold rdF;rw[if_neg (by rw[hA];simp),if_neg (by rw[hB];simp),if_neg (Bab hC),if_neg (by omega),if_neg (by simp[hE]),if_pos hn]
theorem Bnz(hA:Jo s=true)(hB:Gt (rdC s)=true)(hC:n=0→Ds (rdT s)=true)(hD:(rdT s).length≤200)(hE:ckR (rdC s)=Dr n (rdT s))(hn:n=0)(h:Hg (bs (Dm (rdT s)))=false):rdF n s=4:=by unfold rdF;rw[if_neg (by rw[hA];simp),if_neg (by rw[hB];simp),if_neg (Bab hC),if_neg (by omega),if_neg (by simp[hE]),if_neg (by omega),if_pos h]
theorem Boa(hA:Jo s=true)(hB:Gt (rdC s)=true)(hC:n=0→Ds (rdT s)=true)(hD:(rdT s).length≤200)(hE:ckR (rdC s)=Dr n (rdT s))(hn:n=0)(hk:Hg (bs (Dm (rdT s)))=true)(h:inR (Dp (rdT s)) 0 90=false):rdF n s=2:=by unfold rdF;rw[if_neg (by rw[hA];simp),if_neg (by rw[hB];simp),if_neg (Bab hC),if_neg (by omega),if_neg (by simp[hE]),if_neg (by omega),if_neg (by rw[hk];simp),if_pos h]
theorem Bob(hA:Jo s=true)(hB:Gt (rdC s)=true)(hC:n=0→Ds (rdT s)=true)(hD:(rdT s).length≤200)(hE:ckR (rdC s)=Dr n (rdT s))(hn:n=0)(hk:Hg (bs (Dm (rdT s)))=true)(h:inR (Dp (rdT s)) 0 90=true):rdF n s=0:=by unfold rdF;rw[if_neg (by rw[hA];simp),if_neg (by rw[hB];simp),if_neg (Bab hC),if_neg (by omega),if_neg (by simp[hE]),if_neg (by omega),if_neg (by rw[hk];simp),if_neg (by rw[h];simp)]
theorem Amz(h:4≤(Bc s).length):(rdC s).length=4:=by unfold rdC;rw[En,Ea];omega
theorem Ana:(rdT s).length≤(Bc s).length:=by unfold rdT;rw[En,Ea];omega
theorem Rz:(Bc s).length≤s.length:=by unfold Bc;split<;>simp
theorem Bcr{t:List UInt8}:(Dm t).length≤t.length:=by
 unfold Dm
 cases h:(Cu t)[1]? with
 | none=>rw[Uk,h];simp
 | some w =>
  rw[Uk,h]
  have:=Ue (lZ6 h)
  simpa using this
theorem Ws{t:List UInt8}:I64 (Dp t):=by
 have:=Abj (s:=(Cu t).getD 2 [])
 unfold Dp I64
 omega
end
section
open Go
theorem Ow{r:Nat}{o:Obj}{vb x:Value}{xs:List ByteArray}{gb σ:Own}{ρ ρ':Ro}{ln:Int}{n:Nat}{s:List UInt8}{f:Int}(hF:rdF n s=f)(hf:f≠0)(hle:Ro.le ρ ρ')(hg:Grow ρ' 9 vb xs gb)(hx:x=Rd ln f):Ro.le ρ ρ'∧(∃g',ObjsO g'∧(r,Res.obj o)::(gb++σ)=g'++σ)∧rdF n s≠0∧x=Rd ln (rdF n s):=by
 subst hF
 refine⟨hle,⟨(r,Res.obj o)::gb,fun y hy=>?_,by simp⟩,hf,hx⟩
 rcases lZ8.1 hy with rfl|hy
 ·exact⟨_,_,rfl⟩
 ·obtain⟨k,b⟩:=y
  obtain⟨z,hz⟩:=hg.1 _ hy
  exact⟨k,z,by rw[←hz]⟩
theorem Bls{mn:Bool}{X:Frame→List Frame→Ro→Own→Cy→Prop}{ρ:Ro}{σ:Own}{r n:Nat}{kd s:List UInt8}{my:Int}{xs:List ByteArray}{vb:Value}{gb:Own}(hb:Grow ρ 9 vb xs gb)(hs:s.length≤60000)(hn:n≤59999)(hx:xs.length≤60000)(hm:I64 my):CallsP (CX mn X) 36 #[pV r,.string (bs s)] ρ ((r,oC #[iV n,.string (bs kd),iV my,vb] 103)::(gb++σ)) (fun w ρ' σ'=>Ro.le ρ ρ'∧∃(kd':List UInt8) (mn':Int) (xs':List ByteArray) (v':Value) (gr:Own),σ'=(r,oC #[iV (n+1:Nat),.string (bs kd'),.int .i64 mn',v'] 103)::(gr++σ)∧Grow ρ' 9 v' xs' gr∧rdS n kd my xs s=(kd',mn',xs')∧rdF n s=0∧w = .tuple #[]) (fun x ρ' σ'=>Ro.le ρ ρ'∧(∃g',ObjsO g'∧σ'=g'++σ)∧rdF n s≠0∧x=Rd ((n+1:Nat):Int) (rdF n s)):=by
 have hln:I64 (((n+1:Nat):Int)):=by unfold I64;omega
 have hcl:=Rz (s:=s)
 refine Tk (n:=99) (args:=[pV r,.string (bs s)]) [] Tryz.func36 rfl rfl rfl rfl fun Q b1 b0=>?_
 refine w_q rfl rfl fun K1 k1=>Ay (pV r) (l_v (Ck rfl) (l_v (Cb Brx rfl rfl ⟨_,Ab Bry,rfl⟩ (by decide) rfl rfl) (Arv (Dt (i:=0) (v:=iV n) ⟨_,Brw,rfl⟩ rfl rfl rfl ?_))))
 refine l_v (Ek rfl rfl) (Av (.bool ((n:Int)==0)) (Arx rfl rfl k1 fun K2 k2=>Ay (pV r) (l_v (Ck rfl) (l_v (Cb Brx rfl rfl ⟨_,Ab Bry,rfl⟩ (by decide) rfl rfl) (Arv (Dt (i:=0) (v:=iV n) ⟨_,Brw,rfl⟩ rfl rfl rfl ?_))))))
 refine l_v (Br rfl rfl (z:=(((n+1):Nat):Int)) wrE) (l_v (Ck rfl) (l_v (Cb Brx rfl rfl ⟨_,Ab Bry,rfl⟩ (by decide) rfl rfl) (Cx rfl (Cz (j:=0) (v:=iV ((n+1):Nat)) ⟨_,Ab Bry,rfl⟩ rfl rfl rfl rfl nL ?_))))
 refine Arx rfl rfl k2 fun K3 k3=>Ay (.string (bs s)) (Arv (Bm (vs:=[.string (bs s),.string (ByteArray.mk #[10])]) (v:=.tuple #[.string (bs (Bc s)),.bool (Gr s)]) (Bbk (p:=s) hs) Tryz.func70 rfl rfl ⟨rfl,rfl,trivial⟩ ?_))
 refine Ay (.tuple #[.string (bs (Bc s)),.bool (Gr s)]) (l_v (Bk (vs:=#[.string (bs (Bc s)),.bool (Gr s)]) rfl (v:=.string (bs (Bc s))) rfl) (l_v (Bk (vs:=#[.string (bs (Bc s)),.bool (Gr s)]) rfl (v:=.bool (Gr s)) rfl) (Av (.string (bs (Bc s))) (Av (.bool (Gr s)) (Arx rfl rfl k3 fun K4 k4=>Ay (.string (bs (Bc s))) (l_v (Ce Brs (p:=Bc s) rfl) (l_v (Ou (p:=((((Bc s)).length:Nat):Int)) (q:=4) rfl rfl (z:=((((Bc s)).length:Nat):Int)-4) wrE) (Av (iV (((((Bc s)).length:Nat):Int)-4)) (Arx rfl rfl k4 fun K5 k5=>Ay (pV r) (Ay (.bool (Gr s)) (Ay (.bool (Gr s)) (Cn (Gr s) (fun b=>?_) (fun b=>?_)))))))))))))
 ·refine Aa (gY rfl b) (Ah (v:=.string (bs (Bc s))) rfl) (Ae (gY rfl b) (Bm (vs:=[.string (bs (Bc s))]) (v:=.bool (Dd (Bc s))) (Ava (s:=Bc s) (Mm Rz hs)) Tryz.func28 rfl rfl ⟨rfl,trivial⟩ ?_))
  refine l_v (Bt rfl b (v:=.bool (Dd (Bc s))) rfl) (Ay (.bool (Dd (Bc s))) (Cn (Dd (Bc s)) (fun c=>?_) (fun c=>?_)))
  ·refine Aa (gY rfl c) (Ah (v:=iV (((((Bc s)).length:Nat):Int)-4)) rfl) (Aa (gY rfl c) (Uy (p:=((((Bc s)).length:Nat):Int)-4) (q:=0) rfl rfl) (l_v (Bt rfl c (v:=.bool (decide ((((((Bc s)).length:Nat):Int)-4)≥0))) rfl) (Fx rfl (Hb (vs:=[pV r,.bool (decide ((((((Bc s)).length:Nat):Int)-4)≥0)),iV 3]) (Jy (r:=r) (ln:=(((n+1):Nat):Int)) (ok:=decide ((((((Bc s)).length:Nat):Int)-4)≥0)) (f:=3) hln) Bsa rfl rfl ⟨rfl,rfl,rfl,trivial⟩ (fun w8 cu d5 az=>?_) fun x8 cu d5 c4=>⟨rfl,?_⟩))))
   rotate_left
   ·obtain⟨E,O,am,bf⟩:=c4
    replace E:=E.symm;replace O:=O.symm;subst E O
    exact Ow (Baa (Aml (.inr (.inr (by have:=lZ4 am;omega))))) (by decide) Bsy hb bf
   obtain⟨E,O,b8,bq⟩:=az
   replace E:=E.symm;replace O:=O.symm;subst E O bq
   have a1:4≤(Bc s).length:=by have:=lZ3 b8;omega
   have hA:Jo s=true:=Atc b c a1
   have a2:(((Bc s).length:Nat):Int)-4=(((Bc s).length-4:Nat):Int):=by omega
   have q8:=lZ3 b8
   refine Arx rfl rfl k5 fun K9 k9=>Ay (.string (bs (Bc s))) (l_v (Ah (v:=iV ((((Bc s).length-4):Nat):Int)) (congrArg (Value.int .i64) a2)) (l_v (Lp (p:=Bc s) (l:=(Bc s).length-4) (h:=((Bc s)).length) Brs rfl (.inr ⟨_,rfl,rfl⟩) (.inl ⟨rfl,rfl⟩) (by omega) (by omega)) (Arv (Bm (vs:=[.string (bs ((((Bc s)).take (((Bc s)).length)).drop ((Bc s).length-4)))]) (v:=.tuple #[iV (((ckR (rdC s)):Nat):Int),.bool (Gt (rdC s))]) (Bbq (s:=rdC s) (Amz a1)) Tryz.func71 rfl rfl ⟨rfl,trivial⟩ ?_))))
   refine Ay (.tuple #[iV (((ckR (rdC s)):Nat):Int),.bool (Gt (rdC s))]) (l_v (Bk (vs:=#[iV (((ckR (rdC s)):Nat):Int),.bool (Gt (rdC s))]) rfl (v:=iV (((ckR (rdC s)):Nat):Int)) rfl) (l_v (Bk (vs:=#[iV (((ckR (rdC s)):Nat):Int),.bool (Gt (rdC s))]) rfl (v:=.bool (Gt (rdC s))) rfl) (Av (iV (((ckR (rdC s)):Nat):Int)) (Av (.bool (Gt (rdC s))) (Arx rfl rfl k9 fun d6 c5=>Ay (.string (bs (Bc s))) (l_v (Ah (v:=iV ((((Bc s).length-4):Nat):Int)) (congrArg (Value.int .i64) a2)) (l_v (Lp (p:=Bc s) (l:=0) (h:=(Bc s).length-4) Brs rfl (.inl ⟨rfl,rfl⟩) (.inr ⟨_,rfl,rfl⟩) (by omega) (by omega)) (Av (.string (bs ((((Bc s)).take ((Bc s).length-4)).drop 0))) (Arx rfl rfl c5 fun d7 c6=>Ay (pV r) (Ay (.bool (Gt (rdC s))) (Fx rfl (Hb (vs:=[pV r,.bool (Gt (rdC s)),iV 3]) (Jy (r:=r) (ln:=(((n+1):Nat):Int)) (ok:=Gt (rdC s)) (f:=3) hln) Bsa rfl rfl ⟨rfl,rfl,rfl,trivial⟩ (fun du ck cv an=>?_) fun e4 ck cv br=>⟨rfl,?_⟩))))))))))))
   rotate_left
   ·obtain⟨e,F,ae,b2⟩:=br
    replace e:=e.symm;replace F:=F.symm;subst e F
    exact Ow (Bny hA ae) (by decide) Bsy hb b2
   obtain⟨e,F,a8,bg⟩:=an
   replace e:=e.symm;replace F:=F.symm;subst e F bg
   have hB:=a8
   refine Ary rfl rfl c6 fun d8 d9 a3 c7=>Ay (.bool ((n:Int)==0)) (l_k c7 (Bb (t:=(n:Int)==0) rfl (fun d=>?_) (fun d=>?_)))
   ·have a:n=0:=by have:=d;simpa using this
    have ch:=Jr d
    refine Ag rfl rfl (Ay (pV r) (Ay (.string (bs ((((Bc s)).take ((Bc s).length-4)).drop 0))) (Fx rfl (Hb (vs:=[pV r,.string (bs ((((Bc s)).take ((Bc s).length-4)).drop 0))]) (Blr (r:=r) (ln:=(((n+1):Nat):Int)) (t:=rdT s) hln (Mm Ana (Mm Rz hs))) Tryz.func72 rfl rfl ⟨rfl,rfl,trivial⟩ (fun dv cl cw ao=>?_) fun e5 cl cw bt=>⟨rfl,?_⟩))))
    rotate_left
    ·obtain⟨a0,R,af,b3⟩:=bt
     subst R
     exact Ow (Bjn hA hB a af) (by decide) (Bsz Bsy a0) (hb.mono a0) b3
    obtain⟨P,R,ad,bh⟩:=ao
    replace R:=R.symm;subst R bh
    replace hb:=Grow.mono P hb
    have hC:n=0→Ds (rdT s)=true:=fun _=>ad
    have hnb:=Ws (t:=rdT s);have hkl:=Bcr (t:=rdT s)
    refine Arx rfl rfl a3 fun da c8=>Ay (pV r) (Ay (.string (bs ((((Bc s)).take ((Bc s).length-4)).drop 0))) (l_v (Ce Brs (p:=(((Bc s)).take ((Bc s).length-4)).drop 0) rfl) (l_v (Uz rfl rfl) (Fx rfl (Hb (vs:=[pV r,.bool (decide ((((((((Bc s)).take ((Bc s).length-4)).drop 0)).length:Nat):Int)≤200)),iV 3]) (Jy (r:=r) (ln:=(((n+1):Nat):Int)) (ok:=decide ((((((((Bc s)).take ((Bc s).length-4)).drop 0)).length:Nat):Int)≤200)) (f:=3) hln) Bsa rfl rfl ⟨rfl,rfl,rfl,trivial⟩ (fun dw cm cx ap=>?_) fun e6 cm cx bu=>⟨rfl,?_⟩)))))
    rotate_left
    ·obtain⟨g,G,ag,b4⟩:=bu
     replace g:=g.symm;replace G:=G.symm;subst g G
     exact Ow (Bjo hA hB hC (by have:=lZ4 ag;exact Int.ofNat_lt.1 (Int.not_le.1 this))) (by decide) P hb b4
    obtain⟨g,G,U,bi⟩:=ap
    replace g:=g.symm;replace G:=G.symm;subst g G bi
    have hD:(rdT s).length≤200:=by have:=lZ3 U;exact Int.ofNat_le.1 this
    have dp:=lZ3 U
    refine Arx rfl rfl c8 fun db c9=>Ay (pV r) (Ay (iV (((ckR (rdC s)):Nat):Int)) (Ay (pV r) (l_v (Ck rfl) (l_v (Cb Brx rfl rfl ⟨_,Ab Bry,rfl⟩ (by decide) rfl rfl) (Arv (Dt (i:=0) (v:=iV ((n+1):Nat)) ⟨_,Brw,rfl⟩ rfl rfl rfl ?_))))))
    refine l_v (Ou (p:=(((n+1):Nat):Int)) (q:=1) rfl rfl (z:=((((n+1)-1):Nat):Int)) (Bo (by omega) (by omega) (by omega))) (Ay (.string (bs ((((Bc s)).take ((Bc s).length-4)).drop 0))) (Arv (Bm (vs:=[iV ((((n+1)-1):Nat):Int),.string (bs ((((Bc s)).take ((Bc s).length-4)).drop 0))]) (v:=iV (((Dr ((n+1)-1) (rdT s)):Nat):Int)) (Acz (n:=(n+1)-1) (s:=rdT s) (by omega) (Mm Ana (Mm Rz hs))) Bsx rfl rfl ⟨rfl,rfl,trivial⟩ ?_)))
    refine l_v (Ek rfl rfl) (Fx rfl (Hb (vs:=[pV r,.bool ((((ckR (rdC s)):Nat):Int)==(((Dr ((n+1)-1) (rdT s)):Nat):Int)),iV 9]) (Jy (r:=r) (ln:=(((n+1):Nat):Int)) (ok:=(((ckR (rdC s)):Nat):Int)==(((Dr ((n+1)-1) (rdT s)):Nat):Int)) (f:=9) hln) Bsa rfl rfl ⟨rfl,rfl,rfl,trivial⟩ (fun dx cn cy aq=>?_) fun e7 cn cy bv=>⟨rfl,?_⟩))
    rotate_left
    ·obtain⟨k,H,ah,b5⟩:=bv
     replace k:=k.symm;replace H:=H.symm;subst k H
     exact Ow (Bjp hA hB hC hD (by have:=ah;simp at this;omega)) (by decide) P hb b5
    obtain⟨k,H,V,bj⟩:=aq
    replace k:=k.symm;replace H:=H.symm;subst k H bj
    have hE:ckR (rdC s)=Dr n (rdT s):=by have:=V;simp at this;omega
    have dq:=Jr V
    refine Ary rfl rfl c9 fun dc dd dn ca=>Ay (.bool ((n:Int)==0)) (l_k ca (Co rfl d (w_q rfl rfl fun de cb=>Ay (pV r) (Ay (pV r) (l_v (Ck rfl) (l_v (Cb Brx rfl rfl ty9.2 (by decide) rfl rfl) (Arv (Dt (i:=0) (v:=.string (bs (Dm (rdT s)))) ty9.1 rfl rfl rfl ?_))))))))
    refine Arv (Bm (vs:=[.string (bs (Dm (rdT s)))]) (v:=.bool (Hg (bs (Dm (rdT s))))) (Aoh (by first|omega|(rw[Gp];omega))) Tryz.func24 rfl rfl ⟨rfl,trivial⟩ ?_)
    refine Fx rfl (Hb (vs:=[pV r,.bool (Hg (bs (Dm (rdT s)))),iV 4]) (Jy (r:=r) (ln:=(((n+1):Nat):Int)) (ok:=Hg (bs (Dm (rdT s)))) (f:=4) hln) Bsa rfl rfl ⟨rfl,rfl,rfl,trivial⟩ (fun dy co cz ar=>?_) fun e8 co cz bx=>⟨rfl,?_⟩)
    rotate_left
    ·obtain⟨m,I,ai,b9⟩:=bx
     replace m:=m.symm;replace I:=I.symm;subst m I
     exact Ow (Bnz hA hB hC hD hE a ai) (by decide) P hb b9
    obtain⟨m,I,a9,bk⟩:=ar
    replace m:=m.symm;replace I:=I.symm;subst m I bk
    have hk:=a9
    refine Arx rfl rfl cb fun df cc=>Ay (pV r) (Ay (pV r) (l_v (Ck rfl) (l_v (Cb Brx rfl rfl ⟨_,Ab Bry,rfl⟩ (by decide) rfl rfl) (Arv (Dt (i:=0) (v:=iV (Dp (rdT s))) ⟨_,Brw,rfl⟩ rfl rfl rfl ?_)))))
    refine Arv (Bm (vs:=[iV (Dp (rdT s)),iV 0,iV 90]) (v:=.bool (inR (Dp (rdT s)) 0 90)) Vb Bsv rfl rfl ⟨rfl,rfl,rfl,trivial⟩ ?_)
    refine Fx rfl (Hb (vs:=[pV r,.bool (inR (Dp (rdT s)) 0 90),iV 2]) (Jy (r:=r) (ln:=(((n+1):Nat):Int)) (ok:=inR (Dp (rdT s)) 0 90) (f:=2) hln) Bsa rfl rfl ⟨rfl,rfl,rfl,trivial⟩ (fun dz cp d0 au=>?_) fun e9 cp d0 bz=>⟨rfl,?_⟩)
    rotate_left
    ·obtain⟨u,J,aj,ba⟩:=bz
     replace u:=u.symm;replace J:=J.symm;subst u J
     exact Ow (Boa hA hB hC hD hE a hk aj) (by decide) P hb ba
    obtain⟨u,J,W,bl⟩:=au
    replace u:=u.symm;replace J:=J.symm;subst u J bl
    have dr:=Fz.1 W
    refine l_k cc (Aq (b1 _ _ _ ⟨P,_,_,_,_,_,rfl,hb,?_,Bob hA hB hC hD hE a hk W,rfl⟩))
    unfold rdS;first|(rw[if_pos a];done)|(rw[if_neg a];rfl)
   have a:n≠0:=by have:=d;simpa using this
   have hC:n=0→Ds (rdT s)=true:=fun h=>absurd h a
   have ch:=Jq d
   refine Al (kk a3 ?_)
   refine w_q rfl rfl fun dg cd=>Ay (pV r) (Ay (.string (bs ((((Bc s)).take ((Bc s).length-4)).drop 0))) (l_v (Ce Brs (p:=(((Bc s)).take ((Bc s).length-4)).drop 0) rfl) (l_v (Uz rfl rfl) (Fx rfl (Hb (vs:=[pV r,.bool (decide ((((((((Bc s)).take ((Bc s).length-4)).drop 0)).length:Nat):Int)≤200)),iV 3]) (Jy (r:=r) (ln:=(((n+1):Nat):Int)) (ok:=decide ((((((((Bc s)).take ((Bc s).length-4)).drop 0)).length:Nat):Int)≤200)) (f:=3) hln) Bsa rfl rfl ⟨rfl,rfl,rfl,trivial⟩ (fun e0 cq d1 av=>?_) fun ea cq d1 c0=>⟨rfl,?_⟩)))))
   rotate_left
   ·obtain⟨y,K,ak,bb⟩:=c0
    replace y:=y.symm;replace K:=K.symm;subst y K
    exact Ow (Bjo hA hB hC (by have:=lZ4 ak;exact Int.ofNat_lt.1 (Int.not_le.1 this))) (by decide) Bsy hb bb
   obtain⟨y,K,Y,bm⟩:=av
   replace y:=y.symm;replace K:=K.symm;subst y K bm
   have hD:(rdT s).length≤200:=by have:=lZ3 Y;exact Int.ofNat_le.1 this
   have ds:=lZ3 Y
   refine Arx rfl rfl cd fun dh ce=>Ay (pV r) (Ay (iV (((ckR (rdC s)):Nat):Int)) (Ay (pV r) (l_v (Ck rfl) (l_v (Cb Brx rfl rfl ⟨_,Ab Bry,rfl⟩ (by decide) rfl rfl) (Arv (Dt (i:=0) (v:=iV ((n+1):Nat)) ⟨_,Brw,rfl⟩ rfl rfl rfl ?_))))))
   refine l_v (Ou (p:=(((n+1):Nat):Int)) (q:=1) rfl rfl (z:=((((n+1)-1):Nat):Int)) (Bo (by omega) (by omega) (by omega))) (Ay (.string (bs ((((Bc s)).take ((Bc s).length-4)).drop 0))) (Arv (Bm (vs:=[iV ((((n+1)-1):Nat):Int),.string (bs ((((Bc s)).take ((Bc s).length-4)).drop 0))]) (v:=iV (((Dr ((n+1)-1) (rdT s)):Nat):Int)) (Acz (n:=(n+1)-1) (s:=rdT s) (by omega) (Mm Ana (Mm Rz hs))) Bsx rfl rfl ⟨rfl,rfl,trivial⟩ ?_)))
   refine l_v (Ek rfl rfl) (Fx rfl (Hb (vs:=[pV r,.bool ((((ckR (rdC s)):Nat):Int)==(((Dr ((n+1)-1) (rdT s)):Nat):Int)),iV 9]) (Jy (r:=r) (ln:=(((n+1):Nat):Int)) (ok:=(((ckR (rdC s)):Nat):Int)==(((Dr ((n+1)-1) (rdT s)):Nat):Int)) (f:=9) hln) Bsa rfl rfl ⟨rfl,rfl,rfl,trivial⟩ (fun e1 cr d2 aw=>?_) fun eb cr d2 c1=>⟨rfl,?_⟩))
   rotate_left
   ·obtain⟨B,L,al,bc⟩:=c1
    replace B:=B.symm;replace L:=L.symm;subst B L
    exact Ow (Bjp hA hB hC hD (by have:=al;simp at this;omega)) (by decide) Bsy hb bc
   obtain⟨B,L,Z,bn⟩:=aw
   replace B:=B.symm;replace L:=L.symm;subst B L bn
   have hE:ckR (rdC s)=Dr n (rdT s):=by have:=Z;simp at this;omega
   have dt:=Jr Z
   refine Ary rfl rfl ce fun di dj cf cg=>Ay (.bool ((n:Int)==0)) (l_k cg (Cg rfl d (Al (kk cf ?_))))
   refine Ag rfl rfl (Ay (pV r) (Ay (pV r) (l_v (Ck rfl) (l_v (Cb Brx rfl rfl ⟨_,Ab Bsd,rfl⟩ (by decide) rfl rfl) (Arv (Dt (i:=0) (v:=vb) ⟨_,Brt,rfl⟩ rfl rfl rfl ?_))))))
   refine Ay (.string (bs ((((Bc s)).take ((Bc s).length-4)).drop 0))) (Arv (Bi (α:=ByteArray) (xs:=[bs ((((Bc s)).take ((Bc s).length-4)).drop 0)]) (vs:=[.string (bs ((((Bc s)).take ((Bc s).length-4)).drop 0))]) Brt ty9 zr9 rfl (by decide) (Dk (os:=[.tmp 94]) ⟨rfl,trivial⟩) ⟨Rb (l:=(((Bc s)).take ((Bc s).length-4)).drop 0) (by first|omega|(simp only[lZ1,lZ2,Dy,Ea,En]at *;omega)),trivial⟩ rfl (by decide) fun a4 ac a7=>?_))
   have a6:Grow ρ 9 (.slice (some ⟨a4,0,none⟩) 1 1) ([bs ((((Bc s)).take ((Bc s).length-4)).drop 0)]:List ByteArray) [(a4,oC ac.toArray 9)]:=Bs a7 rfl (by decide)
   refine Ca a6 fun ee a5 ci=>?_
   replace hb:=Grow.mono a5 hb
   refine Bj (Ghost.perm Asc) (Arv (Gc (σ:=(r,oC #[iV ((n+1):Nat),.string (bs kd),iV my,vb] 103)::σ) (gr:=gb) (xs:=xs) (ys:=([bs ((((Bc s)).take ((Bc s).length-4)).drop 0)]:List ByteArray)) Brt Brt (Ab Bsc) rfl nL rfl rfl rfl rfl hb ci (by first|omega|(simp only[lZ2,Dy];omega)) fun cj dk T=>?_))
   refine l_v (Ck rfl) (l_v (Cb Brx rfl rfl ⟨_,Ab Bsd,rfl⟩ (by decide) rfl rfl) (Bj (Ghost.perm Asd) (Cx rfl (Cz (j:=0) (v:=cj) ⟨_,Ab Bsd,rfl⟩ rfl rfl (Grow.single T) rfl nL ?_))))
   apply Ac
   refine b0 _ _ _ ⟨a5,_,_,_,_,_,rfl,T,?_,Bnx hA hB hC hD hE a,rfl⟩
   unfold rdS;first|(rw[if_pos a];done)|(rw[if_neg a];rfl)
  refine Ap (gN rfl c) (Ap (gN rfl c) (l_v (Bn rfl c (v:=bF) rfl) (Fx rfl (Hb (vs:=[pV r,bF,iV 3]) (Jy (r:=r) (ln:=(((n+1):Nat):Int)) (ok:=false) (f:=3) hln) Bsa rfl rfl ⟨rfl,rfl,rfl,trivial⟩ (fun e2 cs d3 ax=>?_) fun ec cs d3 c2=>⟨rfl,?_⟩))))
  rotate_left
  ·obtain⟨C,M,dl,bd⟩:=c2
   replace C:=C.symm;replace M:=M.symm;subst C M
   exact Ow (Baa (Aml (.inr (.inl c)))) (by decide) Bsy hb bd
  obtain⟨C,M,aa,bo⟩:=ax
  replace C:=C.symm;replace M:=M.symm;subst C M bo
  exact absurd aa (by decide)
 refine Ap (gN rfl b) (Ap (gN rfl b) (l_v (Bn rfl b (v:=bF) rfl) (Ay bF (Ap (gN rfl rfl) (Ap (gN rfl rfl) (l_v (Bn rfl rfl (v:=bF) rfl) (Fx rfl (Hb (vs:=[pV r,bF,iV 3]) (Jy (r:=r) (ln:=(((n+1):Nat):Int)) (ok:=false) (f:=3) hln) Bsa rfl rfl ⟨rfl,rfl,rfl,trivial⟩ (fun e3 ct d4 ay=>?_) fun ed ct d4 c3=>⟨rfl,?_⟩))))))))
 rotate_left
 ·obtain⟨D,N,dm,be⟩:=c3
  replace D:=D.symm;replace N:=N.symm;subst D N
  exact Ow (Baa (Aml (.inl b))) (by decide) Bsy hb be
 obtain⟨D,N,ab,bp⟩:=ay
 replace D:=D.symm;replace N:=N.symm;subst D N bp
 exact absurd ab (by decide)
end
section
open Go
/-- What is true of a panic may be told otherwise. -/
theorem Bki{C:Ctx}{V V':Hn}{b:FB}{n:Nat}{c:Code}{Q:Hu}{e:Env}{ds:List Deferred}{ρ:Ro}{σ:Own}(h:WpP C V b n c Q e ds ρ σ)(hv:∀x e ds ρ σ,V x e ds ρ σ→V' x e ds ρ σ):WpP C V' b n c Q e ds ρ σ :=
 fun tm k cs ht=>(h tm k cs ht).mono fun _ _ _ _ hs=>hs.elim .inl fun⟨a,x,tm',e',ds',i,d,g,f⟩=>.inr ⟨a,x,tm',e',ds',i,d,g,hv _ _ _ _ _ f⟩
section
variable{C:Ctx}{n:Nat}{e:Env}{ρ:Ro}{σ:Own}
theorem Arm{l:Nat}{f:FuncId}{fn:Func}{tm:Array Value}{assign body:Code}{R XP:Value→Ro→Own→Prop}(hf:C.P.funcs[f]?=some fn)(ht:EnvOf n tm e)
  (h:WpC C ⟨f,.normal,some l⟩ n assign (fun ex e1 ds1 ρ1 σ1=>ex = .normal∧ds1=[]∧∃i r,σ1[i]?=some (l,.obj (.loop r))∧r.state = .ready ∧
   WpP C (fun x _ ds ρ2 σ2=>ds=[]∧XP x ρ2 σ2) ⟨f,.normal,some l⟩ n body (fun ex _ _ ρ2 σ2=>∃i2 r2,σ2[i2]?=some (l,.obj (.loop r2)) ∧
    R (.bool (Pf ex).isNone) ρ2 (σ2.set i2 (l,.obj (.loop {r2 with state:=if (Pf ex).isNone then .ready else .done,pending:=Pf ex})))) e1 [] ρ1 (σ1.set i (l,.obj (.loop {r with state:=.busy})))) e [] ρ σ) :
  RoundP C l f tm assign body ρ σ R XP:=by
 intro c' cs
 have e1:Frame.round l f tm assign body .normal=Fr ⟨f,.normal,some l⟩ tm [] [.code assign,.beginRound,.code body]:=rfl
 rw[e1]
 refine(h.stops tm [.beginRound,.code body] (c'::cs) ht).bind ?_
 rintro _ _ ρ1 σ1 ⟨rfl,ex,d,e1,ds1,g,p,⟨rfl,rfl,i,r,hi,hr,hb⟩,c,rfl⟩
 cases c
 refine Lw (f:=fun (_:Unit)=>(Fr ⟨f,.normal,some l⟩ d [] [.code body],c'::cs)) (s:=Instr.beginRound l) (Q:=fun _ σ'=>σ'=σ1.set i (l,.obj (.loop {r with state:=.busy}))) (fun W u W' es a=>?_) (Ut hi hr rfl) ?_
 ·refine⟨seen C.P f es,?_,fun e he=>Lh he⟩
  have m:(do (some l).elim (stuck "beginRound: no round") Instr.beginRound;pure Next.skip:Sem Next).runT C.P W #[]=(.ok Next.skip W',es):=by
   show ((Instr.beginRound l).bind fun _=>Sem.pure Next.skip).runT C.P W #[]=_
   rw[Sem.runT_bind',a];rfl
  simp only[Conc.G,stepG,stepG.exec,Fr,stepG.apply,if_true,m,GStep.after]
  simp only[Frame.finish]
  rfl
 rintro u σ' rfl
 refine(hb d [] (c'::cs) p).bind ?_
 rintro _ _ ρ2 σ2 (⟨rfl,ex,q,t,j,g,w,⟨i2,r2,k,hR⟩,c,rfl⟩|⟨rfl,x,q,_,j,g,_,rfl,rfl,hX⟩)
 rotate_left
 ·exact Zr (b:=⟨f,.normal,some l⟩) hf (.stop ⟨rfl,.inr ⟨x,rfl,hX⟩⟩)
 refine Lw (f:=fun v=>(Frame.finish c' v,cs)) (s:=Instr.endRound l (Pf ex)) (Q:=fun v σ'=>R v ρ2 σ') (fun W v W' es a=>?_) (Xs k hR) fun v σ' hv=>.stop ⟨rfl,.inl ⟨v,rfl,hv⟩⟩
 refine⟨seen C.P f es,?_,fun e he=>Lh he⟩
 cases ex with
 | normal =>
  cases c
  simp only[Pf]at a
  simp[Conc.G,stepG,stepG.exec,Fr,-Sem.runT_eq,a,doReturn,GStep.after]
 | exit id =>
  obtain⟨pre,hp,rfl⟩:=c
  have hno:exitTo id (pre++[])=none:=by rw[Mj hp];rfl
  simp only[Pf]at a
  simp only[Lz]at hno
  simp[Conc.G,stepG,stepG.exec,Fr,-Sem.runT_eq,a,hno,doReturn,GStep.after]
 | ret =>
  obtain⟨pre,rfl⟩:=c
  simp only[Pf]at a
  simp[Conc.G,stepG,stepG.exec,Fr,-Sem.runT_eq,a,doReturn,GStep.after]
end
/-- What the iterator's yield brings,if the round may panic. -/
def Anv(C:Ctx)(l:Nat)(x:Value)(ρ:Ro)(σ:Own)(R XP:Value→Ro→Own→Prop):Prop :=
 ∀ds,wpS C.P ρ (Instr.yield l #[x]) σ (NextP C (fun v ds' ρ' σ'=>ds'=ds∧R v ρ' σ') XP ds ρ)
/-- A function value that hands these values over,one after the other,though the function that it gets may panic;O is its own memory. -/
def Aut(f:Value)(ρ₀:Ro)(O:Own)(ys:List Value):Prop :=
 ∃(k:FuncId) (fn:Func) (caps:List Value),f = .func (.func k) #[] caps.toArray∧Tryz.prog.funcs[k]?=some fn∧(fn.name == "runtime.NumGoroutine")=false∧fn.body.isNone=false ∧
  ∀(mn:Bool) (X:Frame→List Frame→Ro→Own→Cy→Prop) (l:Nat) (I:List Value→Ro→Own→Prop) (XP:Value→Ro→Own→Prop) (ρ:Ro) (σ:Own),Ro.le ρ₀ ρ→(∀pre ρ ρ' σ,Ro.le ρ ρ'→I pre ρ σ→I pre ρ' σ)→I [] ρ σ →
   (∀pre x post ρ' σ' pfx,ObjsO pfx→ys=pre++x::post→Ro.le ρ ρ'→I pre ρ' σ'→Anv (CX mn X) l x ρ' (pfx++σ') (fun v ρ'' σ''=>∃τ,σ''=pfx++τ∧Ro.le ρ' ρ''∧v = .bool true∧I (pre++[x]) ρ'' τ) (fun v ρ'' σ''=>Ro.le ρ' ρ''∧∃τ,σ''=pfx++τ∧XP v ρ'' τ)) →
   CallsP (CX mn X) k (.func (.yield l) #[] #[]::caps).toArray ρ (O++σ) (fun _ ρ' σ'=>Ro.le ρ ρ'∧I ys ρ' σ') (fun v ρ' σ'=>Ro.le ρ ρ'∧∃O' τ,ObjsO O'∧σ'=O'++τ∧XP v ρ' τ)
section
variable{mn:Bool}{X:Frame→List Frame→Ro→Own→Cy→Prop}{V:Hn}{b:FB}{n:Nat}{e:Env}{ds:List Deferred}{ρ:Ro}{σ:Own}{K:Value→List Deferred→Ro→Own→Prop}{X':Value→Ro→Own→Prop}{dd:Option Tmp}{x y:Operand}{v:Value}{ty:TypeId}{pos:String}{af:Array Edge}{g:Option (Nat×Bool)}
theorem Agh{l:Nat}{tys:Array TypeId}{R XP:Value→Ro→Own→Prop}(hx:Af e x = .func (.yield l) #[] #[])(hy:Af e y=v)(hY:Anv (CX mn X) l v ρ σ R XP)(h:∀w ρ' σ',R w ρ' σ'→K w ds ρ' σ')(hp:∀w ρ' σ',XP w ρ' σ'→X' w ρ' σ') :
  wpS (CX mn X).P ρ (execOp (Af e) ⟨dd,.call ⟨.value x,#[y],tys⟩,ty,pos,af,g⟩) σ (NextP (CX mn X) K X' ds ρ):=by
 have b:(#[y]:Array Operand).map (Af e) = #[v]:=by simp[hy]
 show wpS Tryz.prog ρ ((Deferred.ofValue (Af e x) ((#[y]:Array Operand).map (Af e))).bind _) σ _
 rw[hx,b]
 show wpS Tryz.prog ρ (Instr.yield l (#[] ++ #[v])) σ _
 have a:(#[] ++ #[v]:Array Value) = #[v]:=by simp
 rw[a]
 exact Eu (fun nx σ' hn=>hn.mono (by rintro w ds' ρ' σ' ⟨rfl,hR⟩;exact h w ρ' σ' hR) hp) _ _ (hY ds)
theorem ObjsO.cat{a b:Own}(h:ObjsO a)(h':ObjsO b):ObjsO (a++b):=fun x hx=>(Fb.1 hx).elim (h x) (h' x)
/-- A RANGE OVER A FUNCTION whose rounds may panic. -/
theorem Aaz{f:Operand}{q:Nat}{fnb:Func}{assign body:Code}{Q:Hu}{fv:Value}{O:Own}{ys:List Value}(J:List Value→Ro→Own→Prop)(XP:Value→Ro→Own→Prop)(hr:b.round=none)(hk:b.kind = .normal)(hfn:Tryz.prog.funcs[b.fn]?=some fnb)(hq:q<n)(hf:Af e f=fv)(hF:Aut fv ρ O ys)
  (hJm:∀pre ρ ρ' σ,Ro.le ρ ρ'→J pre ρ σ→J pre ρ' σ) (hJ:J [] ρ σ)
  (hbody:∀l pre x post ρ' τ,ys=pre++x::post→Ro.le ρ ρ'→J pre ρ' τ→∀pfx:Own,ObjsO pfx →
   WpC (CX mn X) ⟨b.fn,.normal,some l⟩ n assign (fun ex e1 ds1 ρ1 σ1=>ex = .normal∧ds1=[]∧Ro.le ρ' ρ1∧∃τ1,σ1=pfx++τ1 ∧
    ∀pfx2:Own,ObjsO pfx2→WpP (CX mn X) (fun v _ ds ρ2 σ2=>ds=[]∧Ro.le ρ1 ρ2∧∃τ2,σ2=pfx2++τ2∧XP v ρ2 τ2) ⟨b.fn,.normal,some l⟩ n body (fun ex _ _ ρ2 σ2=>Ro.le ρ1 ρ2∧∃τ2,σ2=pfx2++τ2∧ex = .normal∧J (pre++[x]) ρ2 τ2) e1 [] ρ1 (pfx2++τ1)) (upd e q x) [] ρ' (pfx++τ))
  (hend:∀r ρ' τ,Ro.le ρ ρ'→J ys ρ' τ→Q .normal e ({target:=.collected r,args:=#[]}::ds) ρ' ((r,.obj (.deferred (some [])))::τ))
  (hpan:∀v r ρ' O' τ,ObjsO O'→Ro.le ρ ρ'→XP v ρ' τ→V v e ({target:=.collected r,args:=#[]}::ds) ρ' (O'++(r,.obj (.deferred (some [])))::τ)) :
  WpP (CX mn X) V b n (.rangeFunc f #[q] assign body) Q e ds ρ (O++σ):=by
 intro tm k cs ht
 obtain⟨kk,fn,m,rfl,p,u,w,y⟩:=hF
 refine Lw (s:=Instr.enterLoop b.fn tm #[q] assign body none)
  (f:=fun lm=>(Frame.enter Tryz.prog kk (Value.func (.yield lm.1) #[] #[]::m).toArray .normal,Fr b tm (lm.2++ds) (.inRangeFunc lm.1::k)::cs))
  (Q:=fun lm σ'=>∃r,lm.2=[{target:=.collected r,args:=#[]}]∧σ'=(lm.1,Res.obj (.loop {state:=.ready,pending:=none,fn:=b.fn,tmps:=tm,params:=#[q],assign,body,defers:=r}))::(r,.obj (.deferred (some [])))::(O++σ))
  (fun W lm W' es g=>?_) (Vj fun r l=>⟨r,rfl,rfl⟩) ?_
 ·exact Abv hr hk (by rw[ht.eval];exact hf) (P:=Tryz.prog) p u w g
 rintro⟨l,E⟩ σ' ⟨r,hm,rfl⟩
 simp only at hm
 subst hm
 let L:Loop:={state:=.ready,pending:=none,fn:=b.fn,tmps:=tm,params:=#[q],assign,body,defers:=r}
 have B:=y mn X l (fun pre ρ' σ'=>∃τ,σ'=(l,Res.obj (.loop L))::(r,.obj (.deferred (some [])))::τ∧J pre ρ' τ) (fun v ρ' σ'=>∃L' τ,σ'=(l,Res.obj (.loop L'))::(r,.obj (.deferred (some [])))::τ∧XP v ρ' τ) ρ ((l,Res.obj (.loop L))::(r,.obj (.deferred (some [])))::σ) .refl
  (fun pre ρ1 ρ2 σ1 hle ⟨τ,e1,c⟩=>⟨τ,e1,hJm _ _ _ _ hle c⟩) ⟨σ,rfl,hJ⟩ (fun pre x post ρ' σ' pfx hpo hys hle ⟨τ,e1,c⟩ ds'=>?_)
 ·refine .ghost (Ghost.perm (σ':=O++((l,Res.obj (.loop L))::(r,.obj (.deferred (some [])))::σ)) ?_) ?_
  ·have C:(([(l,Res.obj (.loop L)),(r,.obj (.deferred (some [])))]:Own)++(O++σ)).Perm (O++([(l,Res.obj (.loop L)),(r,.obj (.deferred (some [])))]++σ)):=Bio _ _ _
   exact C
  refine(B (Fr b tm ([{target:=.collected r,args:=#[]}]++ds) (.inRangeFunc l::k)) cs).bind ?_
  rintro _ cs' ρ' σ' ⟨hcs,⟨v,rfl,hle,τ,rfl,hJ'⟩|⟨v,rfl,hle,O',τ',hO',rfl,L',τ,rfl,hX⟩⟩
  ·subst hcs
   have e1:(Fr b tm ([{target:=.collected r,args:=#[]}]++ds) (.inRangeFunc l::k)).finish v=Fr b tm ([{target:=.collected r,args:=#[]}]++ds) (.endRangeFunc l::k):=rfl
   rw[e1]
   refine Lw (s:=Instr.endLoop l) (f:=fun j=>(Fr b tm ([{target:=.collected r,args:=#[]}]++ds) ((j.map Item.code).toList++k),cs')) (Q:=fun j σ''=>j=none∧σ''=(l,Res.obj (.loop {L with state:=.exhausted}))::(r,.obj (.deferred (some [])))::τ) (fun W j W' es g=>?_) (Zz rfl ⟨rfl,rfl⟩) ?_
   ·exact⟨seen Tryz.prog b.fn es ++ #[],by simp[Conc.G,stepG,stepG.exec,Fr,-Sem.runT_eq,g,GStep.after],fun ev he=>Lh (by simpa using he)⟩
   ·rintro j σ'' ⟨rfl,rfl⟩
    exact .ghost Ghost.drop (.stop (.inl ⟨rfl,.normal,tm,e,_,k,ht,hend r ρ' τ hle hJ',rfl,rfl⟩))
  ·subst hcs
   refine .stop (.inr ⟨rfl,v,tm,_,_,_,ht.2,Afn,?_⟩)
   have:=hpan v r ρ' (O'++[(l,Res.obj (.loop L'))]) τ (hO'.cat Xc) hle hX
   rw[lZ9]at this
   exact this
 ·subst e1
  rw[Akr]
  refine Afw (i:=pfx.length) Aso (by simp[L]) ?_
  show RoundP (CX mn X) l b.fn _ assign body ρ' _ _ _
  have etm:((L.params.zip #[x]).foldl (fun tmps (t,a)=>tmps.setIfInBounds t a) L.tmps)=tm.setIfInBounds q x:=by simp[L]
  rw[etm]
  refine Arm (fn:=fnb) hfn (ht.put hq x) ?_
  refine Adw (hbody l pre x post ρ' τ hys hle c (pfx++[(l,Res.obj (.loop L)),(r,.obj (.deferred (some [])))]) hpo.add) ?_
  rintro ex e1 ds1 ρ1 σ1 ⟨rfl,rfl,h,τ1,rfl,hb⟩
  refine⟨rfl,rfl,pfx.length,L,Aso,rfl,?_⟩
  rw[Axe]
  have hb':=hb (pfx++[(l,Res.obj (.loop {L with state:=.busy})),(r,.obj (.deferred (some [])))]) hpo.add
  refine Bki (Adw hb' ?_) ?_
  ·rintro ex c D ρ2 σ2 ⟨d,τ2,rfl,rfl,z⟩
   refine⟨pfx.length,{L with state:=.busy},Aso,rfl,?_⟩
   rw[Axe,←Akr]
   exact⟨_,rfl,h.trans d,rfl,τ2,rfl,z⟩
  ·rintro v _ ds ρ2 σ2 ⟨rfl,d,τ2,rfl,hX⟩
   refine⟨rfl,h.trans d,_,?_,{L with state:=.busy},τ2,rfl,hX⟩
   rw[←Akr]
end
end
section
open Go
theorem Ayy{t:List UInt8}{k:Nat}{ρ₀:Ro}(hb:t.length≤60000):Aut (.func (.func 68) #[] #[.pointer (some ⟨k,0,none⟩)]) ρ₀ [(k,Res.obj (.cells #[.string (bs t)] 9 (0,0)))] ((Bp [] t).map (fun l:List UInt8=>Value.string (bs l))):=by
 refine⟨_,_,[.pointer (some ⟨k,0,none⟩)],rfl,Tryz.func68,rfl,rfl,?_⟩
 intro mn X l I XP ρ σ hle a9 hI hy
 refine Tk (n:=25) (args:=[.func (.yield l) #[] #[],.pointer (some ⟨k,0,none⟩)]) [] Tryz.func68 rfl rfl rfl rfl fun Q aa H=>?_
 refine Ao ?_
 refine Cc (fun mm ee dd ρ' σ'=>∃(s:List UInt8) (pre:List (List UInt8)) (y:Own),(s.length)=mm∧[]=dd∧Ro.le ρ ρ'∧((k,Res.obj (Obj.cells #[.string (bs s)] 9 (0,0)))::y)=σ'∧ee 0=(.func (.yield l) #[] #[])∧ee 1=(.pointer (some ⟨k,0,none⟩))∧(Bp [] t=pre++Bp [] s)∧(s.length≤60000)∧I (pre.map (fun l:List UInt8=>Value.string (bs l))) ρ' y∧True) (m:=_) ⟨t,[],σ,rfl,rfl,Bsy,rfl,rfl,rfl,rfl,hb,hI,trivial⟩ ?_
 rintro m1 e1 _ ae _ ⟨s,pre,y,rfl,rfl,b,rfl,g,a,f,ab,u,_⟩
 refine Ai fun K2 R=>?_
 refine Ai fun K3 T=>?_
 refine Ag rfl rfl ?_
 refine Ae rfl (Dt (i:=0) (v:=.string (bs s)) ⟨_,Brs,rfl⟩ a rfl rfl ?_)
 refine Aa rfl (Ce Brs (p:=s) rfl) ?_
 refine Aa rfl (Gl (p:=((s.length:Nat):Int)) (q:=0) rfl rfl) ?_
 refine Ac ?_
 apply T
 refine Bb (t:=decide (((s.length:Nat):Int)>0)) rfl (fun w=>?_) (fun w=>?_)
 ·have q4:=lZ3 w
  refine Al ?_
  apply R
  refine Ao ?_
  refine Ai fun K5 U=>?_
  refine Ag rfl rfl ?_
  refine Aa rfl (Cp (v:=.string (ByteArray.mk #[])) rfl) ?_
  refine Ac ?_
  apply U
  refine Ai fun K6 C=>?_
  refine Ai fun K7 V=>?_
  refine Ag rfl rfl ?_
  refine Ae rfl (Dt (i:=0) (v:=.string (bs s)) ⟨_,Brs,rfl⟩ a rfl rfl ?_)
  refine Ae rfl (Bm (vs:=[.string (bs s),.int .u8 10]) (v:=.int .i64 (Mk (10:UInt8) s)) (Ayf (p:=s) (c:=(10:UInt8))) Tryz.func69 rfl rfl ⟨rfl,rfl,trivial⟩ ?_)
  refine Aa rfl (Cp (v:=.int .i64 (Mk (10:UInt8) s)) rfl) ?_
  refine Ac ?_
  apply V
  refine Ai fun K8 W=>?_
  refine Ag rfl rfl ?_
  refine Aa rfl (Ah (v:=.int .i64 (Mk (10:UInt8) s)) rfl) ?_
  refine Aa rfl (Uy (p:=Mk (10:UInt8) s) (q:=0) rfl rfl) ?_
  refine Ac ?_
  apply W
  refine Bb (t:=decide ((Mk (10:UInt8) s)≥0)) rfl (fun d=>?_) (fun d=>?_)
  ·obtain⟨m,B,a8,e⟩:=Azl d
   have q9:=lZ3 d
   refine Abl ((k,Res.obj (Obj.cells #[.string (bs s)] 9 (0,0)))::[]) [0,1,2,3,4,5,6,7,8] (by kernel_rfl) rfl rfl ?_
   refine Xb (i:=0) [o1,o0,o0,o0,o0,o0,o0,o0,o0,o0] rfl (by kernel_rfl) rfl ⟨Bsy,(by repeat first|exact Agb|refine Afu ?_|refine Afx ?_|refine Afs ?_|refine Aga ?_)⟩ rfl (Fs (v:=.string (bs s)) ⟨_,Brs,rfl⟩ a mC rfl) ?_
   refine Xb (i:=1) [o1,o1,o0,o0,o0,o0,o0,o0,o0,o0] rfl (by kernel_rfl) rfl ⟨Bsy,(by repeat first|exact Agb|refine Afu ?_|refine Afx ?_|refine Afs ?_|refine Aga ?_)⟩ rfl (Yld.o (Ah (v:=.int .i64 (m:Int)) (congrArg (Value.int .i64) B))) ?_
   refine Xb (i:=2) [o1,o1,o1,o0,o0,o0,o0,o0,o0,o0] rfl (by kernel_rfl) rfl ⟨Bsy,(by repeat first|exact Agb|refine Afu ?_|refine Afx ?_|refine Afs ?_|refine Aga ?_)⟩ rfl (Yld.o (Br (p:=(m:Int)) (q:=1) rfl rfl (z:=(((m+1):Nat):Int)) (Bo (by first|rfl|omega|(push_cast;rfl)) (by omega) (by omega)))) ?_
   refine Xb (i:=3) [o1,o1,o1,o1,o0,o0,o0,o0,o0,o0] rfl (by kernel_rfl) rfl ⟨Bsy,(by repeat first|exact Agb|refine Afu ?_|refine Afx ?_|refine Afs ?_|refine Aga ?_)⟩ rfl (Yld.o (Lp (p:=s) (l:=0) (h:=m+1) Brs rfl (.inl ⟨rfl,rfl⟩) (.inr ⟨_,rfl,rfl⟩) (by first|omega|(simp only[Ea,En]at *;omega)) (by first|omega|(simp only[Ea,En]at *;omega)))) ?_
   refine Xb (i:=4) [o1,o1,o1,o1,o1,o0,o0,o0,o0,o0] rfl (by kernel_rfl) rfl ⟨Bsy,(by repeat first|exact Agb|refine Afu ?_|refine Afx ?_|refine Afs ?_|refine Aga ?_)⟩ rfl (Fs (v:=.string (bs s)) ⟨_,Brs,rfl⟩ a mC rfl) ?_
   refine Xb (i:=5) [o1,o1,o1,o1,o1,o1,o0,o0,o0,o0] rfl (by kernel_rfl) rfl ⟨Bsy,(by repeat first|exact Agb|refine Afu ?_|refine Afx ?_|refine Afs ?_|refine Aga ?_)⟩ rfl (Yld.o (Ah (v:=.int .i64 (m:Int)) (congrArg (Value.int .i64) B))) ?_
   refine Xb (i:=6) [o1,o1,o1,o1,o1,o1,o1,o0,o0,o0] rfl (by kernel_rfl) rfl ⟨Bsy,(by repeat first|exact Agb|refine Afu ?_|refine Afx ?_|refine Afs ?_|refine Aga ?_)⟩ rfl (Yld.o (Br (p:=(m:Int)) (q:=1) rfl rfl (z:=(((m+1):Nat):Int)) (Bo (by first|rfl|omega|(push_cast;rfl)) (by omega) (by omega)))) ?_
   refine Xb (i:=7) [o1,o1,o1,o1,o1,o1,o1,o1,o0,o0] rfl (by kernel_rfl) rfl ⟨Bsy,(by repeat first|exact Agb|refine Afu ?_|refine Afx ?_|refine Afs ?_|refine Aga ?_)⟩ rfl (Yld.o (Lp (p:=s) (l:=m+1) (h:=s.length) Brs rfl (.inr ⟨_,rfl,rfl⟩) (.inl ⟨rfl,rfl⟩) (by first|omega|(simp only[Ea,En]at *;omega)) (by first|omega|(simp only[Ea,En]at *;omega)))) ?_
   refine Bep (i:=8) [o1,o1,o1,o1,o1,o1,o1,o1,o1,o0] rfl (by kernel_rfl) rfl ⟨Bsy,(by repeat first|exact Agb|refine Afu ?_|refine Afx ?_|refine Afs ?_|refine Aga ?_)⟩ rfl (Yld.o (Cp (v:=.string (bs ((s.take (m+1)).drop 0))) rfl)) ⟨Bsy,(by repeat first|exact Agb|refine Afu ?_|refine Afx ?_|refine Afs ?_|refine Aga ?_)⟩ ?_
   refine Awp (i:=9) [o1,o1,o1,o1,o1,o1,o1,o1,o1,o1] rfl (by kernel_rfl) (by kernel_rfl) rfl rfl (Cz (j:=0) (v:=.string (bs ((s.take s.length).drop (m+1)))) ⟨_,Ab Bsc,rfl⟩ a rfl rfl rfl nL ?_)
   refine Ajc rfl ?_
   apply C
   refine Ai fun a6 O=>?_
   refine Ag rfl rfl ?_
   refine Aa rfl (Ah (v:=.func (.yield l) #[] #[]) g) ?_
   refine Aa rfl (Ah (v:=.string (bs ((s.take (m+1)).drop 0))) rfl) ?_
   refine Fx rfl (Agh (v:=.string (bs ((s.take (m+1)).drop 0))) rfl rfl (hy (pre.map (fun l:List UInt8=>Value.string (bs l))) (.string (bs ((s.take (m+1)).drop 0))) ((Bp [] ((s.take s.length).drop (m+1))).map (fun l:List UInt8=>Value.string (bs l))) _ _ [(k,Res.obj (Obj.cells #[.string (bs ((s.take s.length).drop (m+1)))] 9 (0,0)))] Xc (by rw[f,e,Ir,Hd]) b u) (fun ac a0 a2 F=>?_) fun x a0 a2 hx=>⟨rfl,?_⟩)
   rotate_left
   ·obtain⟨lp,τ,hs,hX⟩:=hx
    subst hs
    exact⟨b.trans lp,[(k,_)],τ,Xc,rfl,hX⟩
   obtain⟨a4,K,Y,M,D⟩:=F
   subst K
   subst M
   refine Aa rfl (Iy (k:=true) rfl) ?_
   refine Ac ?_
   apply O
   refine Cg rfl (not_t rfl) ?_
   refine Al ?_
   refine⟨_,?_,((s.take s.length).drop (m+1)),(pre++[(s.take (m+1)).drop 0]),a4,rfl,rfl,(Bsz b Y),rfl,g,a,(by rw[f,e,lZ9];rfl),(by simp only[Ea,En,Dy]at *;omega),(Yp (by rw[Ir];rfl) D),trivial⟩
   simp only[Ea,En,Dy]at *;omega
  have e:=Azk d (by omega)
  have q9:=lZ4 d
  refine Ag rfl rfl ?_
  refine Ae rfl (Dt (i:=0) (v:=.string (bs s)) ⟨_,Brs,rfl⟩ a rfl rfl ?_)
  refine Aa rfl (Cp (v:=.string (bs s)) rfl) ?_
  refine Cx rfl (Cz (j:=0) (v:=.string (ByteArray.mk #[])) ⟨_,Ab Bsc,rfl⟩ a rfl rfl rfl nL ?_)
  refine Ac ?_
  apply C
  refine Ai fun a7 P=>?_
  refine Ag rfl rfl ?_
  refine Aa rfl (Ah (v:=.func (.yield l) #[] #[]) g) ?_
  refine Aa rfl (Ah (v:=.string (bs s)) rfl) ?_
  refine Fx rfl (Agh (v:=.string (bs s)) rfl rfl (hy (pre.map (fun l:List UInt8=>Value.string (bs l))) (.string (bs s)) ((Bp [] ([]:List UInt8)).map (fun l:List UInt8=>Value.string (bs l))) _ _ [(k,Res.obj (Obj.cells #[.string (ByteArray.mk #[])] 9 (0,0)))] Xc (by rw[f,e,Ir,Hd];rfl) b u) (fun ad a1 a3 G=>?_) fun x a1 a3 hx=>⟨rfl,?_⟩)
  rotate_left
  ·obtain⟨lp,τ,hs,hX⟩:=hx
   subst hs
   exact⟨b.trans lp,[(k,_)],τ,Xc,rfl,hX⟩
  obtain⟨a5,L,Z,N,E⟩:=G
  subst L
  subst N
  refine Aa rfl (Iy (k:=true) rfl) ?_
  refine Ac ?_
  apply P
  refine Cg rfl (not_t rfl) ?_
  refine Al ?_
  refine⟨_,?_,([]:List UInt8),(pre++[s]),a5,rfl,rfl,(Bsz b Z),rfl,g,a,(by rw[f,e,lZ9];rfl),(by simp only[Ea,En,Dy]at *;omega),(Yp (by rw[Ir];rfl) E),trivial⟩
  simp only[Ea,En,Dy]at *;omega
 have q4:=lZ4 w
 refine Aj Ghost.drop ?_
 refine Bx ?_
 refine H _ _ _ ?_
 have J:s=[]:=Aem (by omega)
 refine⟨b,?_⟩
 rw[f,J,show Bp [] ([]:List UInt8)=[] from rfl,Lz];exact u
end
section
open Go
/-- A deferred function,called while a panic with x unwinds its caller: it recovers,and the caller returns. -/
def RecovP(C:Ctx)(g:FuncId)(args:Array Value)(x:Value)(ρ:Ro)(σ:Own)(R:Ro→Own→Prop):Prop :=
 ∀c cs,c.mode = .panicking [⟨x,false,false⟩]→GoesH C (fun fr cs' ρ' σ'=>fr={c with mode:=.returning}∧cs'=cs∧R ρ' σ') (Frame.enter C.P g args .deferred) (c::cs) ρ σ
/-- The same,called while its caller returns. -/
def DefersP(C:Ctx)(g:FuncId)(args:Array Value)(ρ:Ro)(σ:Own)(R:Ro→Own→Prop):Prop :=
 ∀c cs,c.mode = .returning→GoesH C (fun fr cs' ρ' σ'=>fr=c∧cs'=cs∧R ρ' σ') (Frame.enter C.P g args .deferred) (c::cs) ρ σ
/-- Ghosts may come last at a panic,too. -/
theorem Axk{C:Ctx}{V:Hn}{b:FB}{n:Nat}{c:Code}{Q:Hu}{e:Env}{ds:List Deferred}{ρ:Ro}{σ:Own}(h:WpP C (fun x e ds ρ σ=>∃ρ' σ',Ghost ρ σ ρ' σ'∧V x e ds ρ' σ') b n c Q e ds ρ σ):WpP C V b n c Q e ds ρ σ :=
 fun tm k cs ht=>(h tm k cs ht).bind fun _ _ _ _ hs=>hs.elim (fun hs=>.stop (.inl hs)) fun⟨a,x,tm',e',ds',g,d,f,ρ',σ',hg,hV⟩=>.ghost hg (.stop (.inr ⟨a,x,tm',e',ds',g,d,f,hV⟩))
section
variable{C:Ctx}{n:Nat}{e:Env}{ρ:Ro}{σ:Own}
theorem Aik{P:Program}{f:FuncId}{fn:Func}{args fs:Array Value}(hf:P.funcs[f]?=some fn)(hn:(fn.name == "runtime.NumGoroutine")=false)(hb:fn.body.isNone=false)(W:World) :
  (invoke (.fn (.func f) fs) args).runT P W #[]=(.ok (.enter f (args++fs)) W,#[]):=by
 show (callFunc f (args++fs)).runT P W #[]=_
 show (program.bind _:Sem Next).runT P W #[]=_
 rw[Sem.runT_bind']
 show Sem.runT P (match P.funcs[f]? with|none=>_|some fn=>_) W #[]=_
 rw[hf]
 simp only[hn,hb]
 rfl
/-- What comes behind the body of a deferred function. -/
theorem Ahy{g:FuncId}{fn:Func}{S:Cy}{tm:Array Value}{ex:Ex}{todo:List Item}{c c':Frame}{cs:List Frame}(hf:C.P.funcs[g]?=some fn)(hr:fn.results = #[])(hx:∀id,ex ≠ .exit id)(ht:Pl ex [] todo)
  (hc:∀W,doReturn C.P C.main {Fr ⟨g,.deferred,none⟩ tm [] (match ex with | .normal=>[]|_=>todo) with mode:=.returning} (c::cs) none (.tuple #[]) W = .go (Conc.G c' cs) W) (h:GoesH C S c' cs ρ σ):GoesH C S (Fr ⟨g,.deferred,none⟩ tm [] todo) (c::cs) ρ σ:=by
 have fin:∀todo,(∀W,doReturn C.P C.main {Fr ⟨g,.deferred,none⟩ tm [] todo with mode:=.returning} (c::cs) none (.tuple #[]) W = .go (Conc.G c' cs) W)→GoesH C S {Fr ⟨g,.deferred,none⟩ tm [] todo with mode:=.returning} (c::cs) ρ σ:=by
  intro todo hc
  refine Eh (fr':=c') (cs':=cs) (fun W=>?_) h
  have hrs:(results fn tm).runT C.P W #[]=(.ok (.tuple #[]) W,#[]):=by
   unfold results;rw[hr,Atq];rfl
  have:=hc W
  simp only[Fr,Conc.G]at this
  simp[Conc.G,stepG,Fr,unwind,hf,-Sem.runT_eq,hrs,GStep.after,seen,this]
 cases ex with
 | normal =>
  cases ht
  exact Eh (fr':={Fr ⟨g,.deferred,none⟩ tm [] [] with mode:=.returning}) (cs':=c::cs) (fun W=>by simp[Conc.G,stepG,stepG.exec,Fr]) (fin _ hc)
 | exit id=>exact absurd rfl (hx id)
 | ret =>
  obtain⟨pre,rfl⟩:=ht
  exact Eh (fr':={Fr ⟨g,.deferred,none⟩ tm [] (.code .ret::(pre++[])) with mode:=.returning}) (cs':=c::cs) (fun W=>by simp[Conc.G,stepG,stepG.exec,Fr]) (fin _ hc)
/-- From its entry to what comes behind the call of recover. -/
theorem Ahu{g:FuncId}{fn:Func}{S:Cy}{id d:Nat}{tys:Array TypeId}{ty:TypeId}{pos:String}{af:Array Edge}{rest:Code}{args:List Value}{x:Value}{c c':Frame}{cs:List Frame}(hf:C.P.funcs[g]?=some fn)(hc:fn.body=some (.seq (.region id #[⟨some d,.call ⟨.builtin .recover,#[],tys⟩,ty,pos,af,none⟩] false) rest))(hn:fn.ntmps=n)(ha:Nat.ble args.length n=true)(hd:Nat.blt d n=true)
  (hm:(tryRecover (Fr ⟨g,.deferred,none⟩ #[] [] []) (c::cs)=some (x,c'::cs))∨(tryRecover (Fr ⟨g,.deferred,none⟩ #[] [] []) (c::cs)=none∧x = .nilIface∧c'=c))
  (h:∀tm,EnvOf n tm (upd (Pn args) d x)→GoesH C S (Fr ⟨g,.deferred,none⟩ tm [] [.code rest]) (c'::cs) ρ σ):GoesH C S (Frame.enter C.P g args.toArray .deferred) (c::cs) ρ σ:=by
 have e:Frame.enter C.P g args.toArray .deferred=Fr ⟨g,.deferred,none⟩ (args.toArray++Array.replicate (n-args.toArray.size) undef) [] [.code (.seq (.region id #[⟨some d,.call ⟨.builtin .recover,#[],tys⟩,ty,pos,af,none⟩] false) rest)]:=by
  simp[Frame.enter,hf,hc,hn,Fr]
 rw[e]
 have hE:=Tn (args:=args) (n:=n) (lZ5 ha)
 generalize (args.toArray++Array.replicate (n-args.toArray.size) undef)=tm at hE
 generalize hops:#[(⟨some d,.call ⟨.builtin .recover,#[],tys⟩,ty,pos,af,none⟩:Oper)]=ops
 have ho:ops[0]?=some ⟨some d,.call ⟨.builtin .recover,#[],tys⟩,ty,pos,af,none⟩:=by subst hops;rfl
 have hsz:ops.size=1:=by subst hops;rfl
 have hs:Fu n ops=true:=by
  subst hops
  have:d<n:=by simpa using hd
  simp[Fu,this]
 refine Eh (fr':=Fr ⟨g,.deferred,none⟩ tm [] [.code (.region id ops false),.code rest]) (cs':=c::cs) (fun W=>by simp[Conc.G,stepG,stepG.exec,Fr]) ?_
 refine Eh (fr':=Fr ⟨g,.deferred,none⟩ tm [] [.inRegion ops [0],.code rest]) (cs':=c::cs) (fun W=>by simp[Conc.G,stepG,stepG.exec,Fr,hsz,List.range,List.range.loop]) ?_
 refine Eh (fr':=Fr ⟨g,.deferred,none⟩ (tm.setIfInBounds d x) [] [.inRegion ops [],.code rest]) (cs':=c'::cs) (fun W=>?_) ?_
 ·have hst:=Np (C:=C) (b:=⟨g,.deferred,none⟩) (ds:=[]) (tm:=tm) (k:=[.code rest]) (cs:=c::cs) (rest:=[]) ho (by rw[Ij hs hE];rfl) (fun c' h'=>by cases h') W
  refine hst.trans ?_
  have hev:=hE.eval ⟨g,.deferred,none⟩ [] (.inRegion ops [0]::[.code rest])
  rw[hev]
  have hr:(execOp (Af (Pn args)) ⟨some d,.call ⟨.builtin .recover,#[],tys⟩,ty,pos,af,none⟩).runT C.P W #[]=(.ok .recover W,#[]):=rfl
  have a:=Ju (b:=⟨g,.deferred,none⟩) (ds:=[]) (rest:=[]) (tm:=tm) (k:=[.code rest]) ho x
  rcases hm with hm|⟨hm,rfl,rfl⟩
  ·have hm':tryRecover (Fr ⟨g,.deferred,none⟩ tm [] (.inRegion ops [0]::[.code rest])) (c::cs)=some (x,c'::cs):=hm
   simp only[Fr]at hm' a
   simp[stepG.apply,-Sem.runT_eq,hr,GStep.after,Conc.G,Fr,seen,hm',a]
  ·have hm':tryRecover (Fr ⟨g,.deferred,none⟩ tm [] (.inRegion ops [0]::[.code rest])) (c'::cs)=none:=hm
   simp only[Fr]at hm' a
   simp[stepG.apply,-Sem.runT_eq,hr,GStep.after,Conc.G,Fr,seen,hm',a]
 refine Eh (fr':=Fr ⟨g,.deferred,none⟩ (tm.setIfInBounds d x) [] [.code rest]) (cs':=c'::cs) (fun W=>by simp[Conc.G,stepG,stepG.exec,Fr]) ?_
 exact h _ (hE.put (by simpa using hd) x)
theorem Bfp{g:FuncId}{fn:Func}{id d:Nat}{tys:Array TypeId}{ty:TypeId}{pos:String}{af:Array Edge}{rest:Code}{args:List Value}{x:Value}{R:Ro→Own→Prop}(hf:C.P.funcs[g]?=some fn)(hc:fn.body=some (.seq (.region id #[⟨some d,.call ⟨.builtin .recover,#[],tys⟩,ty,pos,af,none⟩] false) rest))(hn:fn.ntmps=n)(hr:fn.results = #[])(ha:Nat.ble args.length n=true)(hd:Nat.blt d n=true)
  (h:∀Q:Hu,(∀ex e ρ' σ',(∀id,ex ≠ .exit id)→R ρ' σ'→Q ex e [] ρ' σ')→WpC C ⟨g,.deferred,none⟩ n rest Q (upd (Pn args) d x) [] ρ σ):RecovP C g args.toArray x ρ σ R:=by
 rintro c cs hm
 refine Ahu hf hc hn ha hd (x:=x) (c':={c with mode:=.panicking [⟨x,true,false⟩]}) (.inl ?_) fun tm ht=>?_
 ·simp[tryRecover,Fr,hm]
 refine((h (fun ex _ ds ρ' σ'=>(∀id,ex ≠ .exit id)∧ds=[]∧R ρ' σ') (fun _ _ _ _ b a=>⟨b,rfl,a⟩)).stops tm [] _ ht).bind ?_
 rintro _ _ ρ' σ' ⟨rfl,ex,tm',e',ds',j,b,⟨a,rfl,f⟩,i,rfl⟩
 refine Ahy hf hr a i (c':={c with mode:=.returning}) (fun W=>?_) (.stop ⟨rfl,rfl,f⟩)
 simp[doReturn,Fr,Conc.G]
theorem Ayo{g:FuncId}{fn:Func}{id d:Nat}{tys:Array TypeId}{ty:TypeId}{pos:String}{af:Array Edge}{rest:Code}{args:List Value}{R:Ro→Own→Prop}(hf:C.P.funcs[g]?=some fn)(hc:fn.body=some (.seq (.region id #[⟨some d,.call ⟨.builtin .recover,#[],tys⟩,ty,pos,af,none⟩] false) rest))(hn:fn.ntmps=n)(hr:fn.results = #[])(ha:Nat.ble args.length n=true)(hd:Nat.blt d n=true)
  (h:∀Q:Hu,(∀ex e ρ' σ',(∀id,ex ≠ .exit id)→R ρ' σ'→Q ex e [] ρ' σ')→WpC C ⟨g,.deferred,none⟩ n rest Q (upd (Pn args) d .nilIface) [] ρ σ):DefersP C g args.toArray ρ σ R:=by
 rintro c cs hm
 refine Ahu hf hc hn ha hd (x:=.nilIface) (c':=c) (.inr ⟨?_,rfl,rfl⟩) fun tm ht=>?_
 ·simp[tryRecover,Fr,hm]
 refine((h (fun ex _ ds ρ' σ'=>(∀id,ex ≠ .exit id)∧ds=[]∧R ρ' σ') (fun _ _ _ _ b a=>⟨b,rfl,a⟩)).stops tm [] _ ht).bind ?_
 rintro _ _ ρ' σ' ⟨rfl,ex,tm',e',ds',j,b,⟨a,rfl,f⟩,i,rfl⟩
 refine Ahy hf hr a i (c':=c) (fun W=>?_) (.stop ⟨rfl,rfl,f⟩)
 simp[doReturn,Fr,Conc.G,hm]
/-- It returns: marks are taken,deferred functions are called,the results are read. -/
def Aaj(C:Ctx)(fn:Func)(R:Value→Ro→Own→Prop)(e:Env):List Deferred→Ro→Own→Prop
 | [],ρ,σ=>wpS C.P ρ (Hp fn e) σ (fun v σ'=>R v ρ σ')
 | d::ds,ρ,σ=>(∃r i,d.target = .collected r∧σ[i]?=some (r,.obj (.deferred (some [])))∧Aaj C fn R e ds ρ (σ.set i (r,.obj (.deferred none)))) ∨
   ∃g fs gn,d.target = .fn (.func g) fs∧C.P.funcs[g]?=some gn∧(gn.name == "runtime.NumGoroutine")=false∧gn.body.isNone=false∧DefersP C g (d.args++fs) ρ σ (Aaj C fn R e ds)
/-- A panic with x unwinds it,up to a deferred function that recovers. -/
def Axq(C:Ctx)(fn:Func)(R:Value→Ro→Own→Prop)(e:Env)(x:Value):List Deferred→Ro→Own→Prop
 | [],_,_=>False
 | d::ds,ρ,σ=>(∃r i,d.target = .collected r∧σ[i]?=some (r,.obj (.deferred (some [])))∧Axq C fn R e x ds ρ (σ.set i (r,.obj (.deferred none)))) ∨
   ∃g fs gn,d.target = .fn (.func g) fs∧C.P.funcs[g]?=some gn∧(gn.name == "runtime.NumGoroutine")=false∧gn.body.isNone=false∧RecovP C g (d.args++fs) x ρ σ (Aaj C fn R e ds)
variable{b:FB}{S:Cy}{fn:Func}{R:Value→Ro→Own→Prop}{tm:Array Value}{todo:List Item}{c:Frame}{cs:List Frame}{ds:List Deferred}
theorem Aih(hf:C.P.funcs[b.fn]?=some fn)(hk:b.kind = .normal)(ht:∀i,tm.getD i undef=e i)(h:Aaj C fn R e ds ρ σ)(hS:∀v ρ' σ',R v ρ' σ'→GoesH C S (Frame.finish c v) cs ρ' σ') :
  GoesH C S {Fr b tm ds todo with mode:=.returning} (c::cs) ρ σ:=by
 induction ds generalizing ρ σ with
 | nil =>
  refine Lw (f:=fun v=>(Frame.finish c v,cs)) (s:=Hp fn e) (Q:=fun v σ'=>R v ρ σ') (fun W v W' es hr=>?_) h fun v σ' hv=>hS v ρ σ' hv
  rw[←Abq (n:=tm.size) ⟨rfl,ht⟩]at hr
  exact⟨seen C.P b.fn es,by simp[Conc.G,stepG,Fr,unwind,hf,-Sem.runT_eq,hr,doReturn,hk,GStep.after],fun e he=>Lh he⟩
 | cons d ds ih =>
  obtain⟨tgt,args⟩:=d
  rcases h with⟨r,i,hd,hi,h⟩|⟨g,fs,gn,hd,a,j,k,h⟩
  ·simp only at hd;subst hd
   refine Lw (f:=fun (l:List Deferred)=>({Fr b tm (l++ds) todo with mode:=.returning},c::cs)) (s:=Instr.takeDeferred r) (Q:=fun l σ'=>l=[]∧Aaj C fn R e ds ρ σ') (fun W l W' es hr=>?_) (Ajr hi ⟨rfl,h⟩) ?_
   ·exact⟨seen C.P b.fn es,by simp[Conc.G,stepG,Fr,unwind,-Sem.runT_eq,hr,GStep.after],fun e he=>Lh he⟩
   ·rintro l σ' ⟨rfl,h⟩
    exact ih h
  ·simp only at hd;subst hd
   refine Eh (fr':=Frame.enter C.P g (args++fs) .deferred) (cs':={Fr b tm ds todo with mode:=.returning}::c::cs) (fun W=>?_) ?_
   ·have hr:=Aik (args:=args) (fs:=fs) a j k W
    simp[Conc.G,stepG,Fr,unwind,callDeferred,-Sem.runT_eq,hr,GStep.after,seen]
   ·refine(h _ (c::cs) rfl).bind ?_
    rintro _ _ ρ' σ' ⟨rfl,rfl,h⟩
    exact ih h
theorem Ayu{x:Value}(hf:C.P.funcs[b.fn]?=some fn)(hk:b.kind = .normal)(ht:∀i,tm.getD i undef=e i)(h:Axq C fn R e x ds ρ σ)(hS:∀v ρ' σ',R v ρ' σ'→GoesH C S (Frame.finish c v) cs ρ' σ') :
  GoesH C S (FrP b tm ds todo x) (c::cs) ρ σ:=by
 induction ds generalizing ρ σ with
 | nil=>exact h.elim
 | cons d ds ih =>
  obtain⟨tgt,args⟩:=d
  rcases h with⟨r,i,hd,hi,h⟩|⟨g,fs,gn,hd,a,j,k,h⟩
  ·simp only at hd;subst hd
   refine Lw (f:=fun (l:List Deferred)=>(FrP b tm (l++ds) todo x,c::cs)) (s:=Instr.takeDeferred r) (Q:=fun l σ'=>l=[]∧Axq C fn R e x ds ρ σ') (fun W l W' es hr=>?_) (Ajr hi ⟨rfl,h⟩) ?_
   ·exact⟨seen C.P b.fn es,by simp[Conc.G,stepG,Fr,FrP,unwind,-Sem.runT_eq,hr,GStep.after],fun e he=>Lh he⟩
   ·rintro l σ' ⟨rfl,h⟩
    exact ih h
  ·simp only at hd;subst hd
   refine Eh (fr':=Frame.enter C.P g (args++fs) .deferred) (cs':=FrP b tm ds todo x::c::cs) (fun W=>?_) ?_
   ·have hr:=Aik (args:=args) (fs:=fs) a j k W
    simp[Conc.G,stepG,Fr,FrP,unwind,callDeferred,-Sem.runT_eq,hr,GStep.after,seen]
   ·refine(h _ (c::cs) rfl).bind ?_
    rintro _ _ ρ' σ' ⟨rfl,rfl,h⟩
    exact Aih (b:=b) (tm:=tm) (todo:=todo) hf hk ht h hS
/-- A FUNCTION THAT DEFERS A FUNCTION THAT RECOVERS,by its body. -/
theorem Aym{f:FuncId}{code:Code}{args:List Value}(hf:C.P.funcs[f]?=some fn)(hc:fn.body=some code)(hn:fn.ntmps=n)(ha:Nat.ble args.length n=true)
  (h:∀Q:Hu,(∀e ds ρ' σ',Aaj C fn R e ds ρ' σ'→Q .ret e ds ρ' σ')→(∀e ds ρ' σ',Aaj C fn R e ds ρ' σ'→Q .normal e ds ρ' σ')→WpP C (fun x e ds ρ' σ'=>Axq C fn R e x ds ρ' σ') ⟨f,.normal,none⟩ n code Q (Pn args) [] ρ σ):CallsH C f args.toArray ρ σ R:=by
 intro c' cs
 have d:Frame.enter C.P f args.toArray .normal=Fr ⟨f,.normal,none⟩ (args.toArray++Array.replicate (n-args.toArray.size) undef) [] [.code code]:=by
  simp[Frame.enter,hf,hc,hn,Fr]
 rw[d]
 refine(h (fun ex e ds ρ' σ'=>(∀id,ex ≠ .exit id)∧Aaj C fn R e ds ρ' σ') (fun _ _ _ _ h=>⟨fun id h=>(by cases h),h⟩) (fun _ _ _ _ h=>⟨fun id h=>(by cases h),h⟩) _ [] (c'::cs) (Tn (lZ5 ha))).bind ?_
 rintro _ _ ρ' σ' (⟨rfl,ex,tm',e',ds',a,g,⟨i,j⟩,c,rfl⟩|⟨rfl,x,tm',e',ds',a,ht,rfl,hX⟩)
 ·have fin:∀a,GoesH C (fun fr cs' ρ' σ'=>∃v,fr=Frame.finish c' v∧cs'=cs∧R v ρ' σ') {Fr ⟨f,.normal,none⟩ tm' ds' a with mode:=.returning} (c'::cs) ρ' σ' :=
   fun a=>Aih (b:=⟨f,.normal,none⟩) hf rfl g.2 j fun v ρ'' σ'' hv=>.stop ⟨v,rfl,rfl,hv⟩
  cases ex with
  | normal =>
   cases c
   exact Eh (fr':={Fr ⟨f,.normal,none⟩ tm' ds' [] with mode:=.returning}) (cs':=c'::cs) (fun W=>by simp[Conc.G,stepG,stepG.exec,Fr]) (fin _)
  | exit id=>exact absurd rfl (i id)
  | ret =>
   obtain⟨pre,rfl⟩:=c
   exact Eh (fr':={Fr ⟨f,.normal,none⟩ tm' ds' (.code .ret::(pre++[])) with mode:=.returning}) (cs':=c'::cs) (fun W=>by simp[Conc.G,stepG,stepG.exec,Fr]) (fin _)
 ·exact Ayu (b:=⟨f,.normal,none⟩) hf rfl ht hX fun v ρ'' σ'' hv=>.stop ⟨v,rfl,rfl,hv⟩
/-- The same,where ghosts may come last. -/
theorem Asw{f:FuncId}{code:Code}{args:List Value}(hf:C.P.funcs[f]?=some fn)(hc:fn.body=some code)(hn:fn.ntmps=n)(ha:Nat.ble args.length n=true)
  (h:∀Q:Hu,(∀e ds ρ' σ',Aaj C fn (fun v ρ σ=>∃ρ' σ',Ghost ρ σ ρ' σ'∧R v ρ' σ') e ds ρ' σ'→Q .ret e ds ρ' σ')→(∀e ds ρ' σ',Aaj C fn (fun v ρ σ=>∃ρ' σ',Ghost ρ σ ρ' σ'∧R v ρ' σ') e ds ρ' σ'→Q .normal e ds ρ' σ') →
   WpP C (fun x e ds ρ σ=>∃ρ' σ',Ghost ρ σ ρ' σ'∧Axq C fn (fun v ρ σ=>∃ρ' σ',Ghost ρ σ ρ' σ'∧R v ρ' σ') e x ds ρ' σ') ⟨f,.normal,none⟩ n code Q (Pn args) [] ρ σ):CallsH C f args.toArray ρ σ R:=by
 intro c' cs
 refine(Aym (R:=fun v ρ σ=>∃ρ' σ',Ghost ρ σ ρ' σ'∧R v ρ' σ') hf hc hn ha (fun Q a b=>Axk (h Q a b)) c' cs).bind ?_
 rintro _ _ ρ' σ' ⟨v,rfl,rfl,ρ'',σ'',hg,hR⟩
 exact .ghost hg (.stop ⟨v,rfl,rfl,hR⟩)
end
section
variable{C:Ctx}{V:Hn}{b:FB}{n:Nat}{e:Env}{ds:List Deferred}{ρ:Ro}{σ:Own}{K:Value→List Deferred→Ro→Own→Prop}{dd:Option Tmp}{ty:TypeId}{pos:String}{af:Array Edge}{gd:Option (Nat×Bool)}
/-- A call of a function value is deferred. -/
theorem Ban{x:Operand}{g:FuncId}{fs:List Value}{tys:Array TypeId}(hx:Af e x = .func (.func g) #[] fs.toArray)(h:K undef ({target:=.fn (.func g) fs.toArray,args:=#[]}::ds) ρ σ) :
  wpS C.P ρ (execOp (Af e) ⟨dd,.defer ⟨.value x,#[],tys⟩,ty,pos,af,gd⟩) σ (NextH C K none ds ρ):=by
 have a:execOp (Af e) ⟨dd,.defer ⟨.value x,#[],tys⟩,ty,pos,af,gd⟩=Sem.pure (Next.defer {target:=.fn (.func g) fs.toArray,args:=#[]}):=by
  show ((Deferred.ofValue (Af e x) ((#[]:Array Operand).map (Af e))).bind fun d=>Sem.pure (Next.defer d))=_
  rw[hx]
  simp[Deferred.ofValue,Sem.bind,pure]
 rw[a]
 exact⟨rfl,h⟩
theorem Bel{l₀:List Oper}{id:Nat}{Q:Hu}(A:Own)(pz:List Nat)(hm:C.P.follows .mixedOrders=true)(hs:Nm n l₀=true)(hk:b.kind ≠ .early)
  (h:El C b l₀.toArray (fun e ds ρ σ=>Q .normal e ds ρ σ) pz (leO ρ A) l₀.length (List.replicate l₀.length false).toArray e ds ρ σ):WpP C V b n (.region id l₀.toArray true) Q e ds ρ σ :=
 Vk pz (leO ρ A) hm (Ih hs) hk (by simpa using h)
theorem Abm{C:Ctx}{b:FB}{l₀:List Oper}{Q:Env→List Deferred→Ro→Own→Prop}{e:Env}{ds:List Deferred}{ρ ρ₀:Ro}{σ A:Own}{pz:List Nat}{fuel:Nat}
  {i:Nat} {op:Op} {ty:TypeId} {pos:String} {af:Array Edge} {g:Option (Nat×Bool)} {li:List Bool}
  (li':List Bool) (hli:li.set i true=li') (hr:Dl l₀ li=[i]) (hi:l₀[i]?=some ⟨none,op,ty,pos,af,g⟩) (hw:Bz l₀.toArray ⟨none,op,ty,pos,af,g⟩ e=true)
  (h:wpS C.P ρ (execOp (Af e) ⟨none,op,ty,pos,af,g⟩) σ (NextH C (fun _ ds' ρ' σ'=>leO ρ₀ A ρ' σ'∧El C b l₀.toArray Q pz (leO ρ₀ A) fuel li'.toArray e ds' ρ' σ') b.round ds ρ)) :
  El C b l₀.toArray Q pz (leO ρ₀ A) (fuel+1) li.toArray e ds ρ σ:=by
 refine Mz ((Hh _ _).trans hr) (by simp) fun j hj=>?_
 rw[Lc]at hj;subst hj
 unfold OpH
 simp only[Ib,hi,Mo hli]
 rw[if_pos hw]
 exact Eu (fun nx σ' hn=>hn.mono fun v ds ρ σ hh=>⟨fun _=>hh.1,hh.2⟩) _ _ h
/-- A drawn region whose last operation waits for all the others,that reads what is owned. -/
theorem Bem{l₀:List Oper}{id:Nat}{Q:Hu}(A:Own)(k:Nat)(pz:List Nat)(hm:C.P.follows .mixedOrders=true)(hs:Nm n l₀=true)(hk:b.kind = .normal)(hd:∃oL,l₀.drop k=[oL])(hg:Adh (l₀.take k)=true)(hc:Amp (l₀.take k) l₀=true)
  (h:∀K:Env→List Deferred→Ro→Own→Prop,(∀e ds ρ σ,Db C V b n l₀ (l₀.drop k) (fun e ds ρ σ=>Q .normal e ds ρ σ) e ds ρ σ→K e ds ρ σ)→El C b (l₀.take k).toArray K pz (leO ρ A) (l₀.take k).length (List.replicate (l₀.take k).length false).toArray e ds ρ σ):WpP C V b n (.region id l₀.toArray true) Q e ds ρ σ:=by
 obtain⟨oL,hd⟩:=hd
 have hl:l₀.take k++[oL]=l₀:=by rw[←hd,Aao]
 have hs':=Ih hs
 have hk':b.kind ≠ .early:=by rw[hk];simp
 have c:=h (fun e ds ρ σ=>Oz C V b n l₀.toArray [(l₀.take k).length] (fun e ds ρ σ=>Q .normal e ds ρ σ) e ds ρ σ) fun e ds ρ σ ho=>by
  have:=ho (l₀.take k) (Aao k l₀).symm hs' hk'
  rw[hd]at this;exact this
 have g:l₀.toArray.size=(l₀.take k).length+1:=by
  rw[Aaw];have:=congrArg List.length hl;simp only[lZ1,Qq]at this;omega
 intro tm ks cs ht
 refine .step (fun fr' cs' σ'=>∃t,fr'=Fr b tm ds (.inRegion l₀.toArray (Region.linearise .any l₀.toArray t)::ks)∧cs'=cs∧σ'=σ) (fun W a=>?_) ?_
 ·refine⟨_,cs,{W with drawn:=W.drawn+1},#[],σ,?_,?_,by simp,W.tape W.drawn (.order b.fn id),rfl,rfl,rfl⟩
  ·simp[Conc.G,stepG,stepG.exec,Fr,choose,Sem.run,Question.forced,Question.cut,Region.schedule,hm]
  ·have:=Trans.refl a
   exact⟨⟨a.ro,a.own,a.nd,a.dj⟩,this.size,this.keys,this.kept,this.fresh,this.frame,this.ends,this.chans,this.chansKept,this.crowds,this.crowdsKept,rfl,rfl,rfl⟩
 ·rintro _ _ j ⟨t,rfl,hcs,hσ⟩
  replace hσ:=hσ.symm;replace hcs:=hcs.symm;subst hσ hcs
  have key:=Aap (C:=C) (b:=b) (n:=n) (l':=l₀.take k) (oL:=oL) (Q:=fun e ds ρ σ=>Q .normal e ds ρ σ) (pz:=pz) (S:=leO ρ A) (by rw[hl];exact hs') hk' hg (by rw[hl];exact hc) (fun e ds ρ σ h=>by rw[hl];exact h) (l₀.take k).length t (List.replicate (l₀.take k).length false) e ds ρ σ (by simp) (by
   unfold Mh
   rw[Hs]
   intro i hi
   have:(List.replicate (l₀.take k).length false).getD i false=false:=by
    rw[Uk,List.getElem?_replicate];split<;>rfl
   rw[this];rfl) c
  rw[hl]at key
  have d:Region.linearise .any l₀.toArray t=Region.linearise.go .any l₀.toArray ((l₀.take k).length+1) t (List.replicate (l₀.take k).length false++[false]).toArray []:=by
   unfold Region.linearise
   rw[g]
   congr 1
   rw[←List.replicate_succ',List.toArray_replicate]
  rw[d]
  refine(key tm ks cs ht).mono ?_
  rintro _ _ ρ' σ' (⟨rfl,tm',e',ds',f,c,rfl⟩|hp)
  ·exact .inl ⟨rfl,.normal,tm',e',ds',ks,f,c,rfl,rfl⟩
  ·exact .inr hp
end
end
section
open Go
variable{mn:Bool}{X:Frame→List Frame→Ro→Own→Cy→Prop}{ρ:Ro}{σ:Own}
theorem Blt{q2 q3 q4 q5:Nat}{va vb vc vd:Value} :DefersP (CX mn X) 34 #[pV q2,pV q3,pV q4,pV q5] ρ ((q2,oC #[va] 9)::((q3,oC #[vb] 22)::((q4,oC #[vc] 3)::((q5,oC #[vd] 25)::σ)))) (fun ρ' σ'=>ρ'=ρ∧σ'=(q2,oC #[va] 9)::(q3,oC #[vb] 22)::(q4,oC #[vc] 3)::(q5,oC #[vd] 25)::σ):=by
 refine Ayo (n:=17) (args:=[pV q2,pV q3,pV q4,pV q5]) Bsu rfl rfl rfl rfl rfl fun Q hq=>?_
 refine Ao (Ai fun c a=>Ge rfl (fun h=>by cases h) (l_v (Akm (w:=.nilIface) (b:=true) Tryz.underlying20 (.inl ⟨rfl,rfl⟩) rfl) (l_k a (Co rfl rfl (Ge rfl (fun h=>by cases h) (Av .nilIface (Ac ?_)))))))
 refine hq _ _ _ _ (fun _ h=>by cases h) ⟨rfl,rfl⟩
theorem Blu{q2 q3 q4 q5:Nat}{va vb vc vd:Value}{ln f:Int} :RecovP (CX mn X) 34 #[pV q2,pV q3,pV q4,pV q5] (Rd ln f) ρ ((q2,oC #[va] 9)::((q3,oC #[vb] 22)::((q4,oC #[vc] 3)::((q5,oC #[vd] 25)::σ)))) (fun ρ' σ'=>ρ'=ρ∧σ'=(q2,oC #[.string ⟨#[]⟩] 9)::(q3,oC #[nS] 22)::(q4,oC #[.int .i64 ln] 3)::(q5,oC #[.int .i64 f] 25)::σ):=by
 refine Bfp (n:=17) (args:=[pV q2,pV q3,pV q4,pV q5]) Bsu rfl rfl rfl rfl rfl fun Q hq=>?_
 refine Ao (Ai fun g a=>Ge rfl (fun h=>by cases h) (l_v (Akm (w:=Rd ln f) (b:=false) Tryz.underlying20 (.inr ⟨_,_,rfl,rfl⟩) rfl) (l_k a (Cg rfl rfl (Ai fun k c=>Ge rfl (fun h=>by cases h) (l_v (Bau Bsi rfl rfl) (l_v (Bk (vs:=#[.agg #[.int .i64 ln,.int .i64 f],bT]) rfl (v:=bT) rfl) (l_v (Bk (vs:=#[.agg #[.int .i64 ln,.int .i64 f],bT]) rfl (v:=.agg #[.int .i64 ln,.int .i64 f]) rfl) (l_k c (Co rfl rfl (Ai fun m d=>Ge rfl (fun h=>by cases h) (Arv (Ct Bgk fun e=>?_)))))))))))))
 refine Cx rfl (Li (i:=0) (vs:=[iV ln,iV f]) (c':=[iV ln,iV f]) ⟨_,Ab Tryz.typeInfo100,rfl⟩ rfl rfl rfl rfl (Zh ⟨rfl,rfl,trivial⟩) rfl nL rfl ?_)
 refine l_k d (Aab (Bel ((e,oC #[iV ln,iV f] 100)::[]) [0,1,2,3] (by kernel_rfl) rfl (fun h=>by cases h) (Fj 0 (zT 1 7) rfl ⟨Bsy,sB⟩ rfl (Yld.o (Cb Bsi rfl rfl ⟨_,Ab Bry,rfl⟩ (by decide) rfl rfl)) (Fj 1 (zT 2 6) rfl ⟨Bsy,sB⟩ rfl (Fs (v:=iV ln) ⟨_,Brw,rfl⟩ rfl mC rfl) (Fj 2 (zT 3 5) rfl ⟨Bsy,sB⟩ rfl (Yld.o (Cb Bsi rfl rfl ⟨_,Ab Bsh,rfl⟩ (by decide) rfl rfl)) (Fj 3 (zT 4 4) rfl ⟨Bsy,sB⟩ rfl (Fs (v:=iV f) ⟨_,Tryz.underlying25,rfl⟩ rfl mC rfl) (Abm (i:=4) (zT 5 3) rfl (by kernel_rfl) rfl rfl (Cz (j:=1) (v:=.string (ByteArray.mk #[])) ty9.2 rfl rfl rfl rfl nL ⟨⟨Bsy,sB⟩,?_⟩))))))))
 refine Abm (i:=5) (zT 6 2) rfl (by kernel_rfl) rfl rfl (Cz (j:=2) (v:=nS) ⟨_,Ab Bsd,rfl⟩ rfl rfl rfl rfl nL ⟨⟨Bsy,sB⟩,?_⟩)
 refine Abm (i:=6) (zT 7 1) rfl (by kernel_rfl) rfl rfl (Cz (j:=3) (v:=iV ln) ⟨_,Ab Bry,rfl⟩ rfl rfl rfl rfl nL ⟨⟨Bsy,sB⟩,?_⟩)
 refine Xa 7 (zT 8 0) rfl rfl (Cz (j:=4) (v:=iV f) ⟨_,Ab Bsh,rfl⟩ rfl rfl rfl rfl nL ?_)
 refine Ajc rfl ?_
 show Vl _ .normal _ _ _ _
 refine Yn Ghost.drop (Adc (hq _ _ _ _ (fun _ h=>by cases h) ⟨rfl,rfl⟩))
end
section
open Go
/-- The lines one behind the other,up to the first that is wrong. -/
def Ot(n:Nat)(kd:List UInt8)(my:Int)(xs:List ByteArray):List (List UInt8)→(Int×Int) ⊕ (Nat×List UInt8×Int×List ByteArray)
 | []=>.inr (n,kd,my,xs)
 | l::ls=>if rdF n l=0 then Ot (n+1) (rdS n kd my xs l).1 (rdS n kd my xs l).2.1 (rdS n kd my xs l).2.2 ls else .inl (((n+1:Nat):Int),rdF n l)
/-- What Read gives. -/
def Ba(s:List UInt8):List UInt8×List ByteArray×Int×Int :=
 if 60000<s.length then ([],[],0,2)
 else match Ot 0 [] 0 [] (Bp [] s) with
  | .inl (ln,f)=>([],[],ln,f)
  | .inr (n,kd,my,xs)=>if n=0 then ([],[],0,3) else if (xs.length:Int)≠my then ([],[],0,2) else (kd,xs,0,0)
/-- The reader behind these lines. -/
def Rn(p:List (List UInt8))(n:Nat)(kd:List UInt8)(my:Int)(xs:List ByteArray):Prop:=(∀q,Ot 0 [] 0 [] (p++q)=Ot n kd my xs q)∧n=p.length∧xs.length≤n∧I64 my
theorem Arc:Rn [] 0 [] 0 []:=⟨fun _=>rfl,rfl,Nat.le.refl,by unfold I64;omega⟩
section
variable{p q:List (List UInt8)}{n:Nat}{kd kd' l s:List UInt8}{my my':Int}{xs xs':List ByteArray}
theorem Qw(hf:rdF n l=0):Ot n kd my xs (l::q)=Ot (n+1) (rdS n kd my xs l).1 (rdS n kd my xs l).2.1 (rdS n kd my xs l).2.2 q:=by rw[Ot,if_pos hf]
theorem Sp(hf:rdF n l≠0):Ot n kd my xs (l::q) = .inl (((n+1:Nat):Int),rdF n l):=by rw[Ot,if_neg hf]
theorem Ajf(h:Rn p n kd my xs)(hf:rdF n l=0)(hs:rdS n kd my xs l=(kd',my',xs')):Rn (p++[l]) (n+1) kd' my' xs':=by
 obtain⟨a,b,d,c⟩:=h
 refine⟨fun q=>?_,by simp[b],?_,?_⟩
 ·rw[lZ9,Azc,a]
  rw[Qw hf,hs]
 ·unfold rdS at hs
  split at hs
  ·simp only[Prod.mk.injEq]at hs;rw[←hs.2.2];omega
  ·simp only[Prod.mk.injEq]at hs;rw[←hs.2.2,lZ1];simp;omega
 ·unfold rdS at hs
  split at hs
  ·simp only[Prod.mk.injEq]at hs;rw[←hs.2.1];exact Ws
  ·simp only[Prod.mk.injEq]at hs;rw[←hs.2.1];exact c
theorem Arb(h:Rn p n kd my xs)(hL:Bp [] s=p++l::q)(hf:rdF n l≠0):Ot 0 [] 0 [] (Bp [] s) = .inl (((n+1:Nat):Int),rdF n l):=by
 rw[hL,h.1,Sp hf]
theorem Qt:∀{s acc:List UInt8},(Bp acc s).length≤acc.length+s.length
 | [],acc=>by
  unfold Bp
  split
  ·simp
  ·rename_i h
   have:0<acc.length:=Avz.2 h
   simp;omega
 | x::r,acc=>by
  unfold Bp
  split
  ·have:=Qt (s:=r) (acc:=[]);simp at this ⊢;omega
  ·have:=Qt (s:=r) (acc:=acc++[x]);simp at this ⊢;omega
theorem Bnv(h:Rn p n kd my xs)(hL:Bp [] s=p++l::q)(hs:s.length≤60000):n≤59999:=by
 have a:=Qt (s:=s) (acc:=[])
 rw[hL]at a
 have:=h.2.1
 simp at a;omega
theorem Afo(h:Rn (Bp [] s) n kd my xs):Ot 0 [] 0 [] (Bp [] s) = .inr (n,kd,my,xs):=by
 have:=h.1 []
 rw[Lz]at this
 rw[this];rfl
theorem Auf(h:60000<s.length):Ba s=([],[],0,2):=by unfold Ba;rw[if_pos h]
theorem Bfn{ln f:Int}(hs:s.length≤60000)(h:Ot 0 [] 0 [] (Bp [] s) = .inl (ln,f)):Ba s=([],[],ln,f):=by unfold Ba;rw[if_neg (by omega),h]
theorem Aug(hs:s.length≤60000)(h:Rn (Bp [] s) n kd my xs)(hn:n=0):Ba s=([],[],0,3):=by unfold Ba;rw[if_neg (by omega),Afo h];simp only[];rw[if_pos hn]
theorem Auh(hs:s.length≤60000)(h:Rn (Bp [] s) n kd my xs)(hn:n≠0)(hx:(xs.length:Int)≠my):Ba s=([],[],0,2):=by unfold Ba;rw[if_neg (by omega),Afo h];simp only[];rw[if_neg hn,if_pos hx]
theorem Aui(hs:s.length≤60000)(h:Rn (Bp [] s) n kd my xs)(hn:n≠0)(hx:(xs.length:Int)=my):Ba s=(kd,xs,0,0):=by unfold Ba;rw[if_neg (by omega),Afo h];simp only[];rw[if_neg hn,if_neg (by simp[hx])]
end
theorem DefersP.ghost{C:Ctx}{g:FuncId}{args:Array Value}{ρ ρ':Ro}{σ σ':Own}{R:Ro→Own→Prop}(hg:Ghost ρ σ ρ' σ')(h:DefersP C g args ρ' σ' R):DefersP C g args ρ σ R:=fun c cs hm=>.ghost hg (h c cs hm)
theorem RecovP.ghost{C:Ctx}{g:FuncId}{args:Array Value}{x:Value}{ρ ρ':Ro}{σ σ':Own}{R:Ro→Own→Prop}(hg:Ghost ρ σ ρ' σ')(h:RecovP C g args x ρ' σ' R):RecovP C g args x ρ σ R:=fun c cs hm=>.ghost hg (h c cs hm)
theorem DefersP.mono{C:Ctx}{g:FuncId}{args:Array Value}{ρ:Ro}{σ:Own}{R R':Ro→Own→Prop}(h:DefersP C g args ρ σ R)(hr:∀ρ σ,R ρ σ→R' ρ σ):DefersP C g args ρ σ R':=fun c cs hm=>(h c cs hm).mono fun _ _ _ _ ⟨a,b,d⟩=>⟨a,b,hr _ _ d⟩
theorem RecovP.mono{C:Ctx}{g:FuncId}{args:Array Value}{x:Value}{ρ:Ro}{σ:Own}{R R':Ro→Own→Prop}(h:RecovP C g args x ρ σ R)(hr:∀ρ σ,R ρ σ→R' ρ σ):RecovP C g args x ρ σ R':=fun c cs hm=>(h c cs hm).mono fun _ _ _ _ ⟨a,b,d⟩=>⟨a,b,hr _ _ d⟩
abbrev pt0(k:Nat):Value:=.pointer (some ⟨k,0,none⟩)
/-- The cells of Read's results. -/
abbrev Bjq(k2 k3 k4 k5:Nat)(a b c d:Value)(τ:Own):Own:=(k2,Res.obj (.cells #[a] 9 (0,0)))::(k3,Res.obj (.cells #[b] 22 (0,0)))::(k4,Res.obj (.cells #[c] 3 (0,0)))::(k5,Res.obj (.cells #[d] 25 (0,0)))::τ
/-- What Read defers. -/
abbrev Awy(k2 k3 k4 k5:Nat):Deferred:={target:=.fn (.func 34) [pt0 k2,pt0 k3,pt0 k4,pt0 k5].toArray,args:=#[]}
/-- What is said of Read's results. -/
def Rp(s:List UInt8)(ρ₀:Ro)(σ₀:Own)(w:Value)(ρ':Ro)(σ':Own):Prop:=Ro.le ρ₀ ρ'∧∃v gr,σ'=gr++σ₀∧Grow ρ' 9 v (Ba s).2.1 gr∧w = .tuple #[.string (bs (Ba s).1),v,.int .i64 (Ba s).2.2.1,.int .i64 (Ba s).2.2.2]∧((Ba s).2.2.2≠0→v = .slice none 0 0∧gr=[])
section
variable{mn:Bool}{X:Frame→List Frame→Ro→Own→Cy→Prop}{fn:Func}{R:Value→Ro→Own→Prop}{e:Env}{k2 k3 k4 k5 r:Nat}{a b c d:Value}{ρ:Ro}{τ:Own}
theorem Zg(hr:fn.results=[ResultVar.cell 2 9,ResultVar.cell 3 22,ResultVar.cell 4 3,ResultVar.cell 5 25].toArray)(h2:e 2=pt0 k2)(h3:e 3=pt0 k3)(h4:e 4=pt0 k4)(h5:e 5=pt0 k5)(h:∃ρ' σ',Ghost ρ τ ρ' σ'∧R (.tuple #[a,b,c,d]) ρ' σ') :
  Aaj (CX mn X) fn (fun v ρ σ=>∃ρ' σ',Ghost ρ σ ρ' σ'∧R v ρ' σ') e [] ρ (Bjq k2 k3 k4 k5 a b c d τ):=by
 obtain⟨ρ',σ',hg,hR⟩:=h
 refine Vf (vs:=[a,b,c,d]) hr ⟨Rj (i:=0) (c:=[a]) ⟨_,Brs,rfl⟩ h2 rfl rfl,Rj (i:=1) (c:=[b]) ⟨_,Brt,rfl⟩ h3 rfl rfl,Rj (i:=2) (c:=[c]) ⟨_,Brw,rfl⟩ h4 rfl rfl,Rj (i:=3) (c:=[d]) ⟨_,Tryz.underlying25,rfl⟩ h5 rfl rfl,trivial⟩ ?_
 exact⟨ρ',σ',.trans .drop (.trans .drop (.trans .drop (.trans .drop hg))),hR⟩
theorem Arh(hr:fn.results=[ResultVar.cell 2 9,ResultVar.cell 3 22,ResultVar.cell 4 3,ResultVar.cell 5 25].toArray)(h2:e 2=pt0 k2)(h3:e 3=pt0 k3)(h4:e 4=pt0 k4)(h5:e 5=pt0 k5)(h:∃ρ' σ',Ghost ρ τ ρ' σ'∧R (.tuple #[a,b,c,d]) ρ' σ') :
  Aaj (CX mn X) fn (fun v ρ σ=>∃ρ' σ',Ghost ρ σ ρ' σ'∧R v ρ' σ') e [{target:=.collected r,args:=#[]},Awy k2 k3 k4 k5] ρ ((r,.obj (.deferred (some [])))::Bjq k2 k3 k4 k5 a b c d τ):=by
 refine .inl ⟨r,0,rfl,rfl,.inr ⟨_,_,_,rfl,Bsu,rfl,rfl,?_⟩⟩
 rw[show (Awy k2 k3 k4 k5).args++[pt0 k2,pt0 k3,pt0 k4,pt0 k5].toArray = #[pt0 k2,pt0 k3,pt0 k4,pt0 k5] from by simp]
 refine DefersP.ghost .drop (DefersP.mono Blt ?_)
 rintro _ _ ⟨rfl,rfl⟩
 exact Zg hr h2 h3 h4 h5 h
theorem Arg{x:Value}{ln f:Int}(hx:x=Rd ln f)(hr:fn.results=[ResultVar.cell 2 9,ResultVar.cell 3 22,ResultVar.cell 4 3,ResultVar.cell 5 25].toArray)(h2:e 2=pt0 k2)(h3:e 3=pt0 k3)(h4:e 4=pt0 k4)(h5:e 5=pt0 k5)(h:∃ρ' σ',Ghost ρ τ ρ' σ'∧R (.tuple #[.string ⟨#[]⟩,.slice none 0 0,.int .i64 ln,.int .i64 f]) ρ' σ') :
  Axq (CX mn X) fn (fun v ρ σ=>∃ρ' σ',Ghost ρ σ ρ' σ'∧R v ρ' σ') e x [{target:=.collected r,args:=#[]},Awy k2 k3 k4 k5] ρ ((r,.obj (.deferred (some [])))::Bjq k2 k3 k4 k5 a b c d τ):=by
 subst hx
 refine .inl ⟨r,0,rfl,rfl,.inr ⟨_,_,_,rfl,Bsu,rfl,rfl,?_⟩⟩
 rw[show (Awy k2 k3 k4 k5).args++[pt0 k2,pt0 k3,pt0 k4,pt0 k5].toArray = #[pt0 k2,pt0 k3,pt0 k4,pt0 k5] from by simp]
 refine RecovP.ghost .drop (RecovP.mono Blu ?_)
 rintro _ _ ⟨rfl,rfl⟩
 exact Zg hr h2 h3 h4 h5 h
end
end
section
open Go
theorem Vr:∀{p r acc:List UInt8},(∀x∈p,x≠10)→Bp acc (p++10::r)=(acc++p++[10])::Bp [] r
 | [],r,acc,_=>by rw[Pj,Bp,if_pos rfl,Lz]
 | x::p,r,acc,h=>by
  rw[Nu,Bp,if_neg (h x mC),Vr fun y hy=>h y (lZ0 _ hy)]
  simp
theorem Bpu{c:UInt8}(h:pcC c=true):c≠10:=by
 intro e;subst e;revert h;decide
theorem Abo{c:Nat}(h:c<97):(Gh c).all pcC=true∧(Gh c).all Df=true∧ckV ([32,35]++Gh c)=c:=by
 revert c;decide +kernel
/-- A line without its end. -/
def Es(n:Nat)(p:List UInt8):List UInt8:=p++([32,35]++Gh (Dr n p))
section
variable{n:Nat}{p:List UInt8}
theorem Mb:Fp n p=Es n p++[10]:=by unfold Fp Es;rw[lZ9 p]
theorem Aqk(h:Dd p=true):Dd (Es n p)=true:=by
 have:=(Abo (Mw n p)).1
 unfold Dd at h ⊢
 unfold Es
 rw[Aqg,Aqg,h,this];rfl
theorem Nh(h:Dd p=true):∀x∈Es n p,x≠10:=fun x hx=>Bpu (Hs.1 (Aqk (n:=n) h) x hx)
theorem Ts:(Es n p).length=p.length+4:=by simp[Es,Gh]
theorem Qs:Bc (Fp n p)=Es n p:=by rw[Mb];exact Aol
theorem Azh:Gr (Fp n p)=true:=by
 rw[Mb];unfold Gr
 simp
theorem Ma:rdT (Fp n p)=p:=by
 unfold rdT
 rw[Qs,Ts,show p.length+4-4=p.length by omega,Vi]
 unfold Es
 exact Aqi
theorem Awi:rdC (Fp n p)=[32,35]++Gh (Dr n p):=by
 unfold rdC
 rw[Qs,Nn,Ts,show p.length+4-4=p.length by omega]
 unfold Es
 exact List.drop_left
theorem Afb(h:Dd p=true):Jo (Fp n p)=true:=Atc Azh (by rw[Qs];exact Aqk h) (by rw[Qs,Ts];omega)
theorem Afc:Gt (rdC (Fp n p))=true:=by
 rw[Awi]
 have:=(Abo (Mw n p)).2.1
 show (([32,35]:List UInt8)==[32,35]&&(Gh (Dr n p)).all Df)=true
 rw[this];rfl
theorem Awj:ckR (rdC (Fp n p))=Dr n p:=by
 have a:=Afc (n:=n) (p:=p)
 unfold ckR
 rw[if_pos a,Awi]
 exact(Abo (Mw n p)).2.2
/-- A line that is not the first. -/
theorem Bdt(hn:n≠0)(h:Dd p=true)(hl:p.length≤200):rdF n (Fp n p)=0 :=
 Bnx (Afb h) Afc (fun h=>absurd h hn) (by rw[Ma];exact hl) (by rw[Awj,Ma]) hn
theorem Azi{kd:List UInt8}{my:Int}{xs:List ByteArray}(hn:n≠0):rdS n kd my xs (Fp n p)=(kd,my,xs++[bs p]):=by
 unfold rdS;rw[if_neg hn,Ma]
end
theorem Bgu(a:ByteArray):bs a.data.toList=a:=by cases a;rfl
theorem Ajg:∀{ls:List ByteArray} {n:Nat} {kd:List UInt8} {my:Int} {xs:List ByteArray},n≠0→ls.all Fc=true→Ot n kd my xs (Bp [] (Ez ls n)) = .inr (n+ls.length,kd,my,xs++ls)
 | [],n,kd,my,xs,_,_=>by simp[Ez,Bp,Ot]
 | a::ls,n,kd,my,xs,hn,h=>by
  simp only[Un,Fd]at h
  obtain⟨h1,h2⟩:=h
  unfold Fc at h1
  simp only[Fd,decide_eq_true_eq]at h1
  rw[Ez,Mb,lZ9,Azc,Vr (Nh h1.2),Pj,←Mb,Qw (Bdt hn h1.2 h1.1),Azi hn]
  simp only[]
  rw[Ajg (by omega) h2,Bgu,lZ9,lZ2]
  simp only[Azc,Aqb,Aei 1]
theorem Ado:∀n,n<91→Er (Ew n)=true∧Jb (Ew n)=(n:Int)∧(Ew n).all (fun c=>c != 32&&pcC c)=true∧(Ew n).length≤2:=by decide +kernel
section
variable{k:List UInt8}{n:Nat}
theorem Tw(h:Hg (bs k)=true):k≠[]∧k.length≤14∧∀c∈k,c≠32∧pcC c=true:=by
 unfold Hg at h
 simp only[Fd]at h
 obtain⟨⟨b,_⟩,d⟩:=h
 rw[Gp]at b d
 have f:=Fz.1 b
 refine⟨fun e=>by rw[e]at f;simp at f,by omega,fun c hc=>?_⟩
 obtain⟨j,hj⟩:=Aau hc
 have hlt:=(Ig.1 hj).1
 have a:=Hs.1 d j (Aip.2 hlt)
 unfold Alm at a
 have i:(bs k)[j]?=some c:=by
  rw[←hj]
  show (if h:j<(bs k).size then some ((bs k)[j]) else none)=_
  rw[dif_pos (by rw[Gp];exact hlt),Um hlt]
  rfl
 rw[i]at a
 simp only[Ov,Bdh,Bda,Bdq,decide_eq_false_iff_not,bne_eq_false_iff_eq]at a
 have g:(c.toNat:Int)<127∧32<(c.toNat:Int):=by omega
 refine⟨fun e=>by rw[e]at g;revert g;decide,?_⟩
 simp only[pcC,Fd,decide_eq_true_eq]
 omega
def Hl(k:List UInt8)(n:Nat):List UInt8:=([98,111,111,107,32]++k)++[32]++Ew n
theorem Sg(h:Hg (bs k)=true)(hn:n≤90):Cu (Hl k n)=[Nt,k,Ew n]:=by
 have a:=(Tw h).2.2
 have b:=(Ado n (by omega)).2.2.1
 have e:Hl k n=Nt++32::(k++32::Ew n):=by unfold Hl Nt;simp
 rw[e]
 unfold Cu
 rw[Qz (by decide),Qz fun c hc=>(a c hc).1,Vv fun c hc=>?_]
 ·rfl
 ·have:=Hs.1 b c hc
  simp only[Fd,bne_iff_ne,ne_eq]at this
  exact this.1
theorem Sf(h:Hg (bs k)=true)(hn:n≤90):Dd (Hl k n)=true:=by
 have d:=(Tw h).2.2
 have e:=(Ado n (by omega)).2.2.1
 unfold Dd Hl
 rw[Aqg,Aqg,Aqg]
 have a:k.all pcC=true:=Hs.2 fun c hc=>(d c hc).2
 have b:(Ew n).all pcC=true:=Hs.2 fun c hc=>by
  have:=Hs.1 e c hc
  simp only[Fd]at this
  exact this.2
 rw[a,b];rfl
theorem Ys(h:Hg (bs k)=true)(hn:n≤90):(Hl k n).length≤30:=by
 have a:=(Tw h).2.1
 have b:=(Ado n (by omega)).2.2.2
 unfold Hl
 simp only[lZ1,lZ2,Dy]
 omega
theorem Bih(h:Hg (bs k)=true)(hn:n≤90):rdF 0 (Mi k n)=0∧∀kd my xs,rdS 0 kd my xs (Mi k n)=(k,(n:Int),xs):=by
 have hs:=Sg h hn
 have e:Mi k n=Fp 0 (Hl k n):=rfl
 obtain⟨a,b,_,_⟩:=Ado n (by omega)
 have hK:Dm (Hl k n)=k:=by unfold Dm;rw[hs];rfl
 have hN:Dp (Hl k n)=(n:Int):=by unfold Dp;rw[hs];exact b
 have hB:Ds (Hl k n)=true:=by
  unfold Ds;rw[hs]
  have:(k != [])=true:=bne_iff_ne.2 (Tw h).1
  simp only[this,a,Amy]
  rfl
 rw[e]
 refine⟨Bob (Afb (Sf h hn)) Afc (fun _=>by rw[Ma];exact hB) (by rw[Ma];have:=Ys h hn;omega) (by rw[Awj,Ma]) rfl (by rw[Ma,hK];exact h) (by rw[Ma,hN];exact Fz.2 ⟨by omega,by omega⟩),fun kd my xs=>?_⟩
 unfold rdS
 rw[if_pos rfl,Ma,hK,hN]
end
/-- What is written is read as it was. -/
theorem Auj{k:List UInt8}{ls:List ByteArray}(h:Bw k ls=0):(Au k ls).length≤60000∧Ba (Au k ls)=(k,ls,0,0):=by
 have hk:Hg (bs k)=true:=by
  cases hk:Hg (bs k) with
  | true=>rfl
  | false=>rw[(Ano hk).1]at h;cases h
 have hl:ls.length≤90:=by
  rcases Mg 90 ls.length with hl|hl
  ·rw[(Ann hk hl).1]at h;cases h
  ·exact hl
 have ho:ls.all Fc=true:=by
  cases ho:ls.all Fc with
  | true=>rfl
  | false=>rw[(Zn hk hl ho).1]at h;cases h
 have hw:=(Agp hk hl ho).2
 have d:(Au k ls).length≤60000:=by
  rw[hw]
  unfold Pb Mi
  rw[lZ1,Im]
  have b:=Ys (n:=ls.length) hk hl
  unfold Hl at b
  have c:=Yc ls ls.length 1 fun j hj=>by
   unfold Pq
   split
   ·rename_i a ha
    exact Hs.1 ho a (lZ6 ha)
   ·rfl
  rw[Nn]at c
  omega
 refine⟨d,?_⟩
 have hgo:Ot 0 [] 0 [] (Bp [] (Au k ls)) = .inr (1+ls.length,k,(ls.length:Int),ls):=by
  rw[hw]
  unfold Pb
  have e:Mi k ls.length=Fp 0 (Hl k ls.length):=rfl
  obtain⟨b,c⟩:=Bih (n:=ls.length) hk hl
  rw[e,Mb,lZ9,Azc,Vr (Nh (Sf hk hl)),Pj,←Mb,←e,Qw b,c]
  simp only[]
  rw[Ajg (by omega) ho]
  rfl
 unfold Ba
 rw[if_neg (by omega),hgo]
 simp only[]
 rw[if_neg (by omega),if_neg (by simp)]
end
section
open Go
def Ps(ls:List ByteArray):Bool:=ls.any (fun a=>decide (300<a.data.toList.length))||decide (100<ls.length)
def Xm(ls:List ByteArray)(j:Nat):Bool:=match ls[j]? with|some a=>decide (a.data.toList.length≤300)|none=>true
section
variable{ls:List ByteArray}{i:Nat}{a:ByteArray}
theorem Bfu(h:ls[i]?=some a)(h1:a.data.toList.length≤300):Xm ls i=true:=by unfold Xm;rw[h];exact Lg h1
theorem Biu(h:ls[i]?=some a)(h1:300<a.data.toList.length):Ps ls=true:=by
 unfold Ps
 rw[Bdk.2 ⟨a,lZ6 h,Lg h1⟩];rfl
theorem Biv(h:∀j,j<ls.length→Xm ls j=true):Ps ls=decide (100<ls.length):=by
 unfold Ps
 have:ls.any (fun a=>decide (300<a.data.toList.length))=false:=by
  rw[Aze]
  intro a ha
  obtain⟨j,hj⟩:=Aau ha
  have:=h j (Ig.1 hj).1
  unfold Xm at this;rw[hj]at this
  have:=lZ3 this
  intro hh
  have:=lZ3 hh
  omega
 rw[this,Awe]
theorem Bdy(h:Ps ls=false):ls.length≤100∧∀(j:Nat) (a:ByteArray),ls[j]?=some a→a.data.toList.length≤60000:=by
 unfold Ps at h
 simp only[Bdq,decide_eq_false_iff_not]at h
 refine⟨by omega,fun j a ha=>?_⟩
 have:=Aze.1 h.1 a (lZ6 ha)
 have h':¬300<a.data.toList.length:=fun hh=>this (Lg hh)
 omega
theorem Bas{k:List UInt8}(h:Bw k ls≠0):Au k ls=[]:=by unfold Au;rw[if_neg h]
end
end
section
open Go
inductive Tr(α:Type) where
 | leaf
 | node (v:Option α) (l r:Tr α)
noncomputable def Tr.get{α:Type}(t:Tr α):Nat→Option α:=Tr.rec (motive:=fun _=>Nat→Option α) (fun _=>none)
 (fun v _ _ gl gr k=>Bool.rec (Bool.rec (gl (Nat.div k 2)) (gr (Nat.sub (Nat.div k 2) 1)) (Nat.beq (Nat.mod k 2) 0)) v (Nat.beq k 0)) t
noncomputable def Tr.put{α:Type}(n:Nat):Tr α→Nat→α→Tr α:=Nat.rec (motive:=fun _=>Tr α→Nat→α→Tr α) (fun t _ _=>t)
 (fun _ ih t k a=>Tr.rec (motive:=fun _=>Tr α)
  (Bool.rec (Bool.rec (.node none (ih .leaf (Nat.div k 2) a) .leaf) (.node none .leaf (ih .leaf (Nat.sub (Nat.div k 2) 1) a)) (Nat.beq (Nat.mod k 2) 0)) (.node (some a) .leaf .leaf) (Nat.beq k 0))
  (fun v l r _ _=>Bool.rec (Bool.rec (.node v (ih l (Nat.div k 2) a) r) (.node v l (ih r (Nat.sub (Nat.div k 2) 1) a)) (Nat.beq (Nat.mod k 2) 0)) (.node (some a) l r) (Nat.beq k 0)) t) n
noncomputable def Tr.set{α:Type}(t:Tr α)(k:Nat)(a:α):Tr α:=Tr.put (Nat.succ k) t k a
inductive CV where
 | bad
 | b (x:Bool)
 | i (k:IntKind) (n:Int)
 | s (x:List UInt8)
 | pn
 | p (k off:Nat)
 | sn
 | sl (k off ln:Nat) (kn:Bool) (c:Nat)
 | mn
 | m (k:Nat)
 | cn
 | c (k:Nat)
 | fn
 | f (g:Nat) (xs ys:List CV)
 | y (k:Nat)
 | n
 | a (t:Nat) (v:CV)
 | g (l:List CV)
 | t (l:List CV)
deriving Inhabited
def CV.undef:CV:=.t []
/-- The cells of a value. -/
noncomputable def CV.cells:CV→Option (List CV)
 | .g l=>some l
 | .bad=>none
 | v=>some [v]
noncomputable def CV.isCell:CV→Bool
 | .g _=>false
 | .t _=>false
 | .bad=>false
 | _=>true
noncomputable def xAllC(l:List CV):Bool:=List.rec (motive:=fun _=>Bool) true (fun a _ ih=>match a.isCell with|true=>ih|false=>false) l
/-- The value of a constant. -/
noncomputable def xOf0:Value→CV
 | .bool x=>.b x
 | .int k n=>.i k n
 | .string x=>.s x.data.toList
 | .pointer none=>.pn
 | .slice none 0 0=>.sn
 | .map none=>.mn
 | .chan none=>.cn
 | .nilFunc=>.fn
 | .nilIface=>.n
 | .func (.func g) xs ys=>match xs.toList,ys.toList with
  | [],[]=>.f g [] []
  | _,_=>.bad
 | _=>.bad
noncomputable def xOf1:Value→CV
 | .iface t v=>.a t (xOf0 v)
 | v=>xOf0 v
noncomputable def xOfV:Value→CV
 | .agg l=>.g (l.toList.map xOf1)
 | .tuple l=>.t (l.toList.map xOf1)
 | v=>xOf1 v
noncomputable def xDrp{α:Type}(n:Nat):List α→List α:=Nat.rec (motive:=fun _=>List α→List α) (fun l=>l) (fun _ ih l=>List.rec (motive:=fun _=>List α) [] (fun _ l _=>ih l) l) n
/-- The first n,if there are so many. -/
noncomputable def xTkn{α:Type}(n:Nat):List α→Option (List α):=Nat.rec (motive:=fun _=>List α→Option (List α)) (fun _=>some [])
 (fun _ ih l=>List.rec (motive:=fun _=>Option (List α)) none (fun a l _=>match ih l with|some r=>some (a::r)|none=>none) l) n
noncomputable def xNth{α:Type}(n:Nat):List α→Option α:=Nat.rec (motive:=fun _=>List α→Option α) (fun l=>List.rec (motive:=fun _=>Option α) none (fun a _ _=>some a) l)
 (fun _ ih l=>List.rec (motive:=fun _=>Option α) none (fun _ l _=>ih l) l) n
noncomputable def xApp{α:Type}(x y:List α):List α:=List.rec (motive:=fun _=>List α) y (fun a _ ih=>a::ih) x
noncomputable def xLen{α:Type}(x:List α):Nat:=List.rec (motive:=fun _=>Nat) 0 (fun _ _ ih=>Nat.succ ih) x
/-- vs in place of what stands at n and behind it. -/
noncomputable def xOver(vs:List CV):List CV→Option (List CV):=List.rec (motive:=fun _=>List CV→Option (List CV)) (fun l=>some l)
 (fun v _ ih l=>List.rec (motive:=fun _=>Option (List CV)) none (fun _ l _=>match ih l with|some r=>some (v::r)|none=>none) l) vs
noncomputable def xSetL(n:Nat)(vs:List CV):List CV→Option (List CV):=Nat.rec (motive:=fun _=>List CV→Option (List CV)) (fun l=>xOver vs l)
 (fun _ ih l=>List.rec (motive:=fun _=>Option (List CV)) none (fun a l _=>match ih l with|some r=>some (a::r)|none=>none) l) n
inductive CO where
 | cells (l:List CV)
 | grow (n:Nat) (l:List CV)
 | map (es:List (CV×CV))
 | loop (busy:Nat) (pend:Option Code) (n:Nat) (env:Tr CV) (ps:List Tmp) (as_ body:Code) (dk:Nat)
 | defd
 | chan
 | dead
 | rcv (vs:List CV)
 | crowd (k:Nat) (ms:List (CV×List (Nat×Option Nat×List CV)×Nat×Nat))
 | iter (k n:Nat) (seen:List Nat)
inductive Cell where
 | own (o:CO)
 | ro (o:CO)
structure Mem where
 M:Tr Cell
 nx:Nat
 log:List Nat
 ln:Nat
 outs:List CV
inductive CD where
 | mark (k:Nat)
 | close (k:Nat)
structure St where
 e:Tr CV
 m:Mem
 ds:List CD
noncomputable def Mem.obj(m:Mem)(k:Nat):Option CO:=match m.M.get k with|some (.own o)=>some o|some (.ro o)=>some o|none=>none
noncomputable def xRowO:CO→Option (List CV)
 | .cells l=>some l
 | .grow _ l=>some l
 | _=>none
noncomputable def Mem.row(m:Mem)(k:Nat):Option (List CV):=match m.M.get k with
 | some (.own o)=>xRowO o
 | some (.ro o)=>xRowO o
 | none=>none
noncomputable def Mem.add(m:Mem)(o:CO):Mem:=⟨m.M.set m.nx (.own o),Nat.succ m.nx,m.log,m.ln,m.outs⟩
noncomputable def Mem.put(m:Mem)(k:Nat)(o:CO):Mem:=⟨m.M.set k (.own o),m.nx,k::m.log,Nat.succ m.ln,m.outs⟩
noncomputable def Mem.store(m:Mem)(k off:Nat)(vs:List CV):Option Mem:=match xAllC vs with
 | false=>none
 | true=>match m.M.get k with
  | some (.own (.cells l))=>match xSetL off vs l with|some r=>some (m.put k (.cells r))|none=>none
  | some (.own (.grow n l))=>match xSetL off vs l with|some r=>some (m.put k (.grow n r))|none=>none
  | _=>none
noncomputable def Mem.read(m:Mem)(k off n:Nat):Option (List CV):=match m.row k with
 | some l=>xTkn n (xDrp off l)
 | none=>none
inductive OR where
 | v (x:CV) (m:Mem)
 | rd (x:CV) (k:Nat)
 | enter (f:FuncId) (args:List CV)
 | round (k:Nat) (args:List CV)
 | go (f:CV) (args:List CV)
 | recv (k:Nat) (ok:Bool)
 | send (k:Nat) (x:CV)
 | dclose (x:CV)
 | bad
structure K1 where
 run:Tr CV→CV
structure KL where
 run:Tr CV→List CV
structure KO where
 run:Tr CV→Mem→OR
noncomputable def rdK:Operand→K1
 | .tmp t=>⟨fun e=>match e.get t with|some v=>v|none=>.bad⟩
 | .const v=>⟨fun _=>xOfV v⟩
 | .global g=>match Nat.ble (Nat.succ g) 16 with|true=>⟨fun _=>.p g 0⟩|false=>⟨fun _=>.bad⟩
 | .func f=>⟨fun _=>.f f [] []⟩
noncomputable def rdsK:List Operand→KL
 | []=>⟨fun _=>[]⟩
 | x::l=>match rdK x,rdsK l with|⟨f⟩,⟨g⟩=>⟨fun e=>f e::g e⟩
noncomputable def xEqS(x:List UInt8):List UInt8→Bool:=List.rec (motive:=fun _=>List UInt8→Bool) (fun y=>List.rec (motive:=fun _=>Bool) true (fun _ _ _=>false) y)
 (fun a _ ih y=>List.rec (motive:=fun _=>Bool) false (fun b y _=>Bool.rec false (ih y) (Nat.beq a.toNat b.toNat)) y) x
noncomputable def xEqI:Int→Int→Bool
 | .ofNat x,.ofNat y=>Nat.beq x y
 | .negSucc x,.negSucc y=>Nat.beq x y
 | _,_=>false
noncomputable def xLtI:Int→Int→Bool
 | .ofNat x,.ofNat y=>Nat.ble (Nat.succ x) y
 | .negSucc x,.negSucc y=>Nat.ble (Nat.succ y) x
 | .negSucc _,.ofNat _=>true
 | .ofNat _,.negSucc _=>false
noncomputable def xRepL(z:List CV)(n:Nat):List CV:=Nat.rec (motive:=fun _=>List CV) [] (fun _ ih=>xApp z ih) n
noncomputable def xBytesC(l:List UInt8):List CV:=List.rec (motive:=fun _=>List CV) [] (fun b _ ih=>.i .u8 (.ofNat b.toNat)::ih) l
noncomputable def xVOf(m:Mem):Option CV→OR
 | some x=>.v x m
 | none=>.bad
noncomputable def xAggT(P:Program)(t:TypeId):Option Bool:=match P.underlying t with
 | some d=>some (Qv d)
 | none=>none
noncomputable def xSzT(P:Program)(t:TypeId):Option Nat:=match P.info? t with|some i=>some i.size|none=>none
noncomputable def xZeroT(P:Program)(t:TypeId):Option CV:=match P.info? t with
 | some i=>match i.zero with|some v=>some (xOfV v)|none=>none
 | none=>none
/-- How many cells the zero value has. -/
noncomputable def xZeroC(P:Program)(t:TypeId):Option Nat:=match P.info? t with
 | some i=>match i.zero with|some v=>some v.cells.size|none=>none
 | none=>none
structure LK where
 run:List CV→Option CV
/-- A part that begins a row,as a value of a type. -/
noncomputable def partK(P:Program)(t:TypeId):LK:=match xAggT P t with
 | some true=>match xSzT P t with
  | some n=>⟨fun l=>match xTkn n l with|some r=>some (.g r)|none=>none⟩
  | none=>⟨fun _=>none⟩
 | some false=>⟨fun l=>match l with|v::_=>some v|[]=>none⟩
 | none=>⟨fun _=>none⟩
structure FK where
 run:List CV→Tr CV→Option (List CV)
/-- Parts,each with the size that is asked,over cells. -/
noncomputable def fillK(off:Nat→Option (Nat×Nat)):List (Nat×Operand)→FK
 | []=>⟨fun l _=>some l⟩
 | (i,x)::r=>match off i with
  | none=>⟨fun _ _=>none⟩
  | some (o,z)=>⟨fun l e=>match ((rdK x).run e).cells with
   | none=>none
   | some c=>match Nat.beq (xLen c) z with
    | false=>none
    | true=>match xSetL o c l with
     | some l=>(fillK off r).run l e
     | none=>none⟩
noncomputable def fldAt(P:Program)(fs:List Field)(i:Nat):Option (Nat×Nat):=match fs[i]? with
 | some f=>match xSzT P f.type with|some n=>some (f.offset,n)|none=>none
 | none=>none
noncomputable def allSz(P:Program):List Field→Bool
 | []=>true
 | f::fs=>match xSzT P f.type with|some _=>allSz P fs|none=>false
/-- A struct of numbers alone,cell by cell: their kinds. -/
noncomputable def flatK(P:Program):Nat→List Field→Option (List IntKind)
 | _,[]=>some []
 | n,f::fs=>match f.name == "_",Nat.beq f.offset n,P.underlying f.type,flatK P (Nat.succ n) fs with
  | false,true,some (.int k),some l=>some (k::l)
  | _,_,_,_=>none
noncomputable def flatT(P:Program)(t:TypeId):Option (List IntKind):=match P.stoodInHeld t,P.eqGuardType P.depth t,P.underlying t with
 | false,false,some (.struct fs)=>flatK P 0 fs.toList
 | _,_,_=>none
noncomputable def xKind:IntKind→IntKind→Bool
 | .i8,.i8 | .i16,.i16 | .i32,.i32 | .i64,.i64 | .u8,.u8 | .u16,.u16 | .u32,.u32 | .u64,.u64=>true
 | _,_=>false
noncomputable def eqF0:List CV→List CV→Option Bool
 | [],[]=>some true
 | _,_=>none
noncomputable def eqF1(k:IntKind)(ih:List CV→List CV→Option Bool):List CV→List CV→Option Bool
 | .i k1 a::x,.i k2 b::y=>match xKind k k1,xKind k k2 with
  | true,true=>match ih x y with|some r=>some (match xEqI a b with|true=>r|false=>false)|none=>none
  | _,_=>none
 | _,_=>none
noncomputable def eqF(ks:List IntKind):List CV→List CV→Option Bool:=List.rec (motive:=fun _=>List CV→List CV→Option Bool) eqF0 (fun k _ ih=>eqF1 k ih) ks
/-- What a cell of a struct is. -/
inductive CK where
 | i (k:IntKind)
 | s
 | b
noncomputable def xCatO:Option (List CK)→Option (List CK)→Option (List CK)
 | some a,some b=>some (a++b)
 | _,_=>none
/-- The cells of a struct of numbers,strings,truth values and such structs;n: where the next field begins. -/
noncomputable def deepF(P:Program)(g:TypeId→Option (List CK)):Nat→List Field→Option (List CK)
 | _,[]=>some []
 | n,f::fs=>match f.name == "_",Nat.beq f.offset n,g f.type,xSzT P f.type with
  | false,true,some a,some z=>match Nat.beq a.length z with|true=>xCatO (some a) (deepF P g (Nat.add n z) fs)|false=>none
  | _,_,_,_=>none
noncomputable def deepT(P:Program):Nat→TypeId→Option (List CK)
 | 0,_=>none
 | d+1,t=>match P.underlying t with
  | some (.int k)=>some [.i k]
  | some .string=>some [.s]
  | some .bool=>some [.b]
  | some (.struct fs)=>match P.stoodInHeld t with|false=>deepF P (deepT P d) 0 fs.toList|true=>none
  | _=>none
noncomputable def eqC:CK→CV→CV→Option Bool
 | .i k,.i k1 a,.i k2 b=>match xKind k k1,xKind k k2 with|true,true=>some (xEqI a b)|_,_=>none
 | .s,.s a,.s b=>some (xEqS a b)
 | .b,.b a,.b b=>some (a==b)
 | _,_,_=>none
noncomputable def eqD0:List CV→List CV→Option Bool
 | [],[]=>some true
 | _,_=>none
noncomputable def eqD1(k:CK)(ih:List CV→List CV→Option Bool):List CV→List CV→Option Bool
 | a::x,b::y=>match eqC k a b,ih x y with|some r,some q=>some (match r with|true=>q|false=>false)|_,_=>none
 | _,_=>none
noncomputable def eqD(ks:List CK):List CV→List CV→Option Bool:=List.rec (motive:=fun _=>List CV→List CV→Option Bool) eqD0 (fun k _ ih=>eqD1 k ih) ks
noncomputable def deepG(P:Program)(t:TypeId):Option (List CK):=match P.eqGuardType P.depth t,P.underlying t with
 | false,some (.struct _)=>deepT P 100 t
 | _,_=>none
structure BK where
 run:List CV→Mem→OR
/-- n: the cells of an element. -/
noncomputable def appendK(n:Nat):BK:=⟨fun args m=>match args with
 | [s,.sl k2 off2 lx _ _]=>match m.read k2 off2 (Nat.mul lx n) with
  | none=>.bad
  | some cx=>match Nat.beq lx 0,xAllC cx with
   | false,true=>match s with
    | .sn=>match Nat.ble lx 1000000 with|true=>.v (.sl m.nx 0 lx false 0) (m.add (.grow n cx))|false=>.bad
    | .sl k off ls false c=>match m.M.get k with
      | some (.own (.grow n' l))=>match Nat.beq n n',Nat.beq off 0,Nat.beq c 0,Nat.beq (xLen l) (Nat.mul ls n),Nat.ble (Nat.add ls lx) 1000000 with
       | true,true,true,true,true=>.v (.sl m.nx 0 (Nat.add ls lx) false 0) ((m.put k .dead).add (.grow n (xApp l cx)))
       | true,true,true,false,true=>match xSetL (Nat.mul ls n) cx l with
        | some r=>.v (.sl k 0 (Nat.add ls lx) false 0) (m.put k (.grow n r))
        | none=>.bad
       | _,_,_,_,_=>.bad
      | _=>.bad
    | .sl k off ls true c=>match m.read k off (Nat.mul ls n) with
     | some co=>match Nat.ble (Nat.succ c) (Nat.add ls lx),Nat.ble (Nat.add ls lx) 1000000,xAllC co with
      | true,true,true=>.v (.sl m.nx 0 (Nat.add ls lx) false 0) (m.add (.grow n (xApp co cx)))
      | _,_,_=>.bad
     | none=>.bad
    | _=>.bad
   | _,_=>.bad
 | _=>.bad⟩
/-- So many zero values are appended to nothing. -/
noncomputable def appendZ(n:Nat)(z:List CV):BK:=⟨fun args m=>match args with
 | [.sn,.i _ (.ofNat lx)]=>match Nat.ble 1 lx,Nat.ble lx 1000000 with
  | true,true=>.v (.sl m.nx 0 lx false 0) (m.add (.grow n (xRepL z lx)))
  | _,_=>.bad
 | _=>.bad⟩
noncomputable def builtinK(P:Program)(b:Builtin)(ts:List TypeId):BK :=
 match b with
 | .len=>match ts with
  | [t]=>match P.underlying t with
   | some (.slice _)=>⟨fun args m=>match args with
    | [.sn]=>.v (.i .i64 0) m
    | [.sl _ _ n _ _]=>.v (.i .i64 (.ofNat n)) m
    | _=>.bad⟩
   | some .string=>⟨fun args m=>match args with|[.s x]=>.v (.i .i64 (.ofNat (xLen x))) m|_=>.bad⟩
   | _=>⟨fun _ _=>.bad⟩
  | _=>⟨fun _ _=>.bad⟩
 | .min=>⟨fun args m=>match args with
  | [.i k x,.i k' y]=>match xKind k k' with|true=>.v (.i k (match xLtI y x with|true=>y|false=>x)) m|false=>.bad
  | _=>.bad⟩
 | .max=>⟨fun args m=>match args with
  | [.i k x,.i k' y]=>match xKind k k' with|true=>.v (.i k (match xLtI x y with|true=>y|false=>x)) m|false=>.bad
  | _=>.bad⟩
 | .append=>match ts with
  | [t,u]=>match P.underlying t,P.underlying u with
   | some (.slice el),some (.slice _)=>match P.info? el,xZeroC P el with
    | some i,some z=>match Nat.ble 1 i.size,Nat.ble i.bytes 4096,Nat.beq z i.size with|true,true,true=>appendK i.size|_,_,_=>⟨fun _ _=>.bad⟩
    | _,_=>⟨fun _ _=>.bad⟩
   | some (.slice el),some (.int _)=>match P.info? el,xZeroC P el,xZeroT P el with
    | some i,some z,some v=>match Nat.ble 1 i.size,Nat.ble i.bytes 4096,Nat.beq z i.size,v.cells with|true,true,true,some c=>appendZ i.size c|_,_,_,_=>⟨fun _ _=>.bad⟩
    | _,_,_=>⟨fun _ _=>.bad⟩
   | _,_=>⟨fun _ _=>.bad⟩
  | _=>⟨fun _ _=>.bad⟩
 | .cap=>match ts with
  | [t]=>match P.underlying t with
   | some (.slice _)=>⟨fun args m=>match args with
    | [.sn]=>.v (.i .i64 0) m
    | [.sl _ _ _ true c]=>.v (.i .i64 (.ofNat c)) m
    | _=>.bad⟩
   | _=>⟨fun _ _=>.bad⟩
  | _=>⟨fun _ _=>.bad⟩
 | _=>⟨fun _ _=>.bad⟩
/-- A function's code and results. -/
noncomputable def xHasBody(P:Program)(g:Nat):Bool:=match P.funcs[g]? with
 | some fn=>match fn.name == "runtime.NumGoroutine" with|true=>false|false=>fn.body.isSome
 | none=>false
/-- Functions without a body that are known. -/
inductive EX where
 | indexByte
 | count
noncomputable def xExtN(n:String):Option EX:=match n == "internal/bytealg.IndexByteString" with
 | true=>some .indexByte
 | false=>match n == "internal/bytealg.CountString" with|true=>some .count|false=>none
noncomputable def xExt(P:Program)(g:Nat):Option EX:=match P.funcs[g]? with
 | some fn=>match fn.body.isNone with
  | false=>none
  | true=>match fn.name == "runtime.NumGoroutine",(Extern.findNext fn).isNone with
   | false,true=>xExtN fn.name
   | _,_=>none
 | none=>none
noncomputable def xIdxB(b:Nat)(l:List UInt8):Nat→Option Nat:=List.rec (motive:=fun _=>Nat→Option Nat) (fun _=>none) (fun a _ ih i=>match Nat.beq a.toNat b with|true=>some i|false=>ih (Nat.succ i)) l
noncomputable def xCntB(b:Nat)(l:List UInt8):Nat:=List.rec (motive:=fun _=>Nat) 0 (fun a _ ih=>match Nat.beq a.toNat b with|true=>Nat.succ ih|false=>ih) l
noncomputable def xExtV:EX→List CV→Option CV
 | .indexByte,[.s l,.i .u8 (.ofNat b)]=>match Nat.ble b 255 with
  | true=>match xIdxB b l 0 with|some i=>some (.i .i64 (.ofNat i))|none=>some (.i .i64 (-1))
  | false=>none
 | .count,[.s l,.i .u8 (.ofNat b)]=>match Nat.ble b 255 with|true=>some (.i .i64 (.ofNat (xCntB b l)))|false=>none
 | _,_=>none
noncomputable def callK(P:Program):CV→List CV→OR
 | .f g xs ys,args=>match xHasBody P g with
  | true=>.enter g (xApp xs (xApp args ys))
  | false=>.bad
 | .y k,args=>.round k args
 | _,_=>.bad
noncomputable def xBadK:KO:=⟨fun _ _=>.bad⟩
/-- An operation on two numbers of one kind,or a comparison. -/
noncomputable def binN(op:BinOp)(k:IntKind)(a b:Int):Option CV :=
 match op with
 | .add=>some (.i k (k.wrap (a+b)))
 | .sub=>some (.i k (k.wrap (a-b)))
 | .mul=>some (.i k (k.wrap (a*b)))
 | .and=>some (.i k (k.wrap (BitVec.ofInt k.bits a &&& BitVec.ofInt k.bits b).toNat))
 | .or=>some (.i k (k.wrap (BitVec.ofInt k.bits a ||| BitVec.ofInt k.bits b).toNat))
 | .andNot=>some (.i k (k.wrap (BitVec.ofInt k.bits a &&& ~~~(BitVec.ofInt k.bits b)).toNat))
 | .eql=>some (.b (xEqI a b))
 | .neq=>some (.b (!xEqI a b))
 | .lss=>some (.b (xLtI a b))
 | .leq=>some (.b (!xLtI b a))
 | .gtr=>some (.b (xLtI b a))
 | .geq=>some (.b (!xLtI a b))
 | .quo=>match xEqI b 0 with|true=>none|false=>some (.i k (k.wrap (a.tdiv b)))
 | .rem=>match xEqI b 0 with|true=>none|false=>some (.i k (a.tmod b))
 | _=>none
structure K3 where
 run:IntKind→Int→Int→Option CV
/-- binN at one operation. -/
noncomputable def binKN:BinOp→K3
 | .add=>⟨binN .add⟩
 | .sub=>⟨binN .sub⟩
 | .mul=>⟨binN .mul⟩
 | .and=>⟨binN .and⟩
 | .or=>⟨binN .or⟩
 | .andNot=>⟨binN .andNot⟩
 | .eql=>⟨binN .eql⟩
 | .neq=>⟨binN .neq⟩
 | .lss=>⟨binN .lss⟩
 | .leq=>⟨binN .leq⟩
 | .gtr=>⟨binN .gtr⟩
 | .geq=>⟨binN .geq⟩
 | .quo=>⟨binN .quo⟩
 | .rem=>⟨binN .rem⟩
 | _=>⟨fun _ _ _=>none⟩
noncomputable def xIsSl:Option TypeDesc→Bool
 | some (.slice _)=>true
 | _=>false
noncomputable def xIsFn:Option TypeDesc→Bool
 | some (.func ..)=>true
 | _=>false
/-- What is equal to what,beside numbers: strings,slices and functions that are compared with nil. -/
noncomputable def xEqW(sl fn:Bool):CV→CV→Option Bool
 | .s a,.s b=>some (xEqS a b)
 | .sn,.sn=>match sl with|true=>some true|false=>none
 | .sl ..,.sn=>match sl with|true=>some false|false=>none
 | .sn,.sl ..=>match sl with|true=>some false|false=>none
 | .fn,.fn=>match fn with|true=>some true|false=>none
 | .f ..,.fn=>match fn with|true=>some false|false=>none
 | .fn,.f ..=>match fn with|true=>some false|false=>none
 | _,_=>none
noncomputable def catW:CV→CV→Option CV
 | .s a,.s b=>match Nat.ble (Nat.add (xLen a) (xLen b)) 1000000 with|true=>some (.s (xApp a b))|false=>none
 | _,_=>none
structure K4 where
 run:CV→CV→Option CV
/-- Operations beside those on numbers. -/
noncomputable def binKW(sl fn:Bool):BinOp→K4
 | .eql=>⟨fun u z=>match xEqW sl fn u z with|some r=>some (.b r)|none=>none⟩
 | .neq=>⟨fun u z=>match xEqW sl fn u z with|some r=>some (.b !r)|none=>none⟩
 | .add=>⟨catW⟩
 | _=>⟨fun _ _=>none⟩
structure K5 where
 run:List CK→List CV→List CV→Option CV
/-- Structs are compared. -/
noncomputable def binKG:BinOp→K5
 | .eql=>⟨fun ks a b=>match eqD ks a b with|some r=>some (.b r)|none=>none⟩
 | .neq=>⟨fun ks a b=>match eqD ks a b with|some r=>some (.b !r)|none=>none⟩
 | _=>⟨fun _ _ _=>none⟩
/-- What a key of a map may be. -/
inductive MK where
 | str
 | flat (ks:List IntKind)
 | int (k:IntKind)
noncomputable def mapKind(P:Program)(kt:TypeId):Option MK:=match P.underlying kt with
 | some .string=>some .str
 | some (.int k)=>some (.int k)
 | some (.struct _)=>match flatT P kt with|some ks=>some (.flat ks)|none=>none
 | _=>none
noncomputable def eqM:MK→CV→CV→Option Bool
 | .str,.s a,.s b=>some (xEqS a b)
 | .flat ks,.g a,.g b=>eqF ks a b
 | .int k,.i k1 a,.i k2 b=>match xKind k k1,xKind k k2 with|true,true=>some (xEqI a b)|_,_=>none
 | _,_,_=>none
noncomputable def keyOk:MK→CV→Bool
 | .str,.s _=>true
 | .int k,.i k1 _=>xKind k k1
 | .flat ks,.g a=>(eqF ks a a).isSome
 | _,_=>false
/-- The first entry with this key. -/
noncomputable def findX(mk:MK)(k:CV)(l:List (CV×CV)):Option (Option CV):=List.rec (motive:=fun _=>Option (Option CV)) (some none)
 (fun e _ ih=>match e with|(a,v)=>match eqM mk k a with|some true=>some (some v)|some false=>ih|none=>none) l
noncomputable def putX(mk:MK)(k v:CV)(l:List (CV×CV)):Option (List (CV×CV)):=List.rec (motive:=fun _=>Option (List (CV×CV))) (some [(k,v)])
 (fun e l ih=>match e with|(a,w)=>match eqM mk k a with
  | some true=>some ((k,v)::l)
  | some false=>match ih with|some r=>some ((a,w)::r)|none=>none
  | none=>none) l
/-- A bound of a slice that may not be there. -/
structure KB where
 run:Tr CV→Option (Option Nat)
noncomputable def xBnd:Option Operand→KB
 | none=>⟨fun _=>some none⟩
 | some x=>match rdK x with|⟨f⟩=>⟨fun e=>match f e with | .i _ (.ofNat n)=>some (some n)|_=>none⟩
noncomputable def xOr(o:Option Nat)(d:Nat):Nat:=match o with|some n=>n|none=>d
/-- A third bound stands behind a second one. -/
noncomputable def xMxOk(h q:Option Nat):Bool:=match q,h with
 | some _,none=>false
 | _,_=>true
/-- There is room for so many behind the beginning. -/
noncomputable def xRoomC(m:Mem)(n k:Nat)(kn:Bool)(c q:Nat):Bool:=match kn with
 | true=>Nat.ble q c
 | false=>match m.obj k with
  | some (.grow n' l)=>match Nat.beq n n' with|true=>Nat.ble (Nat.mul (Nat.add c q) n) (xLen l)|false=>false
  | _=>false
/-- A part of a slice. -/
noncomputable def xSliceM(n k off ln:Nat)(kn:Bool)(c:Nat)(l:Nat)(h:Option Nat)(q:Option Nat)(m:Mem):OR :=
 match q with
 | some q=>match h with
  | none=>.bad
  | some h=>match Nat.ble l h,Nat.ble h q,xRoomC m n k kn c q with
   | true,true,true=>match kn with
    | true=>.v (.sl k (match Nat.beq q l with|true=>off|false=>Nat.add off (Nat.mul l n)) (Nat.sub h l) true (Nat.sub q l)) m
    | false=>.rd (.sl k (match Nat.beq q l with|true=>off|false=>Nat.add off (Nat.mul l n)) (Nat.sub h l) true (Nat.sub q l)) k
   | _,_,_=>.bad
 | none=>match xOr h ln with
  | h=>match Nat.ble l h,kn with
   | false,_=>.bad
   | true,true=>match Nat.ble h c with
    | true=>.v (.sl k (match Nat.beq c l with|true=>off|false=>Nat.add off (Nat.mul l n)) (Nat.sub h l) true (Nat.sub c l)) m
    | false=>.bad
   | true,false=>match xRoomC m n k false c h,l with
    | true,0=>.rd (.sl k off h false c) k
    | true,l+1=>match xRoomC m n k false c (l+2) with
     | true=>.rd (.sl k (Nat.add off (Nat.mul (l+1) n)) (Nat.sub h (l+1)) false (Nat.add c (l+1))) k
     | false=>.bad
    | false,_=>.bad
noncomputable def opK(P:Program):Op→KO
 | .move x=>⟨fun e m=>.v ((rdK x).run e) m⟩
 | .assign x=>⟨fun e m=>.v ((rdK x).run e) m⟩
 | .pick c a b=>⟨fun e m=>match (rdK c).run e with | .b true=>.v ((rdK a).run e) m | .b false=>.v ((rdK b).run e) m|_=>.bad⟩
 | .alloc t=>match xZeroT P t with
  | some z=>match z.cells with|some c=>⟨fun _ m=>.v (.p m.nx 0) (m.add (.cells c))⟩|none=>xBadK
  | none=>xBadK
 | .box _ x=>⟨fun e m=>match ((rdK x).run e).cells with|some c=>.v (.p m.nx 0) (m.add (.cells c))|none=>.bad⟩
 | .build t ps=>match xZeroT P t,P.underlying t with
  | some z,some (.struct fs)=>match allSz P fs.toList,z.cells with
   | true,some c=>⟨fun e m=>match (fillK (fldAt P fs.toList) ps.toList).run c e with|some l=>.v (.g l) m|none=>.bad⟩
   | _,_=>xBadK
  | some z,some (.array _ el)=>match xSzT P el,z.cells with
   | some n,some c=>⟨fun e m=>match (fillK (fun i=>some (Nat.mul i n,n)) ps.toList).run c e with|some l=>.v (.g l) m|none=>.bad⟩
   | _,_=>xBadK
  | _,_=>xBadK
 | .buildSlice t ln ps=>match P.underlying t with
  | some (.slice el)=>match xSzT P el,xZeroT P el,xZeroC P el with
   | some n,some z,some zc=>match z.cells,Nat.ble (Nat.mul ln n) 1000000,Nat.ble 1 (Nat.mul ln n),Nat.beq zc n with
    | some c,true,true,true=>⟨fun e m=>match (fillK (fun i=>some (Nat.mul i n,n)) ps.toList).run (xRepL c ln) e with
     | some l=>.v (.sl m.nx 0 ln true ln) (m.add (.cells l))
     | none=>.bad⟩
    | _,_,_,_=>match ln,ps.toList with
     | 0,[]=>⟨fun _ m=>.v (.sl m.nx 0 0 true 0) (m.add (.cells []))⟩
     | _,_=>xBadK
   | _,_,_=>xBadK
  | _=>xBadK
 | .load t a=>⟨fun e m=>match (rdK a).run e with
   | .p k off=>match m.row k with
    | some l=>match (partK P t).run (xDrp off l) with|some v=>.rd v k|none=>.bad
    | none=>.bad
   | _=>.bad⟩
 | .store t a v=>match xSzT P t with
  | some n=>⟨fun e m=>match (rdK a).run e with
   | .p k off=>match ((rdK v).run e).cells with
    | some c=>match Nat.beq (xLen c) n with
     | true=>match m.store k off c with|some m=>.v .undef m|none=>.bad
     | false=>.bad
    | none=>.bad
   | _=>.bad⟩
  | none=>xBadK
 | .nilCheck x=>⟨fun e m=>match (rdK x).run e with
   | .p k off=>.v (.p k off) m
   | _=>.bad⟩
 | .binOp op t x y _=>match flatT P t with
  | none=>match op with
   | .shl=>⟨fun e m=>match (rdK x).run e,(rdK y).run e with | .i k a,.i _ (.ofNat n)=>.v (.i k (k.wrap (a*2^(min n k.bits)))) m|_,_=>.bad⟩
   | .shr=>⟨fun e m=>match (rdK x).run e,(rdK y).run e with | .i k a,.i _ (.ofNat n)=>.v (.i k (a.fdiv (2^(min n k.bits)))) m|_,_=>.bad⟩
   | op=>⟨fun e m=>match (rdK x).run e,(rdK y).run e with
    | .i k a,.i k' b=>match xKind k k' with
     | true=>match (binKN op).run k a b with|some v=>.v v m|none=>.bad
     | false=>.bad
    | .g a,.g b=>match deepG P t with
     | some ks=>match (binKG op).run ks a b with|some v=>.v v m|none=>.bad
     | none=>.bad
    | u,z=>match (binKW (xIsSl (P.underlying t)) (xIsFn (P.underlying t)) op).run u z with|some v=>.v v m|none=>.bad⟩
  | some ks=>match op with
   | .eql=>⟨fun e m=>match (rdK x).run e,(rdK y).run e with | .g a,.g b=>(match eqF ks a b with|some r=>.v (.b r) m|none=>.bad)|_,_=>.bad⟩
   | .neq=>⟨fun e m=>match (rdK x).run e,(rdK y).run e with | .g a,.g b=>(match eqF ks a b with|some r=>.v (.b !r) m|none=>.bad)|_,_=>.bad⟩
   | _=>xBadK
 | .unOp .not _ x=>⟨fun e m=>match (rdK x).run e with | .b v=>.v (.b !v) m|_=>.bad⟩
 | .unOp .neg _ x=>⟨fun e m=>match (rdK x).run e with | .i k v=>.v (.i k (k.wrap (0-v))) m|_=>.bad⟩
 | .convert s d x=>match P.underlying s,P.underlying d with
  | some (.int _),some (.int k)=>⟨fun e m=>match (rdK x).run e with | .i _ v=>.v (.i k (k.wrap v)) m|_=>.bad⟩
  | some .string,some (.slice el)=>match P.underlying el with
   | some (.int .u8)=>⟨fun e m=>match (rdK x).run e with
    | .s v=>.v (.sl m.nx 0 (xLen v) false 0) (m.add (.grow 1 (xBytesC v)))
    | _=>.bad⟩
   | _=>xBadK
  | _,_=>xBadK
 | .makeFunc (.func g) xs ys=>⟨fun e m=>.v (.f g ((rdsK xs.toList).run e) ((rdsK ys.toList).run e)) m⟩
 | .makeMap _ none=>⟨fun _ m=>.v (.m m.nx) (m.add (.map []))⟩
 | .makeChan t s=>match P.underlying t with
  | some (.chan _ el)=>match P.info? el with
   | some i=>⟨fun e m=>match (rdK s).run e with
    | .i _ (.ofNat 0)=>.v (.c m.nx) (m.add .chan)
    | .i _ (.ofNat (n+1))=>match Nat.ble i.bytes 4096,Nat.ble (n+1) 1000 with|true,true=>.v (.c m.nx) (m.add (.crowd (n+1) []))|_,_=>.bad
    | _=>.bad⟩
   | none=>xBadK
  | _=>xBadK
 | .fieldAddr t x i=>match P.underlying t with
  | some (.struct fs)=>match fldAt P fs.toList i with
   | some (o,n)=>match Nat.ble 1 n with
    | true=>⟨fun e m=>match (rdK x).run e with | .p k off=>.v (.p k (Nat.add off o)) m|_=>.bad⟩
    | false=>xBadK
   | none=>xBadK
  | _=>xBadK
 | .indexAddr t x y=>match P.underlying t with
  | some (.slice el)=>match xSzT P el with
   | some n=>⟨fun e m=>match (rdK x).run e,(rdK y).run e with
    | .sl k off ln _ _,.i _ (.ofNat i)=>match Nat.ble (Nat.succ i) ln with|true=>.v (.p k (Nat.add off (Nat.mul i n))) m|false=>.bad
    | _,_=>.bad⟩
   | none=>xBadK
  | some (.array ln el)=>match xSzT P el with
   | some n=>⟨fun e m=>match (rdK x).run e,(rdK y).run e with
    | .p k off,.i _ (.ofNat i)=>match Nat.ble (Nat.succ i) ln with|true=>.v (.p k (Nat.add off (Nat.mul i n))) m|false=>.bad
    | _,_=>.bad⟩
   | none=>xBadK
  | _=>xBadK
 | .index t x y=>match P.underlying t with
  | some (.array ln el)=>match xSzT P el,xAggT P el with
   | some n,some false=>⟨fun e m=>match (rdK x).run e,(rdK y).run e with
    | .g l,.i _ (.ofNat i)=>match Nat.ble (Nat.succ i) ln,xNth (Nat.mul i n) l with|true,some v=>.v v m|_,_=>.bad
    | _,_=>.bad⟩
   | some n,some true=>⟨fun e m=>match (rdK x).run e,(rdK y).run e with
    | .g l,.i _ (.ofNat i)=>match Nat.ble (Nat.succ i) ln,xTkn n (xDrp (Nat.mul i n) l) with|true,some r=>.v (.g r) m|_,_=>.bad
    | _,_=>.bad⟩
   | _,_=>xBadK
  | some .string=>⟨fun e m=>match (rdK x).run e,(rdK y).run e with
    | .s l,.i _ (.ofNat i)=>match xNth i l with|some b=>.v (.i .u8 (.ofNat b.toNat)) m|none=>.bad
    | _,_=>.bad⟩
  | _=>xBadK
 | .lookup t x y ok=>match P.underlying t with
  | some (.map kt el)=>match mapKind P kt,xZeroT P el with
   | some mk,some z=>⟨fun e m=>match (rdK x).run e with
    | .m k=>match m.obj k,keyOk mk ((rdK y).run e) with
     | some (.map es),true=>match findX mk ((rdK y).run e) es with
      | some (some v)=>.rd (match ok with|true=>.t [v,.b true]|false=>v) k
      | some none=>.rd (match ok with|true=>.t [z,.b false]|false=>z) k
      | none=>.bad
     | _,_=>.bad
    | _=>.bad⟩
   | _,_=>xBadK
  | _=>xBadK
 | .mapUpdate t x y z=>match P.underlying t with
  | some (.map kt _)=>match mapKind P kt with
   | some mk=>⟨fun e m=>match (rdK x).run e with
    | .m k=>match m.M.get k,keyOk mk ((rdK y).run e) with
     | some (.own (.map es)),true=>match putX mk ((rdK y).run e) ((rdK z).run e) es with
      | some es=>.v .undef (m.put k (.map es))
      | none=>.bad
     | _,_=>.bad
    | _=>.bad⟩
   | none=>xBadK
  | _=>xBadK
 | .slice t x lo hi mx=>match P.underlying t with
  | some (.slice el)=>match xSzT P el,xBnd lo,xBnd hi,xBnd mx with
   | some n,⟨lo⟩,⟨hi⟩,⟨mx⟩=>⟨fun e m=>match (rdK x).run e with
    | .sl k off ln kn c=>match lo e,hi e,mx e with
     | some l,some h,some q=>xSliceM n k off ln kn c (xOr l 0) h q m
     | _,_,_=>.bad
    | .sn=>match lo e,hi e,mx e with
     | some l,some h,some q=>match Nat.beq (xOr l 0) 0,Nat.beq (xOr h 0) 0,Nat.beq (xOr q 0) 0,xMxOk h q with
      | true,true,true,true=>.v .sn m
      | _,_,_,_=>.bad
     | _,_,_=>.bad
    | _=>.bad⟩
   | _,_,_,_=>xBadK
  | some .string=>match xBnd lo,xBnd hi,mx with
   | ⟨lo⟩,⟨hi⟩,none=>⟨fun e m=>match (rdK x).run e,lo e,hi e with
    | .s b,some l,some h=>match xOr h (xLen b),xOr l 0 with
     | h,l=>match Nat.ble h (xLen b),Nat.ble l h with
      | true,true=>match xTkn (Nat.sub h l) (xDrp l b) with|some r=>.v (.s r) m|none=>.bad
      | _,_=>.bad
    | _,_,_=>.bad⟩
   | _,_,_=>xBadK
  | _=>xBadK
 | .field t x i=>match P.underlying t with
  | some (.struct fs)=>match fs.toList[i]? with
   | some f=>⟨fun e m=>match (rdK x).run e with
    | .g l=>match (partK P f.type).run (xDrp f.offset l) with|some v=>.v v m|none=>.bad
    | _=>.bad⟩
   | none=>xBadK
  | _=>xBadK
 | .makeSlice t a b=>match P.underlying t with
  | some (.slice el)=>match xSzT P el,xZeroT P el,xZeroC P el,P.info? el with
   | some n,some z,some zc,some i=>match z.cells,Nat.ble 1 n,Nat.beq zc n,Nat.ble i.bytes 4096 with
    | some c,true,true,true=>⟨fun e m=>match (rdK a).run e,(rdK b).run e with
     | .i _ (.ofNat ln),.i _ (.ofNat cp)=>match Nat.beq ln cp,Nat.ble 1 ln,Nat.ble (Nat.mul ln n) 1000000 with
      | true,true,true=>.v (.sl m.nx 0 ln true ln) (m.add (.cells (xRepL c ln)))
      | _,_,_=>.bad
     | _,_=>.bad⟩
    | _,_,_,_=>xBadK
   | _,_,_,_=>xBadK
  | _=>xBadK
 | .insert t x y z=>match P.underlying t with
  | some (.map kt _)=>match mapKind P kt with
   | some mk=>⟨fun e m=>match (rdK x).run e with
    | .m k=>match m.M.get k,keyOk mk ((rdK y).run e) with
     | some (.own (.map es)),true=>match putX mk ((rdK y).run e) ((rdK z).run e) es with
      | some es=>.v .undef (m.put k (.map es))
      | none=>.bad
     | _,_=>.bad
    | _=>.bad⟩
   | none=>xBadK
  | _=>xBadK
 | .range t x=>match P.underlying t with
  | some (.map _ _)=>⟨fun e m=>match (rdK x).run e with
   | .m k=>match m.obj k with|some (.map es)=>.v (.p m.nx 0) (m.add (.iter k (xLen es) []))|_=>.bad
   | _=>.bad⟩
  | _=>xBadK
 | .entry x=>⟨fun e m=>match (rdK x).run e with
   | .p k 0=>match m.M.get k with
    | some (.own (.iter mk n seen))=>match seen.getLast?,m.obj mk with
     | some j,some (.map es)=>match Nat.beq (xLen es) n,xNth j es with
      | true,some (a,v)=>.v (.t [a,v]) m
      | _,_=>.bad
     | _,_=>.bad
    | _=>.bad
   | _=>.bad⟩
 | .extract x i=>⟨fun e m=>match (rdK x).run e with | .t l=>xVOf m (xNth i l)|_=>.bad⟩
 | .call c=>match c.callee with
  | .builtin b=>⟨fun e m=>(builtinK P b c.argTypes.toList).run ((rdsK c.args.toList).run e) m⟩
  | .value (.func g)=>match xExt P g with
   | some ex=>⟨fun e m=>match xExtV ex ((rdsK c.args.toList).run e) with|some v=>.v v m|none=>.bad⟩
   | none=>⟨fun e _=>callK P (.f g [] []) ((rdsK c.args.toList).run e)⟩
  | .value x=>⟨fun e _=>callK P ((rdK x).run e) ((rdsK c.args.toList).run e)⟩
  | _=>xBadK
 | .go c=>match c.callee with
  | .value x=>⟨fun e _=>.go ((rdK x).run e) ((rdsK c.args.toList).run e)⟩
  | _=>xBadK
 | .defer c=>match c.callee,c.args.toList with
  | .builtin .close,[.tmp t]=>⟨fun e _=>match e.get t with|some x=>.dclose x|none=>.bad⟩
  | _,_=>xBadK
 | .send x y=>⟨fun e _=>match (rdK x).run e with | .c k=>.send k ((rdK y).run e)|_=>.bad⟩
 | .recv t x ok=>match P.underlying t with
  | some (.chan _ el)=>match xZeroT P el with
   | some _=>⟨fun e _=>match (rdK x).run e with | .c k=>.recv k ok|_=>.bad⟩
   | none=>xBadK
  | _=>xBadK
 | _=>xBadK
/-- Operations that do nothing but yield a value. -/
noncomputable def xMild:Op→Bool
 | .move _ | .assign _ | .pick .. | .build .. | .load .. | .nilCheck _ | .binOp .. | .unOp .. | .makeFunc .. | .fieldAddr .. | .indexAddr .. | .index .. | .lookup .. | .extract .. | .field .. | .slice .. | .convert ..=>true
 | .call {callee:=.builtin .len,..} | .call {callee:=.builtin .min,..} | .call {callee:=.builtin .max,..}=>true
 | _=>false
/-- What it waits for. -/
noncomputable def xDeps(l:List Oper)(o:Oper):List Bool:=(List.range l.length).map fun k=>o.after.toList.any fun e=>Region.binds .any e&&e.on==k
/-- It may be carried out early: an allocation,a slice that is built. -/
noncomputable def xEarly(l:List Oper)(j:Nat):Bool:=match l[j]? with
 | some o=>(match o.op,o.dst,o.guard with | .alloc _,some _,none=>true | .buildSlice ..,some _,none=>true|_,_,_=>false)&&Ahv l (xDeps l o) j
 | none=>false
/-- What comes up when the early one has come up. -/
noncomputable def xRest0(l:List Oper)(fl:Option Nat)(li:List Bool)(i:Nat):List Nat :=
 Dl l (match fl with|some f=>(match Nat.beq f i with|true=>li|false=>li.set f true)|none=>li)
/-- Nothing else may come up,but for what may be early. -/
noncomputable def xOnly(l:List Oper)(fl:Option Nat)(li:List Bool)(i:Nat):Bool:=(xRest0 l fl li i).all (Nat.beq i)
noncomputable def xTake(l:List Oper)(li:List Bool)(i:Nat):Bool:=(match l[i]? with|some o=>xMild o.op&&o.dst.isSome|none=>false)&&Ahv l li i
/-- The early one may still come. -/
noncomputable def xFp(l:List Oper)(fl:Option Nat)(li:List Bool)(i:Nat):Bool:=match fl with
 | some f=>(Dl l li).contains f && !(Nat.beq f i)
 | none=>false
/-- (number,taken first,the early one may come here) -/
noncomputable def xPlan(l:List Oper)(fl:Option Nat):Nat→List Bool→List (Nat×Bool×Bool)
 | 0,_=>[]
 | n+1,li=>match (Dl l li).filter (fun i=>match fl with|some f=>!(Nat.beq f i)|none=>true) with
  | []=>match fl with
   | some f=>match li.getD f true with
    | true=>[]
    | false=>(f,false,false)::xPlan l fl n (li.set f true)
   | none=>[]
  | r::rs=>match xOnly l fl li r with
   | true=>(r,false,xFp l fl li r)::xPlan l fl n (li.set r true)
   | false=>match (r::rs).find? (xTake l li) with
    | some i=>(i,true,false)::xPlan l fl n (li.set i true)
    | none=>[]
/-- The plan may be followed. -/
noncomputable def xGood(l:List Oper)(fl:Option Nat)(pz:List Nat):List (Nat×Bool×Bool)→List Bool→Bool
 | [],li=>match Dl l li with|[]=>true|_=>false
 | (i,tk,fp)::r,li=>(Dl l li).contains i&&(match tk with
   | true=>pz.contains i&&xTake l li i&&(match fl with|some f=>!(Nat.beq f i)|none=>true)
   | false=>xOnly l fl li i&&(match xFp l fl li i with|true=>fp|false=>true))&&xGood l fl pz r (li.set i true)
noncomputable def xPz(p:List (Nat×Bool×Bool)):List Nat:=(p.filter (·.2.1)).map (·.1)
noncomputable def xFine(l:List Oper)(fl:Option Nat):Bool:=match xPlan l fl l.length (List.replicate l.length false) with
 | p=>xGood l fl (xPz p) p (List.replicate l.length false)
noncomputable def xCands(l:List Oper):List (Option Nat):=((List.range l.length).filter (xEarly l)).map some
/-- The one that may come early. -/
noncomputable def xFloat(l:List Oper):Option Nat:=match (xCands l).find? (xFine l) with
 | some f=>f
 | none=>none
inductive R where
 | n (s:St)
 | x (id:Nat) (s:St)
 | r (s:St)
 | bad
inductive RV where
 | v (x:CV) (m:Mem)
 | bad
/-- mn: the first goroutine;ch: what is sent over. -/
structure Fns where
 mn:Bool
 ch:Nat
 code:Nat→Option Nat→Code→St→R
 call:FuncId→List CV→Mem→RV
 send:FuncId→List CV→Mem→Nat→Option (List CV)
 msg:FuncId→List CV→Mem→Option (Nat×CV×Mem)
/-- What an operation brings. -/
inductive OV where
 | v (x:CV) (m:Mem) (ds:List CD)
 | bad
noncomputable def xKeysV:CV→List Nat:=CV.rec (motive_1:=fun _=>List Nat) (motive_2:=fun _=>List Nat) [] (fun _=>[]) (fun _ _=>[]) (fun _=>[]) [] (fun k _=>[k]) [] (fun k _ _ _ _=>[k]) [] (fun k=>[k]) [] (fun _=>[]) [] (fun _ _ _ a b=>xApp a b) (fun _=>[]) [] (fun _ _ a=>a) (fun _ a=>a) (fun _ a=>a) [] (fun _ _ a b=>xApp a b)
noncomputable def xKeysL(l:List CV):List Nat:=List.rec (motive:=fun _=>List Nat) [] (fun a _ ih=>xApp (xKeysV a) ih) l
noncomputable def xKeysO:CO→List Nat
 | .cells l=>xKeysL l
 | .grow _ l=>xKeysL l
 | .map es=>xKeysL (es.map (·.1))++xKeysL (es.map (·.2))
 | _=>[]
/-- What can be reached is shared. -/
noncomputable def xShare(n:Nat):List Nat→Tr Cell→Tr Cell:=Nat.rec (motive:=fun _=>List Nat→Tr Cell→Tr Cell) (fun _ M=>M)
 (fun _ ih l M=>match l with
  | []=>M
  | k::l=>match M.get k with
   | some (.own (.cells c))=>ih (xApp (xKeysL c) l) (M.set k (.ro (.cells c)))
   | some (.own (.grow z c))=>ih (xApp (xKeysL c) l) (M.set k (.ro (.grow z c)))
   | some (.own (.map es))=>ih (xApp (xKeysO (.map es)) l) (M.set k (.ro (.map es)))
   | _=>ih l M) n
noncomputable def xIsRcv:Option Cell→Bool
 | some (.own (.rcv _))=>true
 | some (.own (.crowd _ _))=>true
 | _=>false
noncomputable def xNoRcv(t:Tr Cell):Bool:=Tr.rec (motive:=fun _=>Bool) true (fun v _ _ a b=>match xIsRcv v with|true=>false|false=>match a with|true=>b|false=>false) t
noncomputable def xRoOf:Option Cell→Option Cell
 | some (.ro o)=>some (.ro o)
 | _=>none
noncomputable def xOnlyRo(t:Tr Cell):Tr Cell:=Tr.rec (motive:=fun _=>Tr Cell) .leaf (fun v _ _ a b=>.node (xRoOf v) a b) t
noncomputable def xHasK(k:Nat)(l:List (Nat×Option Nat×List CV)):Bool:=List.rec (motive:=fun _=>Bool) false (fun a _ ih=>match Nat.beq a.1 k with|true=>true|false=>ih) l
/-- The rows that are reached,from a number on. -/
noncomputable def xRows(lo:Nat)(M:Tr Cell)(n:Nat):List Nat→List (Nat×Option Nat×List CV)→List (Nat×Option Nat×List CV):=Nat.rec (motive:=fun _=>List Nat→List (Nat×Option Nat×List CV)→List (Nat×Option Nat×List CV)) (fun _ a=>a)
 (fun _ ih l a=>match l with
  | []=>a
  | k::l=>match Nat.ble lo k,xHasK k a with
   | true,false=>match M.get k with
    | some (.ro (.cells c))=>ih (xApp (xKeysL c) l) ((k,none,c)::a)
    | some (.ro (.grow z c))=>ih (xApp (xKeysL c) l) ((k,some z,c)::a)
    | _=>ih l a
   | _,_=>ih l a) n
/-- A message,as it is kept. -/
noncomputable def xMsgOf(lo:Nat)(x:CV)(m:Mem):CV×List (Nat×Option Nat×List CV)×Nat×Nat:=(x,xRows lo (xShare 100000 (xKeysV x) m.M) 1000 (xKeysV x) [],lo,m.nx)
noncomputable def xAllGe(lo:Nat)(l:List Nat):Bool:=List.rec (motive:=fun _=>Bool) true (fun a _ ih=>match Nat.ble lo a with|true=>ih|false=>false) l
noncomputable def xRowsGe(lo:Nat)(l:List (Nat×Option Nat×List CV)):Bool:=List.rec (motive:=fun _=>Bool) true (fun a _ ih=>match xAllGe lo (xKeysL a.2.2) with|true=>ih|false=>false) l
/-- It speaks of nothing older. -/
noncomputable def xMsgLow(q:CV×List (Nat×Option Nat×List CV)×Nat×Nat):Bool:=match xAllGe q.2.2.1 (xKeysV q.1) with|true=>xRowsGe q.2.2.1 q.2.1|false=>false
noncomputable def xPutP(ps:List Tmp):List CV→Tr CV→Tr CV:=List.rec (motive:=fun _=>List CV→Tr CV→Tr CV) (fun _ e=>e) (fun t _ ih l e=>match l with|a::l=>ih l (e.set t a)|[]=>e) ps
noncomputable def xArgEnv(args:List CV):Nat→Tr CV→Tr CV:=List.rec (motive:=fun _=>Nat→Tr CV→Tr CV) (fun _ e=>e) (fun a _ ih i e=>ih (Nat.succ i) (e.set i a)) args
noncomputable def xChanOf(l:List CV):Option Nat:=List.rec (motive:=fun _=>Option Nat) none (fun a _ ih=>match a with | .c k=>some k|_=>ih) l
noncomputable def xRev(l:List CV):List CV→List CV:=List.rec (motive:=fun _=>List CV→List CV) (fun r=>r) (fun a _ ih r=>ih (a::r)) l
noncomputable def xAllLt(n:Nat)(l:List Nat):Bool:=List.rec (motive:=fun _=>Bool) true (fun t _ ih=>match Nat.ble (Nat.succ t) n with|true=>ih|false=>false) l
noncomputable def xRest(m:Mem)(o:List CV):Mem:=⟨m.M,m.nx,m.log,m.ln,o⟩
noncomputable def xEndRound(m:Mem)(ds:List CD)(k:Nat)(j:Option Code):OV:=match m.M.get k with
 | some (.own (.loop _ _ n env ps as_ body dk))=>.v (.b (match j with|none=>true|some _=>false)) (m.put k (.loop (match j with|none=>0|some _=>2) j n env ps as_ body dk)) ds
 | _=>.bad
/-- An operation's result,carried out. -/
noncomputable def doOR(F:Fns)(st:St):OR→OV
 | .v x m=>.v x m st.ds
 | .rd x _=>.v x st.m st.ds
 | .enter f args=>match F.call f args st.m with | .v x m=>.v x (xRest m st.m.outs) st.ds | .bad=>.bad
 | .round k args=>match st.m.M.get k with
  | some (.own (.loop 0 _ n env ps as_ body _))=>match Nat.beq (xLen args) (xLen ps),xAllLt n ps with
   | true,true=>match F.code n (some k) as_ ⟨xPutP ps args env,st.m,[]⟩ with
    | .n st1=>match st1.ds,st1.m.M.get k with
     | [],some (.own (.loop 0 pd n' env' ps' as' body' dk'))=>match F.code n (some k) body ⟨st1.e,st1.m.put k (.loop 1 pd n' env' ps' as' body' dk'),[]⟩ with
      | .n st3=>xEndRound (xRest st3.m st.m.outs) st.ds k none
      | .x id st3=>xEndRound (xRest st3.m st.m.outs) st.ds k (some (.exit id))
      | .r st3=>xEndRound (xRest st3.m st.m.outs) st.ds k (some .ret)
      | .bad=>.bad
     | _,_=>.bad
    | _=>.bad
   | _,_=>.bad
  | _=>.bad
 | _=>.bad
/-- What is more in the text's order: a goroutine is started,something is received. -/
noncomputable def doX1(F:Fns)(_:Option Nat)(st:St):OR→OV
 | .go f args=>match F.mn,f with
  | true,.f g [] [] =>
   let all:=args
   match xNoRcv st.m.M,xChanOf all with
   | true,some k =>
    let M:=xShare 100000 (xKeysL all) st.m.M
    match M.get k,F.send g all ⟨xOnlyRo M,st.m.nx,[],0,[]⟩ k with
    | some (.own .chan),some outs=>.v .undef ⟨M.set k (.own (.rcv (xRev outs []))),st.m.nx,k::st.m.log,Nat.succ st.m.ln,st.m.outs⟩ st.ds
    | _,_=>.bad
   | _,_=>.bad
  | true,.f g [] (y::ys) =>
   let all:=xApp args (y::ys)
   let M:=xShare 100000 (xKeysL all) st.m.M
   match F.msg g all ⟨xOnlyRo M,st.m.nx,[],0,[]⟩ with
   | some (k,x,m1)=>match M.get k,xNoRcv (M.set k (.own .dead)) with
    | some (.own (.crowd (n+1) ms)),true=>match xMsgLow (xMsgOf st.m.nx x m1) with
     | true=>.v .undef ⟨M.set k (.own (.crowd n (xApp ms [xMsgOf st.m.nx x m1]))),st.m.nx,k::st.m.log,Nat.succ st.m.ln,st.m.outs⟩ st.ds
     | false=>.bad
    | _,_=>.bad
   | none=>.bad
  | _,_=>.bad
 | .recv k ok=>match F.mn,ok with
  | true,true=>match st.m.M.get k with
   | some (.own (.rcv (v::vs)))=>.v (.t [v,.b true]) (st.m.put k (.rcv vs)) st.ds
   | some (.own (.rcv []))=>.v (.t [.bad,.b false]) (st.m.put k .dead) st.ds
   | _=>.bad
  | _,_=>.bad
 | y=>doOR F st y
/-- It tells its value by itself. -/
noncomputable def xPlainV:CV→Bool
 | .b _ | .i _ _ | .s _=>true
 | _=>false
/-- What is more for a sender. -/
noncomputable def doS1(F:Fns)(rd:Option Nat)(st:St):OR→OV
 | .send k x=>match Nat.beq k F.ch,xPlainV x with
  | true,true=>.v .undef (xRest st.m (x::st.m.outs)) st.ds
  | _,_=>.bad
 | .dclose x=>match rd,x,st.ds with
  | none,.c k,[]=>match Nat.beq k F.ch with|true=>.v .undef st.m [.close k]|false=>.bad
  | _,_,_=>.bad
 | y=>doOR F st y
/-- Nothing is left open in it. -/
noncomputable def xOkV:CV→Bool:=CV.rec (motive_1:=fun _=>Bool) (motive_2:=fun _=>Bool) false (fun _=>true) (fun _ _=>true) (fun _=>true) true (fun _ _=>true) true (fun _ _ _ _ _=>true) true (fun _=>true) true (fun _=>true) true (fun _ _ _ a b=>a&&b) (fun _=>true) true (fun _ _ a=>a) (fun _ a=>a) (fun _ a=>a) true (fun _ _ a b=>a&&b)
structure KS where
 run:Fns→Option Nat→St→R
structure KD where
 run:Fns→Option Nat→List (Nat×Nat)→St→R
structure KG where
 run:Tr CV→Bool
structure KP where
 run:Tr CV→CV→Tr CV
/-- Whether goroutines may be started;operations. -/
structure DX where
 gl:Bool
 run:Fns→Option Nat→St→OR→OV
noncomputable def doX:DX:=⟨true,doX1⟩
noncomputable def doS:DX:=⟨false,doS1⟩
noncomputable def dstK:Option Tmp→KP
 | some d=>⟨fun e v=>e.set d v⟩
 | none=>⟨fun e _=>e⟩
noncomputable def guardK(l:List Oper)(o:Oper):KG:=match o.guard with
 | none=>⟨fun _=>true⟩
 | some (j,w)=>match (l[j]?).bind (·.dst) with
  | some d=>⟨fun e=>match e.get d with|some (.b x)=>(match x,w with|true,true=>true|false,false=>true|_,_=>false)|_=>false⟩
  | none=>⟨fun _=>false⟩
/-- The guard is told. -/
noncomputable def gokK(l:List Oper)(o:Oper):KG:=match o.guard with
 | none=>⟨fun _=>true⟩
 | some (j,_)=>match (l[j]?).bind (·.dst) with
  | some d=>⟨fun e=>match e.get d with|some (.b _)=>true|some (.t _)=>true|_=>false⟩
  | none=>⟨fun _=>false⟩
/-- A region in the text's order. -/
noncomputable def textK(P:Program)(dx:DX)(l:List Oper):List Oper→KS
 | []=>⟨fun _ _ st=>.n st⟩
 | o::r=>match opK P o.op,dstK o.dst,guardK l o,gokK l o,textK P dx l r with
  | ⟨f⟩,⟨d⟩,⟨g⟩,⟨gk⟩,⟨k⟩=>⟨fun F rd st=>match gk st.e with
   | false=>.bad
   | true=>match g st.e with
    | false=>k F rd ⟨d st.e .undef,st.m,st.ds⟩
    | true=>match dx.run F rd st (f st.e st.m) with
     | .v x m ds=>k F rd ⟨d st.e x,m,ds⟩
     | .bad=>.bad⟩
noncomputable def xNoneOf(K:List Nat)(n:Nat):List Nat→Bool:=Nat.rec (motive:=fun _=>List Nat→Bool) (fun _=>true)
 (fun _ ih l=>match l with|[]=>true|k::l=>match K.any (Nat.beq k) with|true=>false|false=>ih l) n
/-- The one waits for the other. -/
noncomputable def xWaits(l:List Oper)(j i:Nat):Bool:=match l[j]? with
 | some o=>o.after.toList.any fun e=>Region.binds .any e&&e.on==i
 | none=>true
/-- What was read first and is not yet waited for must not be written. -/
noncomputable def xKeep(wt:Nat→Bool)(n:Nat)(lg:List Nat)(K:List (Nat×Nat)):Option (List (Nat×Nat)):=List.rec (motive:=fun _=>Option (List (Nat×Nat))) (some [])
 (fun a _ ih=>match wt a.1 with
  | true=>ih
  | false=>match xNoneOf [a.2] n lg with
   | true=>match ih with|some r=>some (a::r)|none=>none
   | false=>none) K
structure KH where
 run:Tr CV→Mem→Bool
noncomputable def xIsV:OR→Bool
 | .v _ _=>true
 | _=>false
/-- The early one may be carried out. -/
noncomputable def flK(P:Program)(l:List Oper):Option Nat→KH
 | none=>⟨fun _ _=>true⟩
 | some f=>match l[f]? with
  | some o=>match opK P o.op with|⟨g⟩=>⟨fun e m=>xIsV (g e m)⟩
  | none=>⟨fun _ _=>false⟩
/-- A region whose order is open. -/
noncomputable def anyK(P:Program)(l:List Oper)(fo:KH):List (Nat×Bool×Bool)→KD
 | []=>⟨fun _ _ _ st=>.n st⟩
 | (i,tk,fp)::r=>match l[i]?,anyK P l fo r with
  | none,_=>⟨fun _ _ _ _=>.bad⟩
  | some o,⟨k⟩=>match opK P o.op,dstK o.dst,guardK l o,gokK l o,tk with
   | ⟨f⟩,⟨d⟩,⟨g⟩,⟨gk⟩,true=>⟨fun F rd K st=>match gk st.e with
    | true=>match g st.e with
     | false=>k F rd K ⟨d st.e .undef,st.m,st.ds⟩
     | true=>match f st.e st.m with
      | .rd x q=>match xOkV x with
       | true=>k F rd ((i,q)::K) ⟨d st.e x,st.m,st.ds⟩
       | false=>.bad
      | .v x m=>match Nat.beq m.nx st.m.nx with
       | true=>k F rd K ⟨d st.e x,st.m,st.ds⟩
       | false=>.bad
      | _=>.bad
    | false=>.bad⟩
   | ⟨f⟩,⟨d⟩,⟨g⟩,⟨gk⟩,false=>⟨fun F rd K st=>match (match fp with|true=>fo.run st.e st.m|false=>true),gk st.e with
    | true,true=>match (match g st.e with|false=>OV.v .undef st.m st.ds|true=>doOR F st (f st.e st.m)) with
     | .v x m ds=>match xKeep (xWaits l i) (Nat.sub m.ln st.m.ln) m.log K with
      | some K=>k F rd K ⟨d st.e x,m,ds⟩
      | none=>.bad
     | .bad=>.bad
    | _,_=>.bad⟩
noncomputable def xSlotsN(n:Nat):List Oper→Bool
 | []=>true
 | o::l=>match o.dst with
  | some d=>match Nat.ble (Nat.succ d) n with|true=>xSlotsN n l|false=>false
  | none=>xSlotsN n l
/-- A drawn region that starts no goroutine. -/
noncomputable def drawK(P:Program)(l:List Oper):KS:=match Apw l,P.follows .mixedOrders with
 | true,true =>
  let p:=xPlan l (xFloat l) l.length (List.replicate l.length false)
  let pz:=xPz p
  match xGood l (xFloat l) pz p (List.replicate l.length false),anyK P l (flK P l (xFloat l)) p with
  | true,⟨k⟩=>⟨fun F rd st=>k F rd [] st⟩
  | false,_=>⟨fun _ _ _=>.bad⟩
 | _,_=>⟨fun _ _ _=>.bad⟩
noncomputable def xGoLast(l:List Oper):Bool:=match l.getLast? with
 | some o=>match o.op with | .go _=>true|_=>false
 | none=>false
noncomputable def regK(P:Program)(dx:DX)(n:Nat)(l:List Oper)(draw:Bool):KS:=match xSlotsN n l with
 | false=>⟨fun _ _ _=>.bad⟩
 | true=>match draw with
  | false=>textK P dx l l
  | true=>match xGoLast l,dx.gl with
   | false,_=>drawK P l
   | true,false=>⟨fun _ _ _=>.bad⟩
   | true,true=>match Adh (l.take (l.length-1)),Amp (l.take (l.length-1)) l,drawK P (l.take (l.length-1)),textK P dx l (l.drop (l.length-1)) with
    | true,true,⟨f⟩,⟨g⟩=>⟨fun F rd st=>match f F rd st with | .n st=>g F rd st|_=>.bad⟩
    | _,_,_,_=>⟨fun _ _ _=>.bad⟩
structure KC where
 run:Fns→Option Nat→St→R
noncomputable def xLoopR(f:Fns→Option Nat→St→R)(F:Fns)(rd:Option Nat)(n:Nat):St→R:=Nat.rec (motive:=fun _=>St→R) (fun _=>.bad)
 (fun _ ih st=>match f F rd st with | .n st=>ih st|y=>y) n
/-- A range over a function,from where its record has been laid. -/
noncomputable def xRange(F:Fns)(n:Nat)(ps:List Tmp)(as_ body:Code)(g:FuncId)(ys:List CV)(e:Tr CV)(dk:Nat)(m:Mem)(ds:List CD):R :=
 match F.call g (.y m.nx::ys) (m.add (.loop 0 none n e ps as_ body dk)) with
 | .v _ m'=>match m'.M.get m.nx with
  | some (.own (.loop b pd n' env ps' as' body' dk'))=>match Nat.beq b 1 with
   | true=>.bad
   | false=>match pd with
    | none=>.n ⟨e,xRest (m'.put m.nx (.loop 3 none n' env ps' as' body' dk')) m.outs,ds⟩
    | some c=>match c with
     | .exit id=>.x id ⟨e,xRest (m'.put m.nx (.loop 3 pd n' env ps' as' body' dk')) m.outs,ds⟩
     | .ret=>.r ⟨e,xRest (m'.put m.nx (.loop 3 pd n' env ps' as' body' dk')) m.outs,ds⟩
     | _=>.bad
  | _=>.bad
 | .bad=>.bad
noncomputable def codeK(P:Program)(dx:DX)(n:Nat):Code→KC
 | .skip=>⟨fun _ _ st=>.n st⟩
 | .region _ ops draw=>match regK P dx n ops.toList draw with|⟨k⟩=>⟨fun F rd st=>k F rd st⟩
 | .seq a b=>match codeK P dx n a,codeK P dx n b with
  | ⟨f⟩,⟨g⟩=>⟨fun F rd st=>match f F rd st with | .n st=>g F rd st|y=>y⟩
 | .cond c a b=>match rdK c,codeK P dx n a,codeK P dx n b with
  | ⟨c⟩,⟨f⟩,⟨g⟩=>⟨fun F rd st=>match c st.e with | .b true=>f F rd st | .b false=>g F rd st|_=>.bad⟩
 | .block id a=>match codeK P dx n a with
  | ⟨f⟩=>⟨fun F rd st=>match f F rd st with | .x j st=>(match Nat.beq j id with|true=>.n st|false=>.x j st)|y=>y⟩
 | .loop a=>match codeK P dx n a with|⟨f⟩=>⟨fun F rd st=>xLoopR f F rd 1000000 st⟩
 | .scope a=>match codeK P dx n a with|⟨f⟩=>⟨fun F rd st=>f F rd st⟩
 | .label _=>⟨fun _ _ st=>.n st⟩
 | .exit id=>⟨fun _ _ st=>.x id st⟩
 | .ret=>⟨fun _ _ st=>.r st⟩
 | .rangeFunc f ps as_ body=>match rdK f,xAllLt n ps.toList with
  | ⟨f⟩,true=>⟨fun F rd st=>match f st.e with
   | .f g [] ys=>match xHasBody P g with
    | true=>match rd with
     | some l=>match st.m.M.get l with|some (.own (.loop _ _ _ _ _ _ _ dk))=>xRange F n ps.toList as_ body g ys st.e dk st.m st.ds|_=>.bad
     | none=>xRange F n ps.toList as_ body g ys st.e st.m.nx (st.m.add .defd) (.mark st.m.nx::st.ds)
    | false=>.bad
   | _=>.bad⟩
  | _,false=>⟨fun _ _ _=>.bad⟩
 | _=>⟨fun _ _ _=>.bad⟩
structure KR where
 run:Tr CV→Mem→Option (List CV)
noncomputable def resK(P:Program):List ResultVar→KR
 | []=>⟨fun _ _=>some []⟩
 | .tmp t::l=>match resK P l with|⟨g⟩=>⟨fun e m=>match g e m with|some r=>some ((match e.get t with|some v=>v|none=>.bad)::r)|none=>none⟩
 | .cell a t::l=>match resK P l,partK P t with
  | ⟨g⟩,⟨h⟩=>⟨fun e m=>match e.get a with
   | some (.p k off)=>match m.row k with
    | some c=>match h (xDrp off c),g e m with|some v,some r=>some (v::r)|_,_=>none
    | none=>none
   | _=>none⟩
structure KF where
 run:Fns→List CV→Mem→RV
noncomputable def xDefersR(l:List CD):Mem→Option Mem:=List.rec (motive:=fun _=>Mem→Option Mem) (fun m=>some m)
 (fun d _ ih m=>match d with
  | .mark k=>match m.M.get k with|some (.own .defd)=>ih (m.put k .dead)|_=>none
  | .close _=>none) l
noncomputable def xFin(h:Tr CV→Mem→Option (List CV))(st:St):RV:=match xDefersR st.ds st.m with
 | some m=>match h st.e m with
  | some [v]=>.v v m
  | some l=>.v (.t l) m
  | none=>.bad
 | none=>.bad
noncomputable def funK(P:Program)(g:Nat):KF:=match P.funcs[g]? with
 | some fn=>match fn.body with
  | some c=>match codeK P doX fn.ntmps c,resK P fn.results.toList,fn.ntmps with
   | ⟨f⟩,⟨h⟩,n=>⟨fun F args m=>match Nat.ble (xLen args) n with
    | true=>match f F none ⟨xArgEnv args 0 .leaf,m,[]⟩ with
     | .n st=>xFin h st
     | .r st=>xFin h st
     | _=>.bad
    | false=>.bad⟩
  | none=>⟨fun _ _ _=>.bad⟩
 | none=>⟨fun _ _ _=>.bad⟩
/-- The operations before the last one,in the text's order. -/
structure KQ where
 run:Fns→St→Option St
noncomputable def preK(P:Program)(l:List Oper):List Oper→KQ
 | []=>⟨fun _ st=>some st⟩
 | o::r=>match opK P o.op,dstK o.dst,guardK l o,gokK l o,preK P l r with
  | ⟨f⟩,⟨d⟩,⟨g⟩,⟨gk⟩,⟨k⟩=>⟨fun F st=>match gk st.e with
   | false=>none
   | true=>match g st.e with
    | false=>k F ⟨d st.e .undef,st.m,st.ds⟩
    | true=>match doOR F st (f st.e st.m) with
     | .v x m ds=>k F ⟨d st.e x,m,ds⟩
     | .bad=>none⟩
/-- The last region. -/
noncomputable def xTail:Code→Option (Code×Nat×List Oper)
 | .seq a b=>match xTail b with|some (c,i,l)=>some (.seq a c,i,l)|none=>none
 | .region i ops false=>some (.skip,i,ops.toList)
 | _=>none
structure KM where
 run:Fns→List CV→Mem→Option (Nat×CV×Mem)
noncomputable def xSendOf(o:Oper):Option (Operand×Operand):=match o.op,o.guard with
 | .send x y,none=>some (x,y)
 | _,_=>none
/-- A worker that sends one value. -/
noncomputable def msgK(P:Program)(g:Nat):KM:=match P.funcs[g]?,xHasBody P g with
 | some fn,true=>match fn.body,fn.results.toList with
  | some c,[]=>match xTail c with
   | some (c,_,l)=>match l.getLast?,xSlotsN fn.ntmps l with
    | some so,true=>match xSendOf so with
     | some (x,y)=>match codeK P doX fn.ntmps c,preK P l l.dropLast,rdK x,rdK y,fn.ntmps with
      | ⟨f⟩,⟨p⟩,⟨x⟩,⟨y⟩,n=>⟨fun F args m=>match Nat.ble (xLen args) n with
       | true=>match f F none ⟨xArgEnv args 0 .leaf,m,[]⟩ with
        | .n st=>match p F st with
         | some st=>match st.ds,x st.e with
          | [],.c k=>some (k,y st.e,st.m)
          | _,_=>none
         | none=>none
        | _=>none
       | false=>none⟩
     | none=>⟨fun _ _ _=>none⟩
    | _,_=>⟨fun _ _ _=>none⟩
   | none=>⟨fun _ _ _=>none⟩
  | _,_=>⟨fun _ _ _=>none⟩
 | _,_=>⟨fun _ _ _=>none⟩
structure KX where
 run:Fns→List CV→Mem→Nat→Option (List CV)
noncomputable def xFinS(k:Nat)(st:St):Option (List CV):=match st.ds with|[.close j]=>(match Nat.beq j k with|true=>some st.m.outs|false=>none)|_=>none
/-- A sender. -/
noncomputable def sendK(P:Program)(g:Nat):KX:=match P.funcs[g]?,xHasBody P g with
 | some fn,true=>match fn.body,fn.results.toList with
  | some c,[]=>match codeK P doS fn.ntmps c,fn.ntmps with
   | ⟨f⟩,n=>⟨fun F args m k=>match Nat.ble (xLen args) n with
    | true=>match f ⟨false,k,F.code,F.call,F.send,F.msg⟩ none ⟨xArgEnv args 0 .leaf,m,[]⟩ with
     | .n st=>xFinS k st
     | .r st=>xFinS k st
     | _=>none
    | false=>none⟩
  | _,_=>⟨fun _ _ _ _=>none⟩
 | _,_=>⟨fun _ _ _ _=>none⟩
/-- The runs of a worker's functions,n calls deep. -/
noncomputable def xWF(P:Program)(n:Nat):Fns:=Nat.rec ⟨false,0,fun _ _ _ _=>.bad,fun _ _ _=>.bad,fun _ _ _ _=>none,fun _ _ _=>none⟩
 (fun _ F=>⟨false,0,fun n rd c st=>match codeK P doX n c with|⟨f⟩=>f F rd st,fun g args m=>match funK P g with|⟨f⟩=>f F args m,fun _ _ _ _=>none,fun _ _ _=>none⟩) n
theorem Asr{α:Type}(a b:α)(x y:Nat):(Bool.rec a b (Nat.beq x y):α)=if x=y then b else a:=by
 by_cases h:x=y
 ·subst h;simp
 ·have:Nat.beq x y=false:=by
   cases hb:Nat.beq x y with
   | false=>rfl
   | true=>exact absurd (lZ7 hb) h
  rw[this,if_neg h]
theorem Tr.get_leaf{α:Type}(k:Nat):(Tr.leaf:Tr α).get k=none:=rfl
theorem Tr.get_node{α:Type}(v:Option α)(l r:Tr α)(k:Nat):(Tr.node v l r).get k=if k=0 then v else if k%2=0 then r.get (k/2-1) else l.get (k/2):=by
 show (Bool.rec (Bool.rec (l.get (k/2)) (r.get (k/2-1)) (Nat.beq (k%2) 0)) v (Nat.beq k 0):Option α)=_
 rw[Asr,Asr]
theorem Tr.put_leaf{α:Type}(n k:Nat)(a:α):Tr.put (n+1) .leaf k a=if k=0 then .node (some a) .leaf .leaf else if k%2=0 then .node none .leaf (Tr.put n .leaf (k/2-1) a) else .node none (Tr.put n .leaf (k/2) a) .leaf:=by
 show (Bool.rec (Bool.rec (.node none (Tr.put n .leaf (k/2) a) .leaf) (.node none .leaf (Tr.put n .leaf (k/2-1) a)) (Nat.beq (k%2) 0)) (.node (some a) .leaf .leaf) (Nat.beq k 0):Tr α)=_
 rw[Asr,Asr]
theorem Tr.put_node{α:Type}(n k:Nat)(v:Option α)(l r:Tr α)(a:α):Tr.put (n+1) (.node v l r) k a=if k=0 then .node (some a) l r else if k%2=0 then .node v l (Tr.put n r (k/2-1) a) else .node v (Tr.put n l (k/2) a) r:=by
 show (Bool.rec (Bool.rec (.node v (Tr.put n l (k/2) a) r) (.node v l (Tr.put n r (k/2-1) a)) (Nat.beq (k%2) 0)) (.node (some a) l r) (Nat.beq k 0):Tr α)=_
 rw[Asr,Asr]
theorem Tr.get_put{α:Type}:∀(n:Nat) (t:Tr α) (k:Nat) (a:α) (j:Nat),k<n→(Tr.put n t k a).get j=if j=k then some a else t.get j
 | 0,_,_,_,_,h=>absurd h (Aeq _)
 | n+1,t,k,a,j,h=>by
  have key:∀(v:Option α) (l r:Tr α),(Tr.put (n+1) (.node v l r) k a).get j=if j=k then some a else (Tr.node v l r).get j:=fun v l r=>by
   rw[Tr.put_node]
   by_cases hk:k=0
   ·subst hk
    rw[if_pos rfl,Tr.get_node,Tr.get_node]
    by_cases hj:j=0
    ·rw[if_pos hj,if_pos hj]
    ·rw[if_neg hj,if_neg hj,if_neg hj]
   ·rw[if_neg hk]
    by_cases h2:k%2=0
    ·rw[if_pos h2,Tr.get_node,Tr.get_node,Tr.get_put n r _ a _ (by omega)]
     by_cases hj:j=0
     ·subst hj;rw[if_pos rfl,if_pos rfl,if_neg (by omega)]
     ·rw[if_neg hj,if_neg hj]
      by_cases hj2:j%2=0
      ·rw[if_pos hj2,if_pos hj2]
       by_cases hjk:j=k
       ·rw[if_pos (by omega),if_pos hjk]
       ·rw[if_neg (by omega),if_neg hjk]
      ·rw[if_neg hj2,if_neg hj2,if_neg (by omega)]
    ·rw[if_neg h2,Tr.get_node,Tr.get_node,Tr.get_put n l _ a _ (by omega)]
     by_cases hj:j=0
     ·subst hj;rw[if_pos rfl,if_pos rfl,if_neg (by omega)]
     ·rw[if_neg hj,if_neg hj]
      by_cases hj2:j%2=0
      ·rw[if_pos hj2,if_pos hj2,if_neg (by omega)]
      ·rw[if_neg hj2,if_neg hj2]
       by_cases hjk:j=k
       ·rw[if_pos (by omega),if_pos hjk]
       ·rw[if_neg (by omega),if_neg hjk]
  cases t with
  | node v l r=>exact key v l r
  | leaf =>
   have e:Tr.put (n+1) .leaf k a=Tr.put (n+1) (.node none .leaf .leaf) k a:=by rw[Tr.put_leaf,Tr.put_node]
   rw[e,key none .leaf .leaf,Tr.get_node,Tr.get_leaf]
   simp[Tr.get_leaf]
theorem Tr.get_set{α:Type}(t:Tr α)(k:Nat)(a:α)(j:Nat):(t.set k a).get j=if j=k then some a else t.get j:=Tr.get_put _ t k a j (Ain _)
theorem Uf{α:Type}:∀(n:Nat) (l:List α),xDrp n l=l.drop n
 | 0,l=>rfl
 | n+1,[]=>by simp[xDrp]
 | n+1,a::l=>Uf n l
theorem Ui{α:Type}:∀(n:Nat) (l r:List α),xTkn n l=some r→n≤l.length∧r=l.take n
 | 0,l,r,h=>by cases h;exact⟨Mq _,rfl⟩
 | n+1,[],r,h=>by cases h
 | n+1,a::l,r,h=>by
  have h':(match xTkn n l with|some r=>some (a::r)|none=>none)=some r:=h
  cases hx:xTkn n l with
  | none=>rw[hx]at h';cases h'
  | some r' =>
   rw[hx]at h';cases h'
   obtain⟨b,c⟩:=Ui n l r' hx
   exact⟨Aqa b,by rw[c];rfl⟩
theorem Xw{α:Type}:∀(n:Nat) (l:List α),xNth n l=l[n]?
 | 0,[]=>rfl
 | 0,a::l=>rfl
 | n+1,[]=>rfl
 | n+1,a::l=>by rw[Sl];exact Xw n l
theorem Ho{α:Type}:∀(x y:List α),xApp x y=x++y
 | [],y=>rfl
 | a::x,y=>by rw[Nu,←Ho x y];rfl
theorem Fv{α:Type}:∀(x:List α),xLen x=x.length
 | []=>rfl
 | a::x=>by rw[lZ2,←Fv x];rfl
theorem Asl:∀(vs l r:List CV),xOver vs l=some r→vs.length≤l.length∧r=vs++l.drop vs.length
 | [],l,r,h=>by cases h;exact⟨Mq _,rfl⟩
 | v::vs,[],r,h=>by cases h
 | v::vs,a::l,r,h=>by
  have h':(match xOver vs l with|some r=>some (v::r)|none=>none)=some r:=h
  cases hx:xOver vs l with
  | none=>rw[hx]at h';cases h'
  | some r' =>
   rw[hx]at h';cases h'
   obtain⟨b,c⟩:=Asl vs l r' hx
   exact⟨Aqa b,by rw[c];rfl⟩
theorem Ags:∀(n:Nat) (vs l r:List CV),xSetL n vs l=some r→n+vs.length≤l.length∧r=l.take n++(vs++l.drop (n+vs.length))
 | 0,vs,l,r,h=>by
  obtain⟨h1,h2⟩:=Asl vs l r h
  exact⟨by omega,by rw[h2];simp⟩
 | n+1,vs,[],r,h=>by cases h
 | n+1,vs,a::l,r,h=>by
  have h':(match xSetL n vs l with|some r=>some (a::r)|none=>none)=some r:=h
  cases hx:xSetL n vs l with
  | none=>rw[hx]at h';cases h'
  | some r' =>
   rw[hx]at h';cases h'
   obtain⟨h1,h2⟩:=Ags n vs l r' hx
   refine⟨by simp only[lZ2];omega,?_⟩
   rw[h2,show n+1+vs.length=(n+vs.length)+1 by omega];rfl
/-- Where the blocks of one's own numbers lie,and how many elements a row that grows has room for. -/
abbrev XR:=Nat→Option (Nat×Nat)
def XR.le(R R':XR):Prop:=∀k q,R k=some q→R' k=some q
theorem XR.le.refl{R:XR}:XR.le R R:=fun _ _ h=>h
theorem XR.le.trans{R R' R'':XR}(h:XR.le R R')(h':XR.le R' R''):XR.le R R'':=fun k q hk=>h' k q (h k q hk)
inductive VR(R:XR):List CV→List Value→Prop
 | nil:VR R [] []
 | bad {l:List CV} {l':List Value} (v:Value):VR R l l'→VR R (.bad::l) (v::l')
 | b {l:List CV} {l':List Value} (x:Bool):VR R l l'→VR R (.b x::l) (.bool x::l')
 | i {l:List CV} {l':List Value} (k:IntKind) (n:Int):VR R l l'→VR R (.i k n::l) (.int k n::l')
 | s {l:List CV} {l':List Value} (x:List UInt8):VR R l l'→VR R (.s x::l) (.string ⟨x.toArray⟩::l')
 | pn {l:List CV} {l':List Value}:VR R l l'→VR R (.pn::l) (.pointer none::l')
 | p {l:List CV} {l':List Value} {k off b c:Nat}:R k=some (b,c)→VR R l l'→VR R (.p k off::l) (.pointer (some ⟨b,off,none⟩)::l')
 | sn {l:List CV} {l':List Value}:VR R l l'→VR R (.sn::l) (.slice none 0 0::l')
 | slK {l:List CV} {l':List Value} {k off ln cp b c:Nat}:R k=some (b,c)→VR R l l'→VR R (.sl k off ln true cp::l) (.slice (some ⟨b,off,none⟩) ln cp::l')
 | slU {l:List CV} {l':List Value} {k off ln a b c:Nat}:R k=some (b,c)→VR R l l'→VR R (.sl k off ln false a::l) (.slice (some ⟨b,off,none⟩) ln (c-a)::l')
 | mn {l:List CV} {l':List Value}:VR R l l'→VR R (.mn::l) (.map none::l')
 | m {l:List CV} {l':List Value} {k b c:Nat}:R k=some (b,c)→VR R l l'→VR R (.m k::l) (.map (some b)::l')
 | cn {l:List CV} {l':List Value}:VR R l l'→VR R (.cn::l) (.chan none::l')
 | c {l:List CV} {l':List Value} {k b c:Nat}:R k=some (b,c)→VR R l l'→VR R (.c k::l) (.chan (some b)::l')
 | fn {l:List CV} {l':List Value}:VR R l l'→VR R (.fn::l) (.nilFunc::l')
 | f {l xs ys:List CV} {l' xs' ys':List Value} (g:Nat):VR R xs xs'→VR R ys ys'→VR R l l'→VR R (.f g xs ys::l) (.func (.func g) xs'.toArray ys'.toArray::l')
 | y {l:List CV} {l':List Value} {k b c:Nat}:R k=some (b,c)→VR R l l'→VR R (.y k::l) (.func (.yield b) #[] #[]::l')
 | n {l:List CV} {l':List Value}:VR R l l'→VR R (.n::l) (.nilIface::l')
 | a {l:List CV} {l':List Value} {v:CV} {v':Value} (t:Nat):VR R [v] [v']→VR R l l'→VR R (.a t v::l) (.iface t v'::l')
 | g {l xs:List CV} {l' xs':List Value}:VR R xs xs'→VR R l l'→VR R (.g xs::l) (.agg xs'.toArray::l')
 | t {l xs:List CV} {l' xs':List Value}:VR R xs xs'→VR R l l'→VR R (.t xs::l) (.tuple xs'.toArray::l')
abbrev V1(R:XR)(v:CV)(v':Value):Prop:=VR R [v] [v']
theorem VR.cons_iff{R:XR}{v:CV}{v':Value}{l:List CV}{l':List Value}:VR R (v::l) (v'::l')↔V1 R v v'∧VR R l l':=by
 constructor
 ·intro h
  cases h with
  | bad _ h=>exact⟨.bad _ .nil,h⟩
  | b _ h=>exact⟨.b _ .nil,h⟩
  | i _ _ h=>exact⟨.i _ _ .nil,h⟩
  | s _ h=>exact⟨.s _ .nil,h⟩
  | pn h=>exact⟨.pn .nil,h⟩
  | p h1 h=>exact⟨.p h1 .nil,h⟩
  | sn h=>exact⟨.sn .nil,h⟩
  | slK h1 h=>exact⟨.slK h1 .nil,h⟩
  | slU h1 h=>exact⟨.slU h1 .nil,h⟩
  | mn h=>exact⟨.mn .nil,h⟩
  | m h1 h=>exact⟨.m h1 .nil,h⟩
  | cn h=>exact⟨.cn .nil,h⟩
  | c h1 h=>exact⟨.c h1 .nil,h⟩
  | fn h=>exact⟨.fn .nil,h⟩
  | f g h1 h2 h=>exact⟨.f g h1 h2 .nil,h⟩
  | y h1 h=>exact⟨.y h1 .nil,h⟩
  | n h=>exact⟨.n .nil,h⟩
  | a t h1 h=>exact⟨.a t h1 .nil,h⟩
  | g h1 h=>exact⟨.g h1 .nil,h⟩
  | t h1 h=>exact⟨.t h1 .nil,h⟩
 ·rintro⟨h,h'⟩
  cases h with
  | bad _ _=>exact .bad _ h'
  | b _ _=>exact .b _ h'
  | i _ _ _=>exact .i _ _ h'
  | s _ _=>exact .s _ h'
  | pn _=>exact .pn h'
  | p h1 _=>exact .p h1 h'
  | sn _=>exact .sn h'
  | slK h1 _=>exact .slK h1 h'
  | slU h1 _=>exact .slU h1 h'
  | mn _=>exact .mn h'
  | m h1 _=>exact .m h1 h'
  | cn _=>exact .cn h'
  | c h1 _=>exact .c h1 h'
  | fn _=>exact .fn h'
  | f g h1 h2 _=>exact .f g h1 h2 h'
  | y h1 _=>exact .y h1 h'
  | n _=>exact .n h'
  | a t h1 _=>exact .a t h1 h'
  | g h1 _=>exact .g h1 h'
  | t h1 _=>exact .t h1 h'
theorem VR.len{R:XR}:∀{l:List CV} {l':List Value},VR R l l'→l.length=l'.length
 | [],[],_=>rfl
 | v::l,v'::l',h=>by rw[lZ2,lZ2,(VR.cons_iff.1 h).2.len]
 | [],_::_,h=>by cases h
 | _::_,[],h=>by cases h
theorem VR.mono{R R':XR}(hR:XR.le R R'){l:List CV}{l':List Value}(h:VR R l l'):VR R' l l':=by
 induction h with
 | nil=>exact .nil
 | bad _ _ ih=>exact .bad _ ih
 | b _ _ ih=>exact .b _ ih
 | i _ _ _ ih=>exact .i _ _ ih
 | s _ _ ih=>exact .s _ ih
 | pn _ ih=>exact .pn ih
 | p h _ ih=>exact .p (hR _ _ h) ih
 | sn _ ih=>exact .sn ih
 | slK h _ ih=>exact .slK (hR _ _ h) ih
 | slU h _ ih=>exact .slU (hR _ _ h) ih
 | mn _ ih=>exact .mn ih
 | m h _ ih=>exact .m (hR _ _ h) ih
 | cn _ ih=>exact .cn ih
 | c h _ ih=>exact .c (hR _ _ h) ih
 | fn _ ih=>exact .fn ih
 | f g _ _ _ i1 i2 ih=>exact .f g i1 i2 ih
 | y h _ ih=>exact .y (hR _ _ h) ih
 | n _ ih=>exact .n ih
 | a t _ _ i1 ih=>exact .a t i1 ih
 | g _ _ i1 ih=>exact .g i1 ih
 | t _ _ i1 ih=>exact .t i1 ih
theorem VR.app{R:XR}:∀{l k:List CV} {l' k':List Value},VR R l l'→VR R k k'→VR R (l++k) (l'++k')
 | [],_,[],_,_,h=>h
 | v::l,_,v'::l',_,h,h'=>VR.cons_iff.2 ⟨(VR.cons_iff.1 h).1,(VR.cons_iff.1 h).2.app h'⟩
 | [],_,_::_,_,h,_=>by cases h
 | _::_,_,[],_,h,_=>by cases h
theorem VR.drop{R:XR}:∀(d:Nat) {l:List CV} {l':List Value},VR R l l'→VR R (l.drop d) (l'.drop d)
 | 0,_,_,h=>h
 | d+1,[],[],_=>.nil
 | d+1,v::l,v'::l',h=>(VR.cons_iff.1 h).2.drop d
 | _+1,[],_::_,h=>by cases h
 | _+1,_::_,[],h=>by cases h
theorem VR.take{R:XR}:∀(d:Nat) {l:List CV} {l':List Value},VR R l l'→VR R (l.take d) (l'.take d)
 | 0,_,_,h=>.nil
 | d+1,[],[],_=>.nil
 | d+1,v::l,v'::l',h=>VR.cons_iff.2 ⟨(VR.cons_iff.1 h).1,(VR.cons_iff.1 h).2.take d⟩
 | _+1,[],_::_,h=>by cases h
 | _+1,_::_,[],h=>by cases h
theorem VR.at{R:XR}:∀{d:Nat} {l:List CV} {l':List Value} {v:CV},VR R l l'→l[d]?=some v→∃v',l'[d]?=some v'∧V1 R v v'
 | 0,v::l,v'::l',_,h,e=>by cases e;exact⟨v',rfl,(VR.cons_iff.1 h).1⟩
 | d+1,v::l,v'::l',_,h,e=>by
  rw[Sl]at e
  obtain⟨w,h1,h2⟩:=(VR.cons_iff.1 h).2.at e
  exact⟨w,by rw[Sl];exact h1,h2⟩
 | _,[],_,_,_,e=>by cases e
 | _,_::_,[],_,h,_=>by cases h
/-- A constant's value stands for it. -/
theorem Bld(R:XR)(v:Value):V1 R (xOf0 v) v:=by
 unfold xOf0
 split
 ·exact .b _ .nil
 ·exact .i _ _ .nil
 ·rename_i x
  have:x=⟨x.data.toList.toArray⟩:=by simp
  exact this ▸ VR.s _ .nil
 ·exact .pn .nil
 ·exact .sn .nil
 ·exact .mn .nil
 ·exact .cn .nil
 ·exact .fn .nil
 ·exact .n .nil
 ·rename_i g xs ys
  split
  ·rename_i h1 h2
   have a:xs=([]:List Value).toArray:=by rw[←h1]
   have c:ys=([]:List Value).toArray:=by rw[←h2]
   rw[a,c]
   exact .f g .nil .nil .nil
  ·exact .bad _ .nil
 ·exact .bad _ .nil
theorem Ble(R:XR)(v:Value):V1 R (xOf1 v) v:=by
 unfold xOf1
 split
 ·exact .a _ (Bld R _) .nil
 ·exact Bld R v
theorem Bgf(R:XR):∀(l:List Value),VR R (l.map xOf1) l
 | []=>.nil
 | v::l=>VR.cons_iff.2 ⟨Ble R v,Bgf R l⟩
theorem vOf(R:XR)(v:Value):V1 R (xOfV v) v:=by
 unfold xOfV
 split
 ·rename_i l
  have:=VR.g (Bgf R l.toList) (VR.nil (R:=R))
  rwa[Ww]at this
 ·rename_i l
  have:=VR.t (Bgf R l.toList) (VR.nil (R:=R))
  rwa[Ww]at this
 ·exact Ble R v
theorem V1.cells{R:XR}{v:CV}{v':Value}{l:List CV}(h:V1 R v v')(hl:v.cells=some l):VR R l v'.cells.toList:=by
 cases h with
 | bad=>cases hl
 | g h1 _=>cases hl;simpa[Value.cells]using h1
 | b=>cases hl;exact .b _ .nil
 | i=>cases hl;exact .i _ _ .nil
 | s=>cases hl;exact .s _ .nil
 | pn=>cases hl;exact .pn .nil
 | p h1=>cases hl;exact .p h1 .nil
 | sn=>cases hl;exact .sn .nil
 | slK h1=>cases hl;exact .slK h1 .nil
 | slU h1=>cases hl;exact .slU h1 .nil
 | mn=>cases hl;exact .mn .nil
 | m h1=>cases hl;exact .m h1 .nil
 | cn=>cases hl;exact .cn .nil
 | c h1=>cases hl;exact .c h1 .nil
 | fn=>cases hl;exact .fn .nil
 | f g h1 h2=>cases hl;exact .f g h1 h2 .nil
 | y h1=>cases hl;exact .y h1 .nil
 | n=>cases hl;exact .n .nil
 | a t h1=>cases hl;exact .a t h1 .nil
 | t h1=>cases hl;exact .t h1 .nil
theorem Aup{a:CV}{l:List CV}(h:xAllC (a::l)=true):a.isCell=true∧xAllC l=true:=by
 have h':(match a.isCell with|true=>xAllC l|false=>false)=true:=h
 cases ha:a.isCell with
 | true=>rw[ha]at h';exact⟨rfl,h'⟩
 | false=>rw[ha]at h';cases h'
theorem V1.single{R:XR}{v:CV}{v':Value}(h:V1 R v v')(hc:v.isCell=true):single v'=true:=by
 cases h<;>first|rfl|(simp[CV.isCell]at hc)
theorem VR.singles{R:XR}:∀{l:List CV} {l':List Value},VR R l l'→xAllC l=true→∀x∈l',single x=true
 | [],[],_,_,x,hx=>by cases hx
 | v::l,v'::l',h,hc,x,hx=>by
  obtain⟨h1,h2⟩:=VR.cons_iff.1 h
  obtain⟨a,b⟩:=Aup hc
  rcases lZ8.1 hx with rfl|hx
  ·exact h1.single a
  ·exact h2.singles b x hx
 | [],_::_,h,_,_,_=>by cases h
 | _::_,[],h,_,_,_=>by cases h
end
section
open Go
def EnvR(R:XR)(e:Tr CV)(e':Env):Prop:=∀t v,e.get t=some v→V1 R v (e' t)
theorem EnvR.mono{R R':XR}{e:Tr CV}{e':Env}(h:EnvR R e e')(hR:XR.le R R'):EnvR R' e e':=fun t v ht=>(h t v ht).mono hR
theorem EnvR.set{R:XR}{e:Tr CV}{e':Env}(h:EnvR R e e'){d:Nat}{v:CV}{v':Value}(hv:V1 R v v'):EnvR R (e.set d v) (upd e' d v'):=fun t w ht=>by
 rw[Tr.get_set]at ht
 unfold upd
 by_cases hd:t=d
 ·rw[if_pos hd]at ht ⊢;cases ht;exact hv
 ·rw[if_neg hd]at ht ⊢;exact h t w ht
def stB:Nat→LoopState
 | 0=>.ready
 | 1=>.busy
 | 2=>.done
 | _=>.exhausted
def Axp(n:Nat)(fz:Nat×Nat):Prop:=∀i,i<n→(fz.1≤i&&i<fz.2)=false
/-- A message that is still to come: its value,its blocks,from which number on,and up to which,they are its own. -/
abbrev Od:=CV×List (Nat×Option Nat×List CV)×Nat×Nat
/-- A row that is only read. -/
def Bpb(R:XR)(c:Nat):Option Nat→List CV→Obj→Prop
 | none,l,o=>∃l' t fz,o = .cells (List.toArray l') t fz∧VR R l l'
 | some n,l,o=>∃l' rest t fz,o = .cells (List.toArray (l'++rest)) t fz∧VR R l l'∧l'.length+rest.length=c*n∧0<n
/-- What is true of a message's value. -/
def Ant(R0:XR)(q:Od)(v:Value)(ρ1:Ro):Prop :=
 ∃R1:XR,XR.le R0 R1∧V1 R1 q.1 v∧(∀x∈q.2.1,∃b c y,R1 x.1=some (b,c)∧ρ1 b=some y∧Bpb R1 c x.2.1 x.2.2 y)∧∀j z,R1 j=some z→j<q.2.2.2
/-- The numbers that a message speaks of. -/
noncomputable def xKeysM(q:Od):List Nat:=xKeysV q.1++q.2.1.flatMap fun x=>xKeysL x.2.2
def MsgsR(R:XR):List Od→List (Value→Ro→Prop)→Prop
 | [],[]=>True
 | q::ms,r::Rs=>(∃R0,XR.le R0 R∧(∀j∈xKeysM q,j<q.2.2.1→(R0 j).isSome=true)∧r=Ant R0 q)∧MsgsR R ms Rs
 | _,_=>False
theorem MsgsR.mono{R R':XR}(hR:XR.le R R'):∀{ms:List Od} {Rs:List (Value→Ro→Prop)},MsgsR R ms Rs→MsgsR R' ms Rs
 | [],[],_=>trivial
 | q::ms,r::Rs,⟨⟨R0,h1,h2,h3⟩,h⟩=>⟨⟨R0,h1.trans hR,h2,h3⟩,MsgsR.mono hR h⟩
theorem MsgsR.len{R:XR}:∀{ms:List Od} {Rs:List (Value→Ro→Prop)},MsgsR R ms Rs→ms.length=Rs.length
 | [],[],_=>rfl
 | q::ms,r::Rs,⟨_,h⟩=>by rw[lZ2,lZ2,h.len]
theorem MsgsR.app{R:XR}{q:Od}{r:Value→Ro→Prop}(hq:∃R0,XR.le R0 R∧(∀j∈xKeysM q,j<q.2.2.1→(R0 j).isSome=true)∧r=Ant R0 q):∀{ms:List Od} {Rs:List (Value→Ro→Prop)},MsgsR R ms Rs→MsgsR R (ms++[q]) (Rs++[r])
 | [],[],_=>⟨hq,trivial⟩
 | _::_,_::_,⟨h0,h⟩=>⟨h0,h.app hq⟩
theorem MsgsR.at{R:XR}:∀{ms:List Od} {Rs:List (Value→Ro→Prop)} {n:Nat} {r:Value→Ro→Prop},MsgsR R ms Rs→Rs[n]?=some r →
  ∃q,ms[n]?=some q∧(∃R0,XR.le R0 R∧(∀j∈xKeysM q,j<q.2.2.1→(R0 j).isSome=true)∧r=Ant R0 q)∧MsgsR R (ms.eraseIdx n) (Rs.eraseIdx n)
 | [],[],_,_,_,h=>by cases h
 | q::ms,r0::Rs,0,r,⟨h0,h⟩,e=>by cases e;exact⟨q,rfl,h0,h⟩
 | q::ms,r0::Rs,n+1,r,⟨h0,h⟩,e=>by
  rw[Sl]at e
  obtain⟨q',h1,h2,h3⟩:=h.at e
  exact⟨q',by rw[Sl];exact h1,h2,h0,h3⟩
/-- Nothing was ever taken out of a map: its entries bear their places. -/
structure BornOk(en:List MapEntry)(ck:Nat):Prop where
 at_:∀(i:Nat) (e:MapEntry),en[i]?=some e→e.born=i
 ck:ck=en.length
/-- What is held,and what it stands for. -/
inductive ObjR(R:XR)(c:Nat):CO→Res→Prop
 | cells {l:List CV} {l':List Value} {t:TypeId} {fz:Nat×Nat}:VR R l l'→Axp l'.length fz→ObjR R c (.cells l) (.obj (.cells l'.toArray t fz))
 | grow {n:Nat} {l:List CV} {l' rest:List Value} {t:TypeId} {fz:Nat×Nat}:VR R l l'→l'.length+rest.length=c*n→0<n→Axp (l'.length+rest.length) fz→ObjR R c (.grow n l) (.obj (.cells (l'++rest).toArray t fz))
 | map {es:List (CV×CV)} {en:List MapEntry} {ck:Nat}:VR R (es.map Prod.fst) (en.map MapEntry.key)→VR R (es.map Prod.snd) (en.map MapEntry.val)→BornOk en ck→ObjR R c (.map es) (.obj (.map en.toArray ck))
 | loop {busy n:Nat} {pd:Option Code} {env:Tr CV} {ps:List Tmp} {as_ body:Code} {dk b c':Nat} {L:Loop} {e':Env}:L.state=stB busy→L.pending=pd→EnvOf n L.tmps e'→EnvR R env e'→L.params=ps.toArray→L.assign=as_→L.body=body →
   R dk=some (b,c')→L.defers=b→ObjR R c (.loop busy pd n env ps as_ body dk) (.obj (.loop L))
 | defd:ObjR R c .defd (.obj (.deferred (some [])))
 | chan:ObjR R c .chan .chan
 | rcv {vs:List CV} {vs':List Value}:VR R vs vs'→ObjR R c (.rcv vs) (.recv vs')
 | crowd {k:Nat} {ms:List Od} {Rs:List (Value→Ro→Prop)}:MsgsR R ms Rs→ObjR R c (.crowd k ms) (.crowd k Rs)
 | iter {k n b c':Nat} {sn:List Nat}:R k=some (b,c')→ObjR R c (.iter k n sn) (.obj (.mapIter (some b) n sn.toArray n))
theorem ObjR.mono{R R':XR}{c:Nat}{o:CO}{r:Res}(h:ObjR R c o r)(hR:XR.le R R'):ObjR R' c o r:=by
 cases h with
 | cells h1 h2=>exact .cells (h1.mono hR) h2
 | grow h1 h2 h3 h4=>exact .grow (h1.mono hR) h2 h3 h4
 | map h1 h2 h3=>exact .map (h1.mono hR) (h2.mono hR) h3
 | loop h1 h2 h3 h4 h5 h6 h7 h8 h9=>exact .loop h1 h2 h3 (h4.mono hR) h5 h6 h7 (hR _ _ h8) h9
 | defd=>exact .defd
 | chan=>exact .chan
 | rcv h=>exact .rcv (h.mono hR)
 | crowd h=>exact .crowd (h.mono hR)
 | iter h=>exact .iter (hR _ _ h)
/-- The same,whatever of it is frozen. -/
def Bod:Obj→Nat×Nat→Obj
 | .cells c t _,f=>.cells c t f
 | o,_=>o
def ObjO(R:XR)(c:Nat)(o:CO)(x:Obj):Prop:=∃f,ObjR R c o (.obj (Bod x f))
theorem ObjO.mono{R R':XR}{c:Nat}{o:CO}{x:Obj}(h:ObjO R c o x)(hR:XR.le R R'):ObjO R' c o x:=let ⟨f,h⟩:=h;⟨f,h.mono hR⟩
theorem ObjO.of{R:XR}{c:Nat}{o:CO}{x:Obj}(h:ObjR R c o (.obj x)):ObjO R c o x:=by
 cases x with
 | cells cs t f=>exact⟨f,h⟩
 | _=>exact⟨(0,0),h⟩
/-- What is held beside σ₀ is just what the memory says;some blocks are forgotten. -/
structure MemR(R:XR)(m:Mem)(ρ:Ro)(σ σ₀:Own)(L:List (Nat×Nat×Res))(G:Own):Prop where
 perm:σ.Perm (L.map Prod.snd++(G++σ₀))
 nd:(L.map Prod.fst).Nodup
 own:∀p∈L,∃c o,R p.1=some (p.2.1,c)∧m.M.get p.1=some (.own o)∧ObjR R c o p.2.2
 all:∀k o,m.M.get k=some (.own o)→o ≠ .dead→∃q,(k,q)∈L
 ro:∀k o,m.M.get k=some (.ro o)→∃b c x,R k=some (b,c)∧ρ b=some x∧ObjO R c o x
 gar:∀p∈G,∃o,p.2=Res.obj o
 lt:∀k q,R k=some q→k<m.nx
 glob:∀k,k<16→R k=some (k,0)
def MemX(R:XR)(m:Mem)(ρ:Ro)(σ σ₀:Own):Prop:=∃L G,MemR R m ρ σ σ₀ L G
section
variable{R:XR}{m:Mem}{ρ:Ro}{σ σ₀:Own}{L:List (Nat×Nat×Res)}{G:Own}
theorem Bjd{σ τ:Own}{x:Nat×Res}(h:σ.Perm τ)(hx:x∈τ):∃i:Nat,σ[i]?=some x:=Aau (h.mem_iff.2 hx)
theorem Afm{x x':Nat×Res}:∀{i:Nat} {σ τ:Own},σ.Perm (x::τ)→σ[i]?=some x→(σ.set i x').Perm (x'::τ):=fun {i σ τ} h hi=>by
 have hlt:i<σ.length:=by
  rcases Mg i σ.length with h'|h'
  ·exact h'
  ·rw[Og h']at hi;cases hi
 have b:(σ.set i x').Perm (x'::σ.eraseIdx i):=by
  clear h hi
  induction σ generalizing i with
  | nil=>cases hlt
  | cons a σ ih =>
   cases i with
   | zero=>exact .refl _
   | succ i=>exact((ih (by simpa using hlt)).cons a).trans (.swap ..)
 have c:σ.Perm (x::σ.eraseIdx i):=by
  clear h b
  induction σ generalizing i with
  | nil=>cases hlt
  | cons a σ ih =>
   cases i with
   | zero=>cases hi;exact .refl _
   | succ i =>
    rw[Sl]at hi
    exact((ih hi (by simpa using hlt)).cons a).trans (.swap ..)
 exact b.trans (.cons _ (c.symm.trans h).cons_inv)
theorem Ny{L:List (Nat×Nat×Res)}{p:Nat×Nat×Res}(h:p∈L):∃A B,L=A++p::B:=List.append_of_mem h
/-- What is owned under a number. -/
theorem MemR.at(h:MemR R m ρ σ σ₀ L G){k:Nat}{o:CO}(hk:m.M.get k=some (.own o))(hd:o ≠ .dead) :
  ∃(b c:Nat) (r:Res) (i:Nat),R k=some (b,c)∧σ[i]?=some (b,r)∧ObjR R c o r∧(k,b,r)∈L:=by
 obtain⟨⟨b,r⟩,hq⟩:=h.all k o hk hd
 obtain⟨c,o',d,a,e⟩:=h.own _ hq
 simp only at d a e
 rw[hk]at a;cases a
 obtain⟨i,hi⟩:=Bjd h.perm (Lb _ (Ml (f:=Prod.snd) hq))
 exact⟨b,c,r,i,d,hi,e,hq⟩
theorem Ic(m:Mem)(k:Nat)(o:CO)(j:Nat):(m.put k o).M.get j=if j=k then some (.own o) else m.M.get j:=Tr.get_set ..
theorem Mv(m:Mem)(o:CO)(j:Nat):(m.add o).M.get j=if j=m.nx then some (.own o) else m.M.get j:=Tr.get_set ..
/-- It is given another content. -/
theorem MemR.put(h:MemR R m ρ σ σ₀ L G){k b c i:Nat}{r r':Res}{o':CO}(hL:(k,b,r)∈L)(hR:R k=some (b,c))(hi:σ[i]?=some (b,r))(ho:ObjR R c o' r'):MemX R (m.put k o') ρ (σ.set i (b,r')) σ₀:=by
 obtain⟨A,B,rfl⟩:=Ny hL
 have nd:=h.nd
 simp only[Ir,Hd]at nd
 have hAB:∀p∈A++B,p.1≠k:=fun p hp e=>by
  rw[Aav]at nd
  obtain⟨w,u,v⟩:=nd
  rcases Fb.1 hp with hp|hp
  ·exact v p.1 (Ml (f:=Prod.fst) hp) k mC e
  ·exact(Ol.1 u).1 (e ▸ Ml (f:=Prod.fst) hp)
 have mid:∀{x:Nat×Nat×Res} {p},p∈A++x::B→p=x∨p∈A++B:=fun {x p} hp=>by
  rcases Fb.1 hp with hp|hp
  ·exact .inr (Lb _ hp)
  ·rcases lZ8.1 hp with hp|hp
   ·exact .inl hp
   ·exact .inr (Ix _ hp)
 have dim:∀{x:Nat×Nat×Res} {p},p∈A++B→p∈A++x::B:=fun {x p} hp=>(Fb.1 hp).elim (Lb _) fun hp=>Ix _ (lZ0 _ hp)
 refine⟨A++(k,b,r')::B,G,?_,by simpa using h.nd,fun p hp=>?_,fun j o hj hd=>?_,fun j o hj=>?_,h.gar,h.lt,h.glob⟩
 ·have a:=h.perm
  simp only[Ir,Hd,lZ9,Nu]at a ⊢
  exact(Afm (a.trans Att) hi).trans List.perm_middle.symm
 ·rcases mid hp with rfl|hp
  ·exact⟨c,o',hR,by rw[Ic,if_pos rfl],ho⟩
  ·obtain⟨d,o1,g,n,t⟩:=h.own p (dim hp)
   exact⟨d,o1,g,by rw[Ic,if_neg (hAB p hp)];exact n,t⟩
 ·rw[Ic]at hj
  by_cases hjk:j=k
  ·subst hjk;exact⟨_,Ix _ mC⟩
  ·rw[if_neg hjk]at hj
   obtain⟨q,hq⟩:=h.all j o hj hd
   rcases mid hq with e|hq
   ·exact absurd (Prod.mk.inj e).1 hjk
   ·exact⟨q,dim hq⟩
 ·rw[Ic]at hj
  by_cases hjk:j=k
  ·rw[if_pos hjk]at hj;cases hj
  ·rw[if_neg hjk]at hj;exact h.ro j o hj
/-- It is forgotten. -/
theorem MemR.kill(h:MemR R m ρ σ σ₀ L G){k b:Nat}{o:Obj}(hL:(k,b,Res.obj o)∈L):MemX R (m.put k .dead) ρ σ σ₀:=by
 obtain⟨A,B,rfl⟩:=Ny hL
 have nd:=h.nd
 simp only[Ir,Hd]at nd
 have hAB:∀p∈A++B,p.1≠k:=fun p hp e=>by
  rw[Aav]at nd
  obtain⟨u,n,t⟩:=nd
  rcases Fb.1 hp with hp|hp
  ·exact t p.1 (Ml (f:=Prod.fst) hp) k mC e
  ·exact(Ol.1 n).1 (e ▸ Ml (f:=Prod.fst) hp)
 have dim:∀{p},p∈A++B→p∈A++(k,b,Res.obj o)::B:=fun {p} hp=>(Fb.1 hp).elim (Lb _) fun hp=>Ix _ (lZ0 _ hp)
 refine⟨A++B,(b,.obj o)::G,?_,?_,fun p hp=>?_,fun j oj hj hd=>?_,fun j oj hj=>?_,fun p hp=>?_,h.lt,h.glob⟩
 ·have a:=h.perm
  simp only[Ir,Hd,lZ9,Nu]at a ⊢
  refine a.trans (List.Perm.append_left _ ?_)
  exact List.perm_middle.symm
 ·rw[Ir]
  have:(A.map Prod.fst++B.map Prod.fst).Sublist (A.map Prod.fst++k::B.map Prod.fst):=List.Sublist.append_left (Bdp ..) _
  exact this.nodup nd
 ·obtain⟨c,o1,d,g,i⟩:=h.own p (dim hp)
  exact⟨c,o1,d,by rw[Ic,if_neg (hAB p hp)];exact g,i⟩
 ·rw[Ic]at hj
  by_cases hjk:j=k
  ·rw[if_pos hjk]at hj;cases hj;exact absurd rfl hd
  ·rw[if_neg hjk]at hj
   obtain⟨q,hq⟩:=h.all j oj hj hd
   rcases Fb.1 hq with hq|hq
   ·exact⟨q,Lb _ hq⟩
   ·rcases lZ8.1 hq with e|hq
    ·exact absurd (Prod.mk.inj e).1 hjk
    ·exact⟨q,Ix _ hq⟩
 ·rw[Ic]at hj
  by_cases hjk:j=k
  ·rw[if_pos hjk]at hj;cases hj
  ·rw[if_neg hjk]at hj;exact h.ro j oj hj
 ·rcases lZ8.1 hp with rfl|hp
  ·exact⟨o,rfl⟩
  ·exact h.gar p hp
def XR.add(R:XR)(k:Nat)(q:Nat×Nat):XR:=fun j=>if j=k then some q else R j
theorem XR.add_same{R:XR}{k:Nat}{q:Nat×Nat}:R.add k q k=some q:=if_pos rfl
theorem MemR.fresh(h:MemR R m ρ σ σ₀ L G)(q:Nat×Nat):XR.le R (R.add m.nx q):=fun j q' hj=>by
 unfold XR.add
 rw[if_neg (Zt (h.lt j q' hj))];exact hj
/-- A new block. -/
theorem MemR.add(h:MemR R m ρ σ σ₀ L G){b c:Nat}{r:Res}{o:CO}(ho:ObjR (R.add m.nx (b,c)) c o r):MemX (R.add m.nx (b,c)) (m.add o) ρ ((b,r)::σ) σ₀:=by
 have hle:=h.fresh (b,c)
 have hlt:∀p∈L,p.1<m.nx:=fun p hp=>by
  obtain⟨d,o1,a,_⟩:=h.own p hp
  exact h.lt _ _ a
 refine⟨(m.nx,b,r)::L,G,h.perm.cons _,Ol.2 ⟨fun hm=>?_,h.nd⟩,fun p hp=>?_,fun j oj hj hd=>?_,fun j oj hj=>?_,h.gar,fun j q hj=>?_,fun j hj=>hle _ _ (h.glob j hj)⟩
 ·obtain⟨p,hp,e⟩:=Iu.1 hm
  exact absurd (hlt p hp) (by omega)
 ·rcases lZ8.1 hp with rfl|hp
  ·exact⟨c,o,XR.add_same,by rw[Mv,if_pos rfl],ho⟩
  ·obtain⟨d,o1,a,f,g⟩:=h.own p hp
   exact⟨d,o1,hle _ _ a,by rw[Mv,if_neg (Zt (hlt p hp))];exact f,g.mono hle⟩
 ·rw[Mv]at hj
  by_cases hjk:j=m.nx
  ·subst hjk;exact⟨_,Oh ..⟩
  ·rw[if_neg hjk]at hj
   obtain⟨q,hq⟩:=h.all j oj hj hd
   exact⟨q,lZ0 _ hq⟩
 ·rw[Mv]at hj
  by_cases hjk:j=m.nx
  ·rw[if_pos hjk]at hj;cases hj
  ·rw[if_neg hjk]at hj
   obtain⟨i,d,k,a,f,g⟩:=h.ro j oj hj
   exact⟨i,d,k,hle _ _ a,f,g.mono hle⟩
 ·unfold XR.add at hj
  by_cases hjk:j=m.nx
  ·subst hjk;exact Ain _
  ·rw[if_neg hjk]at hj;exact Apy (h.lt j q hj)
/-- It goes on under another number. -/
theorem MemR.move(h:MemR R m ρ σ σ₀ L G){k b c i:Nat}{r r':Res}{o':CO}(hL:(k,b,r)∈L)(hi:σ[i]?=some (b,r))(ho:ObjR (R.add m.nx (b,c)) c o' r') :
  MemX (R.add m.nx (b,c)) ((m.put k .dead).add o') ρ (σ.set i (b,r')) σ₀:=by
 have hle:=h.fresh (b,c)
 obtain⟨A,B,rfl⟩:=Ny hL
 have nd:=h.nd
 simp only[Ir,Hd]at nd
 have hAB:∀p∈A++B,p.1≠k:=fun p hp e=>by
  rw[Aav]at nd
  obtain⟨y,v,w⟩:=nd
  rcases Fb.1 hp with hp|hp
  ·exact w p.1 (Ml (f:=Prod.fst) hp) k mC e
  ·exact(Ol.1 v).1 (e ▸ Ml (f:=Prod.fst) hp)
 have dim:∀{p},p∈A++B→p∈A++(k,b,r)::B:=fun {p} hp=>(Fb.1 hp).elim (Lb _) fun hp=>Ix _ (lZ0 _ hp)
 have hlt:∀p∈A++(k,b,r)::B,p.1<m.nx:=fun p hp=>by
  obtain⟨d,o1,a,_⟩:=h.own p hp
  exact h.lt _ _ a
 have hk:k<m.nx:=hlt (k,b,r) hL
 have get:∀j,((m.put k .dead).add o').M.get j=if j=m.nx then some (.own o') else if j=k then some (.own .dead) else m.M.get j:=fun j=>by
  rw[Mv,Ic];rfl
 refine⟨(m.nx,b,r')::(A++B),G,?_,Ol.2 ⟨fun hm=>?_,?_⟩,fun p hp=>?_,fun j oj hj hd=>?_,fun j oj hj=>?_,h.gar,fun j q hj=>?_,fun j hj=>hle _ _ (h.glob j hj)⟩
 ·have t:=h.perm
  simp only[Ir,Hd,lZ9,Nu]at t ⊢
  exact Afm (t.trans Att) hi
 ·obtain⟨p,hp,e⟩:=Iu.1 hm
  exact absurd (hlt p (dim hp)) (by omega)
 ·rw[Ir]
  have:(A.map Prod.fst++B.map Prod.fst).Sublist (A.map Prod.fst++k::B.map Prod.fst):=List.Sublist.append_left (Bdp ..) _
  exact this.nodup nd
 ·rcases lZ8.1 hp with rfl|hp
  ·exact⟨c,o',XR.add_same,by rw[get,if_pos rfl],ho⟩
  ·obtain⟨d,o1,a,g,n⟩:=h.own p (dim hp)
   exact⟨d,o1,hle _ _ a,by rw[get,if_neg (Zt (hlt p (dim hp))),if_neg (hAB p hp)];exact g,n.mono hle⟩
 ·rw[get]at hj
  by_cases hjk:j=m.nx
  ·subst hjk;exact⟨_,Oh ..⟩
  ·rw[if_neg hjk]at hj
   by_cases hj2:j=k
   ·rw[if_pos hj2]at hj;cases hj;exact absurd rfl hd
   ·rw[if_neg hj2]at hj
    obtain⟨q,hq⟩:=h.all j oj hj hd
    rcases Fb.1 hq with hq|hq
    ·exact⟨q,lZ0 _ (Lb _ hq)⟩
    ·rcases lZ8.1 hq with e|hq
     ·exact absurd (Prod.mk.inj e).1 hj2
     ·exact⟨q,lZ0 _ (Ix _ hq)⟩
 ·rw[get]at hj
  by_cases hjk:j=m.nx
  ·rw[if_pos hjk]at hj;cases hj
  ·rw[if_neg hjk]at hj
   by_cases hj2:j=k
   ·rw[if_pos hj2]at hj;cases hj
   ·rw[if_neg hj2]at hj
    obtain⟨u,d,x,a,g,n⟩:=h.ro j oj hj
    exact⟨u,d,x,hle _ _ a,g,n.mono hle⟩
 ·unfold XR.add at hj
  by_cases hjk:j=m.nx
  ·subst hjk;exact Ain _
  ·rw[if_neg hjk]at hj;exact Apy (h.lt j q hj)
/-- A row that may be read. -/
theorem MemR.row(h:MemR R m ρ σ σ₀ L G){k:Nat}{l:List CV}(hk:m.row k=some l) :
  ∃b c l' rest t fz,R k=some (b,c)∧Has ρ σ b (.cells (l'++rest).toArray t fz)∧VR R l l':=by
 have key:∀{o:CO} {c:Nat} {r:Res},xRowO o=some l→ObjR R c o r→∃l' rest t fz,r = .obj (.cells (l'++rest).toArray t fz)∧VR R l l'∧Axp (l'.length+rest.length) fz:=by
  intro o c r ho hr
  cases hr with
  | @cells _ l' t fz a d=>cases ho;exact⟨l',[],t,fz,by simp,a,by simpa using d⟩
  | grow a d g n=>cases ho;exact⟨_,_,_,_,rfl,a,n⟩
  | map=>cases ho
  | loop=>cases ho
  | defd=>cases ho
  | chan=>cases ho
  | rcv=>cases ho
  | crowd=>cases ho
  | iter=>cases ho
 unfold Mem.row at hk
 cases hg:m.M.get k with
 | none=>rw[hg]at hk;cases hk
 | some x =>
  rw[hg]at hk
  cases x with
  | own o =>
   have hd:o ≠ .dead:=fun e=>by subst e;cases hk
   obtain⟨b,c,r,i,a,d,g,n⟩:=h.at hg hd
   obtain⟨l',rest,t,fz,rfl,j,p⟩:=key hk g
   exact⟨b,c,l',rest,t,fz,a,.inr (lZ6 d),j⟩
  | ro o =>
   obtain⟨b,c,x,a,d,f,g⟩:=h.ro k o hg
   obtain⟨l',rest,t,fz,e,j,p⟩:=key hk g
   cases x with
   | cells cs t' f' =>
    have e':Res.obj (.cells cs t' f) = .obj (.cells (l'++rest).toArray t fz):=e
    cases e'
    exact⟨b,c,l',rest,_,_,a,.inl d,j⟩
   | _=>cases e
end
end
section
open Go
def Jp(R:XR):Prop:=∀k,k<16→R k=some (k,0)
theorem MemX.globR{R:XR}{m:Mem}{ρ:Ro}{σ σ₀:Own}(h:MemX R m ρ σ σ₀):Jp R:=let ⟨_,_,h⟩:=h;h.glob
theorem Cj{R:XR}{e:Tr CV}{e':Env}(h:EnvR R e e')(hg:Jp R)(x:Operand):V1 R ((rdK x).run e) (Af e' x):=by
 cases x with
 | tmp t =>
  show V1 R (match e.get t with|some v=>v|none=>.bad) (e' t)
  cases ht:e.get t with
  | some v=>exact h t v ht
  | none=>exact .bad _ .nil
 | const v=>exact vOf R v
 | global g =>
  have a:(rdK (.global g)).run e=match Nat.ble (Nat.succ g) 16 with|true=>.p g 0|false=>.bad:=by
   simp only[rdK];cases Nat.ble (Nat.succ g) 16<;>rfl
  rw[a]
  split
  ·rename_i hb;exact .p (hg g (lZ5 hb)) .nil
  ·exact .bad _ .nil
 | func f=>exact .f f .nil .nil .nil
theorem Tx{R:XR}{e:Tr CV}{e':Env}(h:EnvR R e e')(hg:Jp R):∀(l:List Operand),VR R ((rdsK l).run e) (l.map (Af e'))
 | []=>.nil
 | x::l=>VR.cons_iff.2 ⟨Cj h hg x,Tx h hg l⟩
/-- What an operation may come to. -/
def NxV(nx:Next)(v:Value):Prop:=nx = .value v∨(nx = .skip∧v=undef)
/-- What was there before,but for what is listed. -/
structure LogOk(m m':Mem):Prop where
 nx:m.nx≤m'.nx
 ex:∃w,m'.log=w++m.log∧m'.ln=m.ln+w.length∧∀k,k<m.nx→k∉w→m'.M.get k=m.M.get k
 outs:m'.outs=m.outs
theorem LogOk.refl(m:Mem):LogOk m m:=⟨Et _,⟨[],rfl,rfl,fun _ _ _=>rfl⟩,rfl⟩
theorem LogOk.put(m:Mem)(k:Nat)(o:CO):LogOk m (m.put k o):=⟨Et _,⟨[k],rfl,rfl,fun j _ hn=>by
 rw[Ic,if_neg (fun e=>hn (by rw[e];exact Oh ..))]⟩,rfl⟩
theorem LogOk.add(m:Mem)(o:CO):LogOk m (m.add o):=⟨Nat.le_succ _,⟨[],rfl,rfl,fun j hj _=>by rw[Mv,if_neg (Zt hj)]⟩,rfl⟩
theorem LogOk.trans{m m' m'':Mem}(h:LogOk m m')(h':LogOk m' m''):LogOk m m'':=by
 obtain⟨w,a,b,c⟩:=h.ex
 obtain⟨w',d,e,f⟩:=h'.ex
 refine⟨Mm h.nx h'.nx,⟨w'++w,by rw[d,a,lZ9],by rw[e,b,lZ1];omega,fun k hk hn=>?_⟩,h'.outs.trans h.outs⟩
 rw[f k (Ng hk h.nx) (fun hm=>hn (Lb _ hm)),c k hk (fun hm=>hn (Ix _ hm))]
/-- A value,and nothing else happens. -/
def Nr(P:Program)(o:Op)(R:XR)(e':Env)(x:CV):Prop :=
 ∃v,V1 R x v∧∀ρ σ dd ty pos af g,wpS P ρ (execOp (Af e') ⟨dd,o,ty,pos,af,g⟩) σ (fun nx σ'=>nx = .value v∧σ'=σ)
/-- A value;memory changes. -/
def Axn(P:Program)(o:Op)(R:XR)(e':Env)(m:Mem)(x:CV)(m':Mem):Prop :=
 LogOk m m'∧(xMild o=true→m'.nx≠m.nx)∧∀ρ σ σ₀ dd ty pos af g,MemX R m ρ σ σ₀→wpS P ρ (execOp (Af e') ⟨dd,o,ty,pos,af,g⟩) σ (fun nx σ'=>∃R' v,XR.le R R'∧NxV nx v∧V1 R' x v∧MemX R' m' ρ σ' σ₀)
theorem Gk{P:Program}{o:Op}{R:XR}{e':Env}{x:CV}{v:Value}(s:Sem Value)(hs:∀dd ty pos af g,execOp (Af e') ⟨dd,o,ty,pos,af,g⟩=s.bind fun v=>Sem.pure (Next.value v))(hv:V1 R x v)
  (h:∀ρ σ,wpS P ρ s σ (fun w σ'=>w=v∧σ'=σ)):Nr P o R e' x:=⟨v,hv,fun ρ σ dd ty pos af g=>by
 rw[hs,Ad]
 exact Eu (by rintro w σ' ⟨rfl,rfl⟩;exact⟨rfl,rfl⟩) _ _ (h ρ σ)⟩
theorem Anw{P:Program}{o:Op}{R:XR}{e':Env}{m:Mem}{x:CV}{co:CO}{c:Nat}{ob:Obj}(s:Sem Value)(mk:Nat→Value)(hs:∀dd ty pos af g,execOp (Af e') ⟨dd,o,ty,pos,af,g⟩=s.bind fun v=>Sem.pure (Next.value v))
  (h:∀ρ σ Q,(∀r,Q (mk r) ((r,.obj ob)::σ))→wpS P ρ s σ Q) (ho:∀R',XR.le R R'→ObjR R' c co (.obj ob)) (hx:∀R' r,R' m.nx=some (r,c)→V1 R' x (mk r)):Axn P o R e' m x (m.add co):=by
 refine⟨.add m co,fun _=>Amx _,fun ρ σ σ₀ dd ty pos af g hm=>?_⟩
 obtain⟨L,G,hm⟩:=hm
 rw[hs,Ad]
 refine h ρ σ _ fun r=>?_
 exact⟨R.add m.nx (r,c),mk r,hm.fresh _,.inl rfl,hx _ r XR.add_same,hm.add (ho _ (hm.fresh _))⟩
section
variable{P:Program}{t:TypeId}
theorem Je{n:Nat}(h:xSzT P t=some n):∃i,P.info? t=some i∧i.size=n:=by
 unfold xSzT at h
 cases hi:P.info? t with
 | none=>rw[hi]at h;cases h
 | some i=>rw[hi]at h;cases h;exact⟨i,rfl,rfl⟩
theorem Tg{b:Bool}(h:xAggT P t=some b):∃d,P.underlying t=some d∧Qv d=b:=by
 unfold xAggT at h
 cases hd:P.underlying t with
 | none=>rw[hd]at h;cases h
 | some d=>rw[hd]at h;cases h;exact⟨d,rfl,rfl⟩
theorem Mf{z:CV}(h:xZeroT P t=some z):∃v,Fw P t v∧z=xOfV v:=by
 unfold xZeroT at h
 cases hi:P.info? t with
 | none=>rw[hi]at h;cases h
 | some i =>
  rw[hi]at h
  simp only at h
  cases hz:i.zero with
  | none=>rw[hz]at h;cases h
  | some v=>rw[hz]at h;cases h;exact⟨v,⟨i,hi,hz⟩,rfl⟩
end
theorem Hv{k k':IntKind}(h:xKind k k'=true):k=k':=by cases k<;>cases k'<;>first|rfl|cases h
theorem Uh(a b:Int):xEqI a b=(a==b):=by
 cases a<;>cases b<;>simp only[xEqI]
 ·rename_i x y
  rw[Atu];simp;omega
 ·rfl
 ·rfl
 ·rename_i x y
  rw[Atu];simp
theorem Ach(a b:Int):xLtI a b=decide (a<b):=by
 cases a<;>cases b<;>simp only[xLtI]
 ·rename_i x y
  rw[Atu];simp[Nat.ble_eq];omega
 ·rename_i x y
  symm;rw[decide_eq_false_iff_not];show ¬((x:Int)<_);omega
 ·rename_i x y
  symm;rw[decide_eq_true_iff];show _<(y:Int);omega
 ·rename_i x y
  rw[Atu];simp[Nat.ble_eq];omega
theorem not_lt(a b:Int):(!decide (b<a))=decide (a≤b):=by
 rw[Atu];simp
end
section
open Go
section
variable{R:XR}
/-- A value that is known stands for this one. -/
theorem Agc{v:Value}{b:Bool}(h:V1 R (.b b) v):v = .bool b:=by cases h;rfl
theorem Jg{v:Value}{k:IntKind}{n:Int}(h:V1 R (.i k n) v):v = .int k n:=by cases h;rfl
theorem Tb{v:Value}{l:List UInt8}(h:V1 R (.s l) v):v = .string ⟨l.toArray⟩:=by cases h;rfl
end
theorem Avj{x y:List CV}{r:Bool}(h:eqD [] x y=some r):x=[]∧y=[]∧r=true:=by
 have h':eqD0 x y=some r:=h
 unfold eqD0 at h'
 split at h'
 ·cases h';exact⟨rfl,rfl,rfl⟩
 ·cases h'
theorem Aoy{k:CK}{ks:List CK}{x y:List CV}{r:Bool}(h:eqD (k::ks) x y=some r):∃a x' b y' p q,x=a::x'∧y=b::y'∧eqC k a b=some p∧eqD ks x' y'=some q∧r=(p&&q):=by
 have h':eqD1 k (eqD ks) x y=some r:=h
 unfold eqD1 at h'
 split at h'
 ·rename_i a x' b y'
  split at h'
  ·rename_i p q h1 h2
   cases h'
   exact⟨a,x',b,y',p,q,rfl,rfl,h1,h2,by cases p<;>rfl⟩
  ·cases h'
 ·cases h'
theorem Avi:∀{a b:List CK} {x y:List CV} {r:Bool},eqD (a++b) x y=some r→∃xa xr ya yr p q,x=xa++xr∧y=ya++yr∧xa.length=a.length∧ya.length=a.length∧eqD a xa ya=some p∧eqD b xr yr=some q∧r=(p&&q)
 | [],b,x,y,r,h=>⟨[],x,[],y,true,r,rfl,rfl,rfl,rfl,rfl,h,by simp⟩
 | k::a,b,x,y,r,h=>by
  obtain⟨u,x',v,y',p,q,rfl,rfl,h1,h2,rfl⟩:=Aoy h
  obtain⟨xa,xr,ya,yr,p',q',rfl,rfl,c,d,e,f,rfl⟩:=Avi h2
  refine⟨u::xa,xr,v::ya,yr,p&&p',q',rfl,rfl,by simp[c],by simp[d],?_,f,by rw[Bool.and_assoc]⟩
  show (match eqC k u v,eqD a xa ya with|some r,some q=>some (match r with|true=>q|false=>false)|_,_=>none)=_
  rw[h1,e]
  cases p<;>rfl
theorem Re:∀(a b:List UInt8),xEqS a b=(a==b)
 | [],[]=>rfl
 | [],_::_=>rfl
 | _::_,[]=>rfl
 | x::a,y::b=>by
  show (Bool.rec false (xEqS a b) (Nat.beq x.toNat y.toNat):Bool)=_
  rw[Asr,Re a b]
  by_cases h:x.toNat=y.toNat
  ·rw[if_pos h]
   have:x=y:=UInt8.toNat_inj.1 h
   subst this;simp
  ·rw[if_neg h]
   have:x≠y:=fun e=>h (by rw[e])
   simp[this]
theorem Bjx(a b:List UInt8):((⟨a.toArray⟩:ByteArray)==⟨b.toArray⟩)=(a==b):=by
 rw[Aec,ByteArray.toList_eq,ByteArray.toList_eq]
/-- What a type's cells stand for. -/
def Bgn(P:Program)(R:XR)(t:TypeId)(xs:List CV)(x:Value):Prop :=
 (∃d,P.underlying t=some d∧Qv d=true∧∃l,x = .agg (List.toArray l)∧VR R xs l)∨(∃d,P.underlying t=some d∧Qv d=false∧∃v,xs=[v]∧V1 R v x)
section
variable{P:Program}{ρ:Ro}{R:XR}
theorem Bgd{d:Nat}{t:TypeId}{ks:List CK}(h:deepT P d t=some ks):∃dsc,P.underlying t=some dsc:=by
 cases d with
 | zero=>cases h
 | succ d =>
  unfold deepT at h
  cases hu:P.underlying t with
  | none=>rw[hu]at h;cases h
  | some dsc=>exact⟨dsc,rfl⟩
theorem Ake{d z n:Nat}{t:TypeId}{ks:List CK}{l:List Value}{xa xr:List CV}{σ:Own}{Q:Value→Own→Prop}(hd:deepT P d t=some ks)(hz:xSzT P t=some z)(hk:ks.length=z)(hx:xa.length=ks.length)(hv:VR R (xa++xr) (l.drop n))
  (h:∀v,Bgn P R t xa v→Q v σ):wpS P ρ (part t l.toArray n) σ Q:=by
 obtain⟨dsc,hu⟩:=Bgd hd
 show wpS P ρ ((isAgg t).bind _) σ Q
 rw[Ad]
 refine Hi ⟨dsc,hu,rfl⟩ ?_
 have b:=hv.len
 have htk:VR R xa ((l.drop n).take z):=by
  have:=hv.take z
  rwa[List.take_left' (by omega)]at this
 cases ha:Qv dsc with
 | true =>
  simp only[if_true]
  show wpS P ρ ((sizeOf t).bind _) σ Q
  rw[Ad]
  refine Dx (Je hz) ?_
  refine h _ (.inl ⟨dsc,hu,ha,(l.drop n).take z,?_,htk⟩)
  simp[Bcy]
 | false =>
  simp only[Aep,if_false]
  have a:ks.length=1:=by
   cases d with
   | zero=>cases hd
   | succ d =>
    unfold deepT at hd
    rw[hu]at hd
    split at hd
    ·cases hd;rfl
    ·cases hd;rfl
    ·cases hd;rfl
    ·rename_i fs hfs
     cases hfs;cases ha
    ·cases hd
  obtain⟨v,rfl⟩:∃v,xa=[v]:=by
   match xa,hx with
   | [v],_=>exact⟨v,rfl⟩
   | [],hx=>simp at hx;omega
   | _::_::_,hx=>simp at hx;omega
  obtain⟨w,hw,hvw⟩:=hv.at (d:=0) (v:=v) rfl
  have hw':l.toArray[n]?=some w:=by
   rw[Ib]
   have:(l.drop n)[0]?=l[n]?:=by rw[Yx,Vn]
   rw[←this];exact hw
  simp only[hw']
  exact h w (.inr ⟨dsc,hu,ha,v,rfl,hvw⟩)
theorem Asj:∀(d:Nat) (t:TypeId) (ks:List CK),deepT P d t=some ks→∀(e:Nat),d≤e→∀(xs ys:List CV) (r:Bool) (x y:Value),eqD ks xs ys=some r→Bgn P R t xs x→Bgn P R t ys y →
  ∀(σ:Own) (Q:Bool→Own→Prop),Q r σ→wpS P ρ (Op.equalIn e t x y) σ Q
 | 0,t,ks,h,_,_,_,_,_,_,_,_,_,_,_,_,_=>by cases h
 | d+1,t,ks,h,0,he,_,_,_,_,_,_,_,_,_,_,_=>by omega
 | d+1,t,ks,h,e+1,he,xs,ys,r,x,y,hr,hx,hy,σ,Q,hq=>by
  have one:∀{k:CK} {dsc},P.underlying t=some dsc→Qv dsc=false→ks=[k]→∃a b,V1 R a x∧V1 R b y∧eqC k a b=some r:=by
   intro k dsc hu ha hks
   subst hks
   obtain⟨a,x',b,y',p,q,rfl,rfl,c,D,E⟩:=Aoy hr
   obtain⟨rfl,rfl,rfl⟩:=Avj D
   rcases hx with⟨F,g,j,_⟩|⟨F,g,j,v,H,hv⟩
   ·rw[hu]at g;cases g;rw[ha]at j;cases j
   ·rcases hy with⟨G,i,u,_⟩|⟨G,i,u,w,J,hw⟩
    ·rw[hu]at i;cases i;rw[ha]at u;cases u
    ·cases H;cases J
     exact⟨_,_,hv,hw,by rw[E,Amy];exact c⟩
  unfold deepT at h
  cases hu:P.underlying t with
  | none=>rw[hu]at h;cases h
  | some dsc =>
   rw[hu]at h
   show wpS P ρ ((underlying t).bind _) σ Q
   rw[Ad]
   refine Az hu ?_
   cases dsc with
   | int k =>
    obtain⟨a,b,ha,hb,hc⟩:=one hu rfl (by simpa using h.symm)
    unfold eqC at hc
    split at hc
    ·rename_i k0 k1 a0 k2 b0 hk0
     cases hk0
     split at hc
     ·rename_i B C
      cases hc
      have B:=Hv B
      have C:=Hv C
      subst B C
      rw[Jg ha,Jg hb]
      simp only[if_true]
      rw[Uh]at hq
      exact hq
     ·cases hc
    ·rename_i hk0;cases hk0
    ·rename_i hk0;cases hk0
    ·cases hc
   | string =>
    obtain⟨a,b,ha,hb,hc⟩:=one hu rfl (by simpa using h.symm)
    unfold eqC at hc
    split at hc
    ·rename_i hk0;cases hk0
    ·cases hc
     rw[Tb ha,Tb hb]
     rw[Re,←Bjx]at hq
     exact hq
    ·rename_i hk0;cases hk0
    ·cases hc
   | bool =>
    obtain⟨a,b,ha,hb,hc⟩:=one hu rfl (by simpa using h.symm)
    unfold eqC at hc
    split at hc
    ·rename_i hk0;cases hk0
    ·rename_i hk0;cases hk0
    ·cases hc
     rw[Agc ha,Agc hb]
     exact hq
    ·cases hc
   | struct fs =>
    simp only at h
    split at h
    ·rename_i hst
     rcases hx with⟨F,g,j,l,rfl,hl⟩|⟨F,g,j,_⟩
     ·rcases hy with⟨G,i,u,m,rfl,hm⟩|⟨G,i,u,_⟩
      ·show wpS P ρ (Sem.bind program _) σ Q
       rw[Ad]
       show wpS P ρ (if P.stoodInHeld t then _ else _) σ Q
       rw[if_neg (by simp[hst])]
       have key:∀(gs:List Field) (n:Nat) (ks:List CK) (xs ys:List CV) (r:Bool) (K:(Option Bool×Unit)→Own→Prop),deepF P (deepT P d) n gs=some ks→eqD ks xs ys=some r→VR R xs (l.drop n)→VR R ys (m.drop n) →
         K (if r=true then none else some false,()) σ→wpS P ρ (forIn gs ((none,()):Option Bool×Unit) fun (f:Field) (__s:Option Bool×Unit) =>
          if f.name ≠ "_" then do
           let __do_lift ←part f.type l.toArray f.offset
           let __do_lift_1 ←part f.type m.toArray f.offset
           let __do_lift ←Op.equalIn e f.type __do_lift __do_lift_1
           if (!__do_lift)=true then pure (ForInStep.done (some false,())) else pure (ForInStep.yield (none,()))
          else pure (ForInStep.yield (none,()))) σ K:=by
        intro gs
        induction gs with
        | nil =>
         intro n ks xs ys r K c D E I hK
         cases c
         obtain⟨_,_,rfl⟩:=Avj D
         exact hK
        | cons f gs ih =>
         intro n ks xs ys r K c D E I hK
         unfold deepF at c
         split at c
         ·rename_i a z B C g3 g4
          split at c
          ·rename_i g5
           unfold xCatO at c
           split at c
           ·rename_i a' ks2 H g6
            cases H
            cases c
            obtain⟨xa,xr,ya,yr,p,q,rfl,rfl,M,N,O,T,rfl⟩:=Avi D
            have hlz:=lZ7 g5
            have L:=lZ7 C
            rw[Awd]
            show wpS P ρ (Sem.bind _ _) σ K
            rw[Ad,if_pos (by simpa using B)]
            show wpS P ρ ((part f.type l.toArray f.offset).bind _) σ _
            rw[Ad,L]
            refine Ake g3 g4 hlz M E fun v hv=>?_
            show wpS P ρ ((part f.type m.toArray n).bind _) σ _
            rw[Ad]
            refine Ake g3 g4 hlz N I fun w hw=>?_
            show wpS P ρ ((Op.equalIn e f.type v w).bind _) σ _
            rw[Ad]
            refine Asj d f.type a g3 e (by omega) xa ya p v w O hv hw σ _ ?_
            cases p with
            | false=>exact hK
            | true =>
             refine ih (n+z) ks2 xr yr q K g6 T ?_ ?_ ?_
             ·have:=E.drop z
              rw[List.drop_left' (by omega),Aqh]at this
              exact this
             ·have:=I.drop z
              rw[List.drop_left' (by omega),Aqh]at this
              exact this
             ·simpa using hK
           ·cases c
          ·cases c
         ·cases c
       have hfs:fs=fs.toList.toArray:=by simp
       rw[hfs]
       simp only[Awb]
       show wpS P ρ (Sem.bind _ _) σ Q
       rw[Ad]
       refine key fs.toList 0 ks xs ys r _ h hr hl hm ?_
       cases r with
       | true=>exact hq
       | false=>exact hq
      ·rw[hu]at i;cases i;cases u
     ·rw[hu]at g;cases g;cases j
    ·cases h
   | _=>cases h
end
end
section
open Go
section
variable{P:Program}{R:XR}{e:Tr CV}{e':Env}{m m':Mem}{x:CV}
theorem Aru{v:Value}{k off:Nat}(h:V1 R (.p k off) v):∃b c,R k=some (b,c)∧v = .pointer (some ⟨b,off,none⟩):=by cases h with|p h1 _=>exact⟨_,_,h1,rfl⟩
theorem Xr{v:Value}{l:List CV}(h:V1 R (.g l) v):∃l',VR R l l'∧v = .agg l'.toArray:=by cases h with|g h1 _=>exact⟨_,h1,rfl⟩
theorem Bqg{v:Value}{l:List CV}(h:V1 R (.t l) v):∃l',VR R l l'∧v = .tuple l'.toArray:=by cases h with|t h1 _=>exact⟨_,h1,rfl⟩
theorem Bom{v:Value}{k:Nat}(h:V1 R (.m k) v):∃b c,R k=some (b,c)∧v = .map (some b):=by cases h with|m h1 _=>exact⟨_,_,h1,rfl⟩
theorem Bam{v:Value}{k:Nat}(h:V1 R (.c k) v):∃b c,R k=some (b,c)∧v = .chan (some b):=by cases h with|c h1 _=>exact⟨_,_,h1,rfl⟩
def Ry(kn:Bool)(c d:Nat):Nat:=match kn with
 | true=>c
 | false=>d-c
theorem Tc{v:Value}{k off ln c:Nat}{kn:Bool}(h:V1 R (.sl k off ln kn c) v):∃b d,R k=some (b,d)∧v = .slice (some ⟨b,off,none⟩) ln (Ry kn c d):=by
 cases h with
 | slK h1 _=>exact⟨_,_,h1,rfl⟩
 | slU h1 _=>exact⟨_,_,h1,rfl⟩
/-- What the run says of an operation that yields a value. -/
def Gb(P:Program)(o:Op):Prop:=∀R e e' m x m',EnvR R e e'→Jp R→(opK P o).run e m = .v x m'→(m'=m∧Nr P o R e' x)∨Axn P o R e' m x m'
theorem Fm{x y:CV}{m m':Mem}(h:OR.v x m = .v y m'):x=y∧m=m':=by cases h;exact⟨rfl,rfl⟩
theorem Ayw(a:Operand):Gb P (.move a):=fun R e e' m x m' he hg h=>by
 obtain⟨rfl,rfl⟩:=Fm h
 exact .inl ⟨rfl,_,Cj he hg a,fun ρ σ dd ty pos af g=>⟨rfl,rfl⟩⟩
theorem Apd(a:Operand):Gb P (.assign a):=fun R e e' m x m' he hg h=>by
 obtain⟨rfl,rfl⟩:=Fm h
 exact .inl ⟨rfl,_,Cj he hg a,fun ρ σ dd ty pos af g=>⟨rfl,rfl⟩⟩
theorem Ayx(c a b:Operand):Gb P (.pick c a b):=fun R e e' m x m' he hg h=>by
 have hc:=Cj he hg c
 have h':(match (rdK c).run e with | .b true=>OR.v ((rdK a).run e) m | .b false=>.v ((rdK b).run e) m|_=>.bad) = .v x m':=h
 split at h'
 ·rename_i hb
  rw[hb]at hc
  obtain⟨rfl,rfl⟩:=Fm h'
  refine .inl ⟨rfl,_,Cj he hg a,fun ρ σ dd ty pos af g=>?_⟩
  show wpS P ρ (do pure (Next.value (if ←asBool (Af e' c) then Af e' a else Af e' b)):Sem Next) σ _
  rw[Agc hc];exact⟨rfl,rfl⟩
 ·rename_i hb
  rw[hb]at hc
  obtain⟨rfl,rfl⟩:=Fm h'
  refine .inl ⟨rfl,_,Cj he hg b,fun ρ σ dd ty pos af g=>?_⟩
  show wpS P ρ (do pure (Next.value (if ←asBool (Af e' c) then Af e' a else Af e' b)):Sem Next) σ _
  rw[Agc hc];exact⟨rfl,rfl⟩
 ·cases h'
theorem Bco(t:TypeId)(a:Operand):Gb P (.unOp .not t a):=fun R e e' m x m' he hg h=>by
 have ha:=Cj he hg a
 have h':(match (rdK a).run e with | .b v=>OR.v (.b !v) m|_=>.bad) = .v x m':=h
 split at h'
 ·rename_i v hb
  rw[hb]at ha
  obtain⟨rfl,rfl⟩:=Fm h'
  exact .inl ⟨rfl,Gk (Op.unary .not (Af e' a)) (fun _ _ _ _ _=>rfl) (.b _ .nil) fun ρ σ=>by rw[Agc ha];exact⟨rfl,rfl⟩⟩
 ·cases h'
theorem Bcn(t:TypeId)(a:Operand):Gb P (.unOp .neg t a):=fun R e e' m x m' he hg h=>by
 have ha:=Cj he hg a
 have h':(match (rdK a).run e with | .i k v=>OR.v (.i k (k.wrap (0-v))) m|_=>.bad) = .v x m':=h
 split at h'
 ·rename_i k v hb
  rw[hb]at ha
  obtain⟨rfl,rfl⟩:=Fm h'
  exact .inl ⟨rfl,Gk (Op.unary .neg (Af e' a)) (fun _ _ _ _ _=>rfl) (.i _ _ .nil) fun ρ σ=>by rw[Jg ha];exact⟨rfl,rfl⟩⟩
 ·cases h'
theorem Ahl(a:Operand):Gb P (.nilCheck a):=fun R e e' m x m' he hg h=>by
 have ha:=Cj he hg a
 have h':(match (rdK a).run e with | .p k off=>OR.v (.p k off) m|_=>.bad) = .v x m':=h
 split at h'
 ·rename_i k off hb
  rw[hb]at ha
  obtain⟨rfl,rfl⟩:=Fm h'
  obtain⟨b,c,d,f⟩:=Aru ha
  refine .inl ⟨rfl,_,.p d .nil,fun ρ σ dd ty pos af g=>?_⟩
  unfold execOp
  simp only[f]
  exact⟨rfl,rfl⟩
 ·cases h'
theorem Xj(he:EnvR R e e')(hg:Jp R)(xs:Array Operand):∃vs:List Value,VR R ((rdsK xs.toList).run e) vs∧xs.map (Af e')=vs.toArray:=by
 refine⟨_,Tx he hg xs.toList,?_⟩
 rw[←List.map_toArray,Ww]
theorem Ahk(f:FuncId)(xs ys:Array Operand):Gb P (.makeFunc (.func f) xs ys):=fun R e e' m x m' he hg h=>by
 obtain⟨rfl,rfl⟩:=Fm h
 obtain⟨vs,a,b⟩:=Xj he hg xs
 obtain⟨ws,c,d⟩:=Xj he hg ys
 refine .inl ⟨rfl,_,.f f a c .nil,fun ρ σ dd ty pos af g=>?_⟩
 show wpS P ρ ((Instr.makeFunc (.func f) (xs.map (Af e')) (ys.map (Af e'))).bind fun v=>Sem.pure (Next.value v)) σ _
 rw[b,d];exact⟨rfl,rfl⟩
theorem Amo(a:Operand)(i:Nat):Gb P (.extract a i):=fun R e e' m x m' he hg h=>by
 have ha:=Cj he hg a
 have h':(match (rdK a).run e with | .t l=>xVOf m (xNth i l)|_=>.bad) = .v x m':=h
 split at h'
 ·rename_i l hb
  rw[hb]at ha
  rw[Xw]at h'
  cases hi:l[i]? with
  | none=>rw[hi]at h';cases h'
  | some w =>
   rw[hi]at h'
   obtain⟨rfl,rfl⟩:=Fm h'
   obtain⟨l',b,c⟩:=Bqg ha
   obtain⟨v,d,f⟩:=b.at hi
   exact .inl ⟨rfl,Gk (Instr.extract (Af e' a) i) (fun _ _ _ _ _=>rfl) f fun ρ σ=>by rw[c];simp only[Instr.extract,Ib,d];exact⟨rfl,rfl⟩⟩
 ·cases h'
theorem Bgs{op:BinOp}{t:TypeId}{k:IntKind}{a b:Int}{w:CV}(h:binN op k a b=some w):∃v,V1 R w v∧binOp op t (.int k a) (.int k b)=pure v:=by
 cases op<;>simp only[binN,Option.some.injEq]at h<;>first|(cases h;done)|skip
 case quo =>
  split at h
  ·cases h
  ·rename_i hb
   have c:b≠0:=fun c=>by subst c;cases hb
   cases h
   exact⟨_,.i _ _ .nil,by simp only[binOp,ne_eq,not_true,if_false];unfold Op.intDiv;rw[if_neg c]⟩
 case rem =>
  split at h
  ·cases h
  ·rename_i hb
   have c:b≠0:=fun c=>by subst c;cases hb
   cases h
   exact⟨_,.i _ _ .nil,by simp only[binOp,ne_eq,not_true,if_false];unfold Op.intDiv;rw[if_neg c]⟩
 all_goals subst h
 all_goals first
  | exact⟨_,.i _ _ .nil,by simp only[binOp,ne_eq,not_true,if_false];rfl⟩
  | exact⟨_,.b _ .nil,by rw[Uh];simp only[binOp,ne_eq,not_true,if_false];rfl⟩
  | exact⟨_,.b _ .nil,by rw[Ach];simp only[binOp,ne_eq,not_true,if_false];rfl⟩
  | exact⟨_,.b _ .nil,by rw[Ach,not_lt];simp only[binOp,ne_eq,not_true,if_false];rfl⟩
theorem Axy(op:BinOp)(k:IntKind)(a b:Int)(w:CV)(h:(binKN op).run k a b=some w):binN op k a b=some w:=by
 cases op<;>first|exact h|cases h
theorem Xz{op:BinOp}{t t':TypeId}{a b:Operand}{w:CV}{v u z:Value}(ha:Af e' a=u)(hb:Af e' b=z)(hg:eqGuard op t a b u z=pure ())(hv:V1 R w v)(h:binOp op t u z=pure v):Nr P (.binOp op t a b t') R e' w :=
 Gk (do eqGuard op t a b (Af e' a) (Af e' b);binOp op t (Af e' a) (Af e' b)) (fun _ _ _ _ _=>rfl) hv fun ρ σ=>by rw[ha,hb,hg,h];exact⟨rfl,rfl⟩
theorem Amt{d:Option TypeDesc}(h:xIsSl d=true):∃el,d=some (.slice el):=by
 unfold xIsSl at h
 split at h
 ·exact⟨_,rfl⟩
 ·cases h
theorem Ams{d:Option TypeDesc}(h:xIsFn d=true):∃x y z,d=some (.func x y z):=by
 unfold xIsFn at h
 split at h
 ·exact⟨_,_,_,rfl⟩
 ·cases h
theorem eq_of{t t':TypeId}{a b:Operand}{r:Bool}{u z:Value}(ha:Af e' a=u)(hb:Af e' b=z)(hg:∀op,eqGuard op t a b u z=pure ())
    (h1:binOp .eql t u z=(Op.equal t u z).bind fun r=>Sem.pure (.bool r)) (h2:binOp .neq t u z=(Op.equal t u z).bind fun r=>Sem.pure (.bool (!r)))
    (hw:∀ρ σ (Q:Bool→Own→Prop),Q r σ→wpS P ρ (Op.equal t u z) σ Q):Nr P (.binOp .eql t a b t') R e' (.b r)∧Nr P (.binOp .neq t a b t') R e' (.b !r) :=
  ⟨Gk (do eqGuard .eql t a b (Af e' a) (Af e' b);binOp .eql t (Af e' a) (Af e' b)) (fun _ _ _ _ _=>rfl) (.b _ .nil) fun ρ σ=>by
      rw[ha,hb,hg,h1]
      show wpS P ρ ((Op.equal t u z).bind _) σ _
      rw[Ad]
      exact hw ρ σ _ ⟨rfl, rfl⟩,
   Gk (do eqGuard .neq t a b (Af e' a) (Af e' b);binOp .neq t (Af e' a) (Af e' b)) (fun _ _ _ _ _ => rfl) (.b _ .nil) fun ρ σ => by
      rw[ha,hb,hg,h2]
      show wpS P ρ ((Op.equal t u z).bind _) σ _
      rw[Ad]
      exact hw ρ σ _ ⟨rfl,rfl⟩⟩
theorem Axl{t t':TypeId}{a b:Operand}{u z:CV}{v w:Value}{r:Bool}(h:xEqW (xIsSl (P.underlying t)) (xIsFn (P.underlying t)) u z=some r)(hv:V1 R u v)(hw:V1 R z w)(ha:Af e' a=v)(hb:Af e' b=w) :
  Nr P (.binOp .eql t a b t') R e' (.b r)∧Nr P (.binOp .neq t a b t') R e' (.b !r):=by
 have sl:∀{el:TypeId} {x y:Option Addr} {f d g e:Nat} {r:Bool},P.underlying t=some (.slice el)→(x=none∧r=y.isNone∨y=none∧r=x.isNone)→Af e' a = .slice x f d→Af e' b = .slice y g e →
   Nr P (.binOp .eql t a b t') R e' (.b r)∧Nr P (.binOp .neq t a b t') R e' (.b !r):=by
  intro el x y f d g e r hu hx ha hb
  refine eq_of ha hb (fun op=>by cases op<;>rfl) rfl rfl fun ρ σ Q hq=>?_
  show wpS P ρ ((underlying t).bind _) σ Q
  rw[Ad]
  refine Az hu ?_
  rcases hx with⟨rfl,rfl⟩|⟨rfl,rfl⟩
  ·exact hq
  ·cases x with
   | none=>exact hq
   | some x=>exact hq
 unfold xEqW at h
 split at h
 ·cases h
  rw[Tb hv]at ha;rw[Tb hw]at hb
  refine⟨Xz ha hb Nc (.b _ .nil) ?_,Xz ha hb Nc (.b _ .nil) ?_⟩
  ·rw[Re];simp only[binOp,Op.stringOp,ByteArray.toList_eq]
  ·rw[Re];simp only[binOp,Op.stringOp,ByteArray.toList_eq]
 ·split at h
  ·rename_i hs
   cases h
   obtain⟨el,hu⟩:=Amt hs
   cases hv;cases hw
   exact sl hu (.inl ⟨rfl,rfl⟩) ha hb
  ·cases h
 ·split at h
  ·rename_i hs
   cases h
   obtain⟨el,hu⟩:=Amt hs
   obtain⟨i,j,_,c⟩:=Tc hv
   cases hw;subst c
   exact sl hu (.inr ⟨rfl,rfl⟩) ha hb
  ·cases h
 ·split at h
  ·rename_i hs
   cases h
   obtain⟨el,hu⟩:=Amt hs
   obtain⟨i,j,_,c⟩:=Tc hw
   cases hv;subst c
   exact sl hu (.inl ⟨rfl,rfl⟩) ha hb
  ·cases h
 ·split at h
  ·rename_i hs
   cases h
   obtain⟨_,_,_,hu⟩:=Ams hs
   cases hv;cases hw
   refine eq_of ha hb (fun op=>by cases op<;>rfl) rfl rfl fun ρ σ Q hq=>?_
   show wpS P ρ ((underlying t).bind _) σ Q
   rw[Ad]
   exact Az hu hq
  ·cases h
 ·split at h
  ·rename_i hs
   cases h
   obtain⟨_,_,_,hu⟩:=Ams hs
   cases hv;cases hw
   refine eq_of ha hb (fun op=>by cases op<;>rfl) rfl rfl fun ρ σ Q hq=>?_
   show wpS P ρ ((underlying t).bind _) σ Q
   rw[Ad]
   exact Az hu hq
  ·cases h
 ·split at h
  ·rename_i hs
   cases h
   obtain⟨_,_,_,hu⟩:=Ams hs
   cases hv;cases hw
   refine eq_of ha hb (fun op=>by cases op<;>rfl) rfl rfl fun ρ σ Q hq=>?_
   show wpS P ρ ((underlying t).bind _) σ Q
   rw[Ad]
   exact Az hu hq
  ·cases h
 ·cases h
theorem Wm{t:TypeId}{ks:List IntKind}(h:flatT P t=some ks):∃fs:Array Field,P.underlying t=some (.struct fs)∧P.stoodInHeld t=false∧P.eqGuardType P.depth t=false∧flatK P 0 fs.toList=some ks:=by
 unfold flatT at h
 split at h
 ·rename_i fs h1 h2 h3;exact⟨fs,h3,h1,h2,h⟩
 ·cases h
theorem Atb{n:Nat}{f:Field}{fs:List Field}{ks:List IntKind}(h:flatK P n (f::fs)=some ks):∃k l,ks=k::l∧f.name ≠ "_"∧f.offset=n∧P.underlying f.type=some (.int k)∧flatK P (n+1) fs=some l:=by
 unfold flatK at h
 split at h
 ·rename_i k l h1 h2 h3 h4
  cases h
  exact⟨k,l,rfl,by simpa using h1,lZ7 h2,h3,h4⟩
 ·cases h
theorem Adr{k:IntKind}{ks:List IntKind}{x y:List CV}{r:Bool}(h:eqF (k::ks) x y=some r):∃a x' b y' r',x = .i k a::x'∧y = .i k b::y'∧eqF ks x' y'=some r'∧r=(a==b&&r'):=by
 replace h:eqF1 k (eqF ks) x y=some r:=h
 unfold eqF1 at h
 split at h
 ·split at h
  ·rename_i k1 a x' k2 b y' _ _ h1 h2
   cases hr:eqF ks x' y' with
   | none=>rw[hr]at h;cases h
   | some r' =>
    rw[hr]at h
    simp only[Option.some.injEq]at h
    rw[←Hv h1,←Hv h2]
    exact⟨a,x',b,y',r',rfl,rfl,hr,by rw[←h,Uh];cases (a==b)<;>rfl⟩
  ·cases h
 ·cases h
theorem Ads:∀(fs:List Field) (n:Nat) (ks:List IntKind) (x y:List CV) (xs ys:List Value) (r:Bool),flatK P n fs=some ks→eqF ks x y=some r→VR R x (xs.drop n)→VR R y (ys.drop n)→∃ps qs,EqF P xs.toArray ys.toArray fs ps qs∧r=decide (ps=qs)
 | [],n,ks,x,y,xs,ys,r,h1,h2,h3,h4=>by
  cases h1
  replace h2:eqF0 x y=some r:=h2
  unfold eqF0 at h2
  split at h2
  ·cases h2;exact⟨[],[],trivial,rfl⟩
  ·cases h2
 | f::fs,n,ks,x,y,xs,ys,r,h1,h2,h3,h4=>by
  obtain⟨k,l,rfl,hn,ho,hk,v⟩:=Atb h1
  obtain⟨a,x',b,y',r',rfl,rfl,B,C⟩:=Adr h2
  have hd:∀{z:List CV} {zs:List Value} {c:Int},VR R (.i k c::z) (zs.drop n)→zs[n]?=some (.int k c)∧VR R z (zs.drop (n+1)):=fun {z zs c} h=>by
   cases hz:zs.drop n with
   | nil=>rw[hz]at h;cases h
   | cons w ws =>
    rw[hz]at h
    obtain⟨d,e⟩:=VR.cons_iff.1 h
    have g:=Jg d
    subst g
    have j:zs[n]?=some (.int k c):=by
     have:=congrArg List.head? hz
     simpa using this
    have m:zs.drop (n+1)=ws:=by
     have:=congrArg List.tail hz
     simpa using this
    exact⟨j,by rw[m];exact e⟩
  obtain⟨d,e⟩:=hd h3
  obtain⟨p,q⟩:=hd h4
  obtain⟨ps,qs,t,u⟩:=Ads fs (n+1) l x' y' xs ys r' v B e q
  refine⟨a::ps,b::qs,⟨⟨hn,k,hk,by rw[ho];simpa using d,by rw[ho];simpa using p⟩,t⟩,?_⟩
  rw[C,u]
  by_cases hab:a=b
  ·subst hab;simp
  ·have:(a==b)=false:=by simpa using hab
   rw[this];simp[hab]
theorem Bro{t t':TypeId}{a b:Operand}{ks:List CK}{op:BinOp}{p q:List CV}{v:CV}{u z:Value}(hd:deepG P t=some ks)(hr:(binKG op).run ks p q=some v)(hu:V1 R (.g p) u)(hz:V1 R (.g q) z)(ha:Af e' a=u)(hb:Af e' b=z) :
  Nr P (.binOp op t a b t') R e' v:=by
 obtain⟨p',c,d⟩:=Xr hu
 obtain⟨q',e,f⟩:=Xr hz
 rw[d]at ha;rw[f]at hb
 unfold deepG at hd
 split at hd
 ·rename_i fs h1 h2
  have ag:∀{xs:List CV} {l:List Value},VR R xs l→Bgn P R t xs (.agg l.toArray):=fun h=>.inl ⟨_,h2,rfl,_,rfl,h⟩
  have key:∀{r:Bool} {σ:Own} {ρ:Ro} {Q:Bool→Own→Prop},eqD ks p q=some r→Q r σ→wpS P ρ (Op.equal t (.agg p'.toArray) (.agg q'.toArray)) σ Q:=fun {r σ ρ Q} hr hq =>
   Asj 100 t ks hd 10000 (by decide) p q r _ _ hr (ag c) (ag e) σ Q hq
  cases op<;>first|(cases hr;done)|skip
  ·have hr':(match eqD ks p q with|some r=>some (CV.b r)|none=>none)=some v:=hr
   cases h3:eqD ks p q with
   | none=>rw[h3]at hr';cases hr'
   | some r =>
    rw[h3]at hr';cases hr'
    exact Gk (do eqGuard .eql t a b (Af e' a) (Af e' b);binOp .eql t (Af e' a) (Af e' b)) (fun _ _ _ _ _=>rfl) (.b _ .nil) fun ρ σ=>by
     rw[ha,hb]
     show wpS P ρ (Sem.bind (eqGuard .eql t a b (.agg p'.toArray) (.agg q'.toArray)) _) σ _
     rw[Ad]
     show wpS P ρ (if (!P.eqGuardType P.depth t)=true then _ else _) σ _
     rw[if_pos (by simp[h1])]
     show wpS P ρ ((Op.equal t (.agg p'.toArray) (.agg q'.toArray)).bind _) σ _
     rw[Ad]
     exact key h3 ⟨rfl,rfl⟩
  ·have hr':(match eqD ks p q with|some r=>some (CV.b !r)|none=>none)=some v:=hr
   cases h3:eqD ks p q with
   | none=>rw[h3]at hr';cases hr'
   | some r =>
    rw[h3]at hr';cases hr'
    exact Gk (do eqGuard .neq t a b (Af e' a) (Af e' b);binOp .neq t (Af e' a) (Af e' b)) (fun _ _ _ _ _=>rfl) (.b _ .nil) fun ρ σ=>by
     rw[ha,hb]
     show wpS P ρ (Sem.bind (eqGuard .neq t a b (.agg p'.toArray) (.agg q'.toArray)) _) σ _
     rw[Ad]
     show wpS P ρ (if (!P.eqGuardType P.depth t)=true then _ else _) σ _
     rw[if_pos (by simp[h1])]
     show wpS P ρ ((Op.equal t (.agg p'.toArray) (.agg q'.toArray)).bind _) σ _
     rw[Ad]
     exact key h3 ⟨rfl,rfl⟩
 ·cases hd
theorem Brp{t t':TypeId}{a b:Operand}{op:BinOp}{u z:CV}{v:CV}{v1 v2:Value}(hr:(binKW (xIsSl (P.underlying t)) (xIsFn (P.underlying t)) op).run u z=some v)(hu:V1 R u v1)(hz:V1 R z v2)(ha:Af e' a=v1)(hb:Af e' b=v2) :
  Nr P (.binOp op t a b t') R e' v:=by
 cases op<;>first|(cases hr;done)|skip
 ·have hr':catW u z=some v:=hr
  unfold catW at hr'
  split at hr'
  ·rename_i a0 b0
   split at hr'
   ·rename_i hl
    cases hr'
    rw[Tb hu]at ha;rw[Tb hz]at hb
    have hl:=lZ5 hl
    rw[Fv,Fv]at hl
    replace hl:a0.length+b0.length≤1000000:=hl
    refine Xz ha hb Nc (v:=.string ⟨(xApp a0 b0).toArray⟩) (.s _ .nil) ?_
    rw[Ho]
    simp only[binOp,Op.stringOp]
    rw[if_neg (by
     have c:(⟨a0.toArray⟩:ByteArray).size=a0.length:=rfl
     have d:(⟨b0.toArray⟩:ByteArray).size=b0.length:=rfl
     have e:IntKind.i64.max=9223372036854775807:=rfl
     rw[c,d,e];omega)]
    congr 2
   ·cases hr'
  ·cases hr'
 ·have hr':(match xEqW (xIsSl (P.underlying t)) (xIsFn (P.underlying t)) u z with|some r=>some (CV.b r)|none=>none)=some v:=hr
  cases h3:xEqW (xIsSl (P.underlying t)) (xIsFn (P.underlying t)) u z with
  | none=>rw[h3]at hr';cases hr'
  | some r=>rw[h3]at hr';cases hr';exact(Axl h3 hu hz ha hb).1
 ·have hr':(match xEqW (xIsSl (P.underlying t)) (xIsFn (P.underlying t)) u z with|some r=>some (CV.b !r)|none=>none)=some v:=hr
  cases h3:xEqW (xIsSl (P.underlying t)) (xIsFn (P.underlying t)) u z with
  | none=>rw[h3]at hr';cases hr'
  | some r=>rw[h3]at hr';cases hr';exact(Axl h3 hu hz ha hb).2
theorem Bgt{op : BinOp}{t t' : TypeId}{a b : Operand}(he : EnvR R e e')(hg : Jp R)(h : (match (rdK a).run e, (rdK b).run e with
        | .i k a,.i k' b=>match xKind k k' with
          | true=>match (binKN op).run k a b with|some v=>OR.v v m|none=>.bad
          | false=>.bad
        | .g a,.g b=>match deepG P t with
          | some ks=>match (binKG op).run ks a b with|some v=>.v v m|none=>.bad
          | none=>.bad
        | u,z=>match (binKW (xIsSl (P.underlying t)) (xIsFn (P.underlying t)) op).run u z with|some v=>.v v m|none=>.bad) = .v x m'):m'=m∧Nr P (.binOp op t a b t') R e' x:=by
  have ha:=Cj he hg a
  have hb:=Cj he hg b
  revert ha hb h
  generalize (rdK a).run e=u,(rdK b).run e=z
  intro h ha hb
  split at h
  · rename_i k u k' z
    split at h
    · rename_i hk
      have hk:=Hv hk
      subst hk
      cases hw:(binKN op).run k u z with
      | none=>rw[hw]at h;cases h
      | some w =>
        rw[hw]at h
        obtain⟨rfl,rfl⟩:=Fm h
        obtain⟨v,c,d⟩:=Bgs (R:=R) (t:=t) (Axy _ _ _ _ _ hw)
        exact⟨rfl,Xz (Jg ha) (Jg hb) Dh c d⟩
    · cases h
  · rename_i p q
    cases hd:deepG P t with
    | none=>rw[hd]at h;cases h
    | some ks =>
      rw[hd]at h
      cases hw:(binKG op).run ks p q with
      | none=>simp only[hw]at h;cases h
      | some w =>
        simp only[hw]at h
        obtain⟨rfl,rfl⟩:=Fm h
        exact⟨rfl,Bro hd hw ha hb rfl rfl⟩
  · cases hw:(binKW (xIsSl (P.underlying t)) (xIsFn (P.underlying t)) op).run u z with
    | none=>rw[hw]at h;cases h
    | some w =>
      rw[hw]at h
      obtain⟨rfl,rfl⟩:=Fm h
      exact⟨rfl,Brp hw ha hb rfl rfl⟩
theorem Bck(op:BinOp)(t:TypeId)(a b:Operand)(t':TypeId):Gb P (.binOp op t a b t'):=fun R e e' m x m' he hg h=>by
 have ha:=Cj he hg a
 have hb:=Cj he hg b
 unfold opK at h
 simp only at h
 split at h
 ·split at h
  ·have h':(match (rdK a).run e,(rdK b).run e with | .i k u,.i _ (.ofNat n)=>OR.v (.i k (k.wrap (u*2^(min n k.bits)))) m|_,_=>.bad) = .v x m':=h
   split at h'
   ·rename_i k u k' n hu hz
    obtain⟨rfl,rfl⟩:=Fm h'
    rw[hu]at ha;rw[hz]at hb
    refine .inl ⟨rfl,Xz (Jg ha) (Jg hb) Dh (.i _ _ .nil) ?_⟩
    show Op.shift .shl k u k' (Int.ofNat n)=_
    unfold Op.shift
    rw[if_neg (show ¬(Int.ofNat n<0) from Int.not_lt.2 (Apq n))]
    rfl
   ·cases h'
  ·have h':(match (rdK a).run e,(rdK b).run e with | .i k u,.i _ (.ofNat n)=>OR.v (.i k (u.fdiv (2^(min n k.bits)))) m|_,_=>.bad) = .v x m':=h
   split at h'
   ·rename_i k u k' n hu hz
    obtain⟨rfl,rfl⟩:=Fm h'
    rw[hu]at ha;rw[hz]at hb
    refine .inl ⟨rfl,Xz (Jg ha) (Jg hb) Dh (.i _ _ .nil) ?_⟩
    show Op.shift .shr k u k' (Int.ofNat n)=_
    unfold Op.shift
    rw[if_neg (show ¬(Int.ofNat n<0) from Int.not_lt.2 (Apq n))]
    rfl
   ·cases h'
  ·have h':(match (rdK a).run e,(rdK b).run e with
    | .i k a,.i k' b=>match xKind k k' with
     | true=>match (binKN op).run k a b with|some v=>OR.v v m|none=>.bad
     | false=>.bad
    | .g a,.g b=>match deepG P t with
     | some ks=>match (binKG op).run ks a b with|some v=>.v v m|none=>.bad
     | none=>.bad
    | u,z=>match (binKW (xIsSl (P.underlying t)) (xIsFn (P.underlying t)) op).run u z with|some v=>.v v m|none=>.bad) = .v x m':=h
   exact .inl (Bgt he hg h')
 ·rename_i ks hf
  obtain⟨fs,C,D,E,F⟩:=Wm hf
  split at h
  ·have h':(match (rdK a).run e,(rdK b).run e with | .g p,.g q=>(match eqF ks p q with|some r=>OR.v (.b r) m|none=>.bad)|_,_=>.bad) = .v x m':=h
   split at h'
   ·rename_i p q hu hz
    rw[hu]at ha;rw[hz]at hb
    cases hr:eqF ks p q with
    | none=>rw[hr]at h';cases h'
    | some r =>
     rw[hr]at h'
     obtain⟨rfl,rfl⟩:=Fm h'
     obtain⟨p',c,d⟩:=Xr ha
     obtain⟨q',f,j⟩:=Xr hb
     obtain⟨ps,qs,w,B⟩:=Ads fs.toList 0 ks p q p' q' r F hr c f
     refine .inl ⟨rfl,_,.b _ .nil,fun ρ σ dd ty pos af g=>?_⟩
     have:=Acg (P:=P) (ρ:=ρ) (e:=e') (ty:=ty) (t':=t') (x:=a) (y:=b) (fs:=fs.toList) (by rw[Ww];exact C) D E d j w
     rw[B]
     exact this ρ σ dd pos af g fun _ _ h=>h
   ·cases h'
  ·have h':(match (rdK a).run e,(rdK b).run e with | .g p,.g q=>(match eqF ks p q with|some r=>OR.v (.b !r) m|none=>.bad)|_,_=>.bad) = .v x m':=h
   split at h'
   ·rename_i p q hu hz
    rw[hu]at ha;rw[hz]at hb
    cases hr:eqF ks p q with
    | none=>rw[hr]at h';cases h'
    | some r =>
     rw[hr]at h'
     obtain⟨rfl,rfl⟩:=Fm h'
     obtain⟨p',c,d⟩:=Xr ha
     obtain⟨q',f,j⟩:=Xr hb
     obtain⟨ps,qs,w,B⟩:=Ads fs.toList 0 ks p q p' q' r F hr c f
     refine .inl ⟨rfl,_,.b _ .nil,fun ρ σ dd ty pos af g=>?_⟩
     have:=Aci (P:=P) (ρ:=ρ) (e:=e') (ty:=ty) (t':=t') (x:=a) (y:=b) (fs:=fs.toList) (by rw[Ww];exact C) D E d j w
     rw[B]
     exact this ρ σ dd pos af g fun _ _ h=>h
   ·cases h'
  ·cases h
end
end
section
open Go
section
variable{P:Program}{R:XR}{e:Tr CV}{e':Env}{m m':Mem}{x:CV}
theorem Pw{o:Op}{ρ:Ro}{v:Value}(hv:V1 R x v)(h:∀ρ ty,Yld P ρ e' o ty v):Nr P o R e' x:=⟨v,hv,fun ρ σ dd ty pos af g=>h ρ ty ρ σ dd pos af g fun _ _ h=>h⟩
theorem Bch{fs:List Field}{i o n:Nat}(h:fldAt P fs i=some (o,n)):∃f,fs[i]?=some f∧f.offset=o∧∃t,P.info? f.type=some t∧t.size=n:=by
 unfold fldAt at h
 cases hf:fs[i]? with
 | none=>rw[hf]at h;cases h
 | some f =>
  rw[hf]at h
  simp only at h
  cases hn:xSzT P f.type with
  | none=>rw[hn]at h;cases h
  | some n'=>rw[hn]at h;cases h;exact⟨f,rfl,rfl,Je hn⟩
theorem Adz(t:TypeId)(a:Operand)(i:Nat):Gb P (.fieldAddr t a i):=fun R e e' m x m' he hg h=>by
 have ha:=Cj he hg a
 unfold opK at h
 simp only at h
 split at h
 ·rename_i fs hT
  split at h
  ·rename_i o n hf
   split at h
   ·rename_i hn
    have h':(match (rdK a).run e with | .p k off=>OR.v (.p k (Nat.add off o)) m|_=>.bad) = .v x m':=h
    split at h'
    ·rename_i k off hu
     obtain⟨rfl,rfl⟩:=Fm h'
     rw[hu]at ha
     obtain⟨b,c,d,g⟩:=Aru ha
     obtain⟨f,j,q,u⟩:=Bch hf
     refine .inl ⟨rfl,Pw (ρ:=fun _=>none) (.p d .nil) fun ρ ty=>?_⟩
     exact Ajt hT (by rw[←Avu];exact j) q u (by have:=lZ5 hn;omega) g rfl
    ·cases h'
   ·cases h
  ·cases h
 ·cases h
theorem Aea(t:TypeId)(a b:Operand):Gb P (.indexAddr t a b):=fun R e e' m x m' he hg h=>by
 have ha:=Cj he hg a
 have hb:=Cj he hg b
 unfold opK at h
 simp only at h
 split at h
 ·rename_i el hT
  split at h
  ·rename_i n hn
   have h':(match (rdK a).run e,(rdK b).run e with
    | .sl k off ln _ _,.i _ (.ofNat i)=>match Nat.ble (Nat.succ i) ln with|true=>OR.v (.p k (Nat.add off (Nat.mul i n))) m|false=>.bad
    | _,_=>.bad) = .v x m':=h
   split at h'
   ·rename_i k off ln kn c ik i hu hz
    split at h'
    ·rename_i hlt
     obtain⟨rfl,rfl⟩:=Fm h'
     rw[hu]at ha;rw[hz]at hb
     obtain⟨bl,d,f,g⟩:=Tc ha
     refine .inl ⟨rfl,Pw (ρ:=fun _=>none) (.p f .nil) fun ρ ty=>?_⟩
     exact Ajv i hT (Je hn) g (Jg hb) rfl (lZ5 hlt) rfl
    ·cases h'
   ·cases h'
  ·cases h
 ·rename_i ln el hT
  split at h
  ·rename_i n hn
   have h':(match (rdK a).run e,(rdK b).run e with
    | .p k off,.i _ (.ofNat i)=>match Nat.ble (Nat.succ i) ln with|true=>OR.v (.p k (Nat.add off (Nat.mul i n))) m|false=>.bad
    | _,_=>.bad) = .v x m':=h
   split at h'
   ·rename_i k off ik i hu hz
    split at h'
    ·rename_i hlt
     obtain⟨rfl,rfl⟩:=Fm h'
     rw[hu]at ha;rw[hz]at hb
     obtain⟨bl,d,f,g⟩:=Aru ha
     refine .inl ⟨rfl,Pw (ρ:=fun _=>none) (.p f .nil) fun ρ ty=>?_⟩
     exact Aju i hT (Je hn) g (Jg hb) rfl (lZ5 hlt) rfl
    ·cases h'
   ·cases h'
  ·cases h
 ·cases h
theorem Bbi(l:List UInt8)(i:Nat):(⟨l.toArray⟩:ByteArray)[i]?=l[i]?:=by
 by_cases h:i<l.length
 ·rw[Um h,getElem?_pos (⟨l.toArray⟩:ByteArray) i (by show i<l.toArray.size;simpa using h)];rfl
 ·rw[Og (by omega),getElem?_neg (⟨l.toArray⟩:ByteArray) i (by show ¬i<l.toArray.size;simpa using h)]
theorem Akd{ρ:Ro}{σ:Own}{l:List Value}{n off:Nat}{Q:Value→Own→Prop}{t:TypeId}(ha:∃d,P.underlying t=some d∧Qv d=true)(hn:∃i,P.info? t=some i∧i.size=n)(h:Q (.agg ((l.drop off).take n).toArray) σ):wpS P ρ (part t l.toArray off) σ Q:=by
 show wpS P ρ ((isAgg t).bind _) σ Q
 rw[Ad]
 refine Hi ha ?_
 simp only[if_true]
 show wpS P ρ ((sizeOf t).bind _) σ Q
 rw[Ad]
 refine Dx hn ?_
 have a:l.toArray.extract off (off+n)=((l.drop off).take n).toArray:=by simp[Bcy]
 rw[a]
 exact h
theorem Atk(t:TypeId)(a b:Operand):Gb P (.index t a b):=fun R e e' m x m' he hg h=>by
 have ha:=Cj he hg a
 have hb:=Cj he hg b
 unfold opK at h
 simp only at h
 split at h
 ·rename_i ln el hT
  split at h
  ·rename_i n hn hagg
   have h':(match (rdK a).run e,(rdK b).run e with
    | .g l,.i _ (.ofNat i)=>match Nat.ble (Nat.succ i) ln,xNth (Nat.mul i n) l with|true,some v=>OR.v v m|_,_=>.bad
    | _,_=>.bad) = .v x m':=h
   split at h'
   ·rename_i l ik i hu hz
    split at h'
    ·rename_i w hlt hw
     obtain⟨rfl,rfl⟩:=Fm h'
     rw[hu]at ha;rw[hz]at hb
     obtain⟨l',d,f⟩:=Xr ha
     rw[Xw]at hw
     obtain⟨v,j,k⟩:=d.at hw
     refine .inl ⟨rfl,Gk (Instr.index t (Af e' a) (Af e' b)) (fun _ _ _ _ _=>rfl) k fun ρ σ=>?_⟩
     rw[f,Jg hb]
     show wpS P ρ ((underlying t).bind _) σ _
     rw[Ad]
     refine Az hT ?_
     simp only[]
     have hlt:=lZ5 hlt
     rw[if_pos ⟨Apq i,by show (i:Int)<(ln:Int);omega⟩]
     show wpS P ρ ((sizeOf el).bind _) σ _
     rw[Ad]
     refine Dx (Je hn) ?_
     refine Qr (Tg hagg) ?_ ⟨rfl,rfl⟩
     rw[Ib]
     exact j
    ·cases h'
   ·cases h'
  ·rename_i n hn hagg
   have h':(match (rdK a).run e,(rdK b).run e with
    | .g l,.i _ (.ofNat i)=>match Nat.ble (Nat.succ i) ln,xTkn n (xDrp (Nat.mul i n) l) with|true,some r=>OR.v (.g r) m|_,_=>.bad
    | _,_=>.bad) = .v x m':=h
   split at h'
   ·rename_i l ik i hu hz
    split at h'
    ·rename_i r hlt hw
     obtain⟨rfl,rfl⟩:=Fm h'
     rw[hu]at ha;rw[hz]at hb
     obtain⟨l',d,f⟩:=Xr ha
     rw[Uf]at hw
     refine .inl ⟨rfl,Gk (v:=.agg ((l'.drop (i*n)).take n).toArray) (Instr.index t (Af e' a) (Af e' b)) (fun _ _ _ _ _=>rfl) (.g ?_ .nil) fun ρ σ=>?_⟩
     ·obtain⟨_,rfl⟩:=Ui _ _ _ hw
      exact(d.drop _).take _
     rw[f,Jg hb]
     show wpS P ρ ((underlying t).bind _) σ _
     rw[Ad]
     refine Az hT ?_
     simp only[]
     have hlt:=lZ5 hlt
     rw[if_pos ⟨Apq i,by show (i:Int)<(ln:Int);omega⟩]
     show wpS P ρ ((sizeOf el).bind _) σ _
     rw[Ad]
     refine Dx (Je hn) ?_
     exact Akd (Tg hagg) (Je hn) ⟨rfl,rfl⟩
    ·cases h'
   ·cases h'
  ·cases h
 ·rename_i hT
  have h':(match (rdK a).run e,(rdK b).run e with
    | .s l,.i _ (.ofNat i)=>match xNth i l with|some b=>OR.v (.i .u8 (.ofNat b.toNat)) m|none=>.bad
    | _,_=>.bad) = .v x m':=h
  split at h'
  ·rename_i l ik i hu hz
   rw[Xw]at h'
   cases hc:l[i]? with
   | none=>rw[hc]at h';cases h'
   | some c =>
    rw[hc]at h'
    obtain⟨rfl,rfl⟩:=Fm h'
    rw[hu]at ha;rw[hz]at hb
    refine .inl ⟨rfl,Pw (ρ:=fun _=>none) (.i _ _ .nil) fun ρ ty=>?_⟩
    exact Ace i c hT (Tb ha) (Jg hb) rfl (by rw[Bbi];exact hc)
  ·cases h'
 ·cases h
theorem Ase{v:Value}(h:V1 R .sn v):v = .slice none 0 0:=by cases h;rfl
theorem Ath(s d:TypeId)(a:Operand):Gb P (.convert s d a):=fun R e e' m x m' he hg h=>by
 have ha:=Cj he hg a
 unfold opK at h
 simp only at h
 split at h
 ·rename_i k0 k hS hD
  have h':(match (rdK a).run e with | .i _ v=>OR.v (.i k (k.wrap v)) m|_=>.bad) = .v x m':=h
  split at h'
  ·rename_i k1 v hu
   obtain⟨rfl,rfl⟩:=Fm h'
   rw[hu]at ha
   exact .inl ⟨rfl,Pw (ρ:=fun _=>none) (.i _ _ .nil) fun ρ ty=>Acf hS hD (Jg ha) rfl⟩
  ·cases h'
 ·rename_i el hS hD
  split at h
  ·rename_i hE
   have h':(match (rdK a).run e with
    | .s v=>OR.v (.sl m.nx 0 (xLen v) false 0) (m.add (.grow 1 (xBytesC v)))
    | _=>.bad) = .v x m':=h
   split at h'
   ·rename_i v hu
    obtain⟨rfl,rfl⟩:=Fm h'
    rw[hu]at ha
    refine .inr ⟨.add _ _,fun _=>Amx _,fun ρ σ σ₀ dd ty pos af g hm=>?_⟩
    obtain⟨L,G,hm⟩:=hm
    show wpS P ρ ((convert s d (Af e' a)).bind fun v=>Sem.pure (Next.value v)) σ _
    rw[Ad,Tb ha]
    show wpS P ρ ((underlying s).bind _) σ _
    rw[Ad]
    refine Az hS ?_
    show wpS P ρ ((underlying d).bind _) σ _
    rw[Ad]
    refine Az hD ?_
    show wpS P ρ ((underlying el).bind _) σ _
    rw[Ad]
    refine Az hE ?_
    show wpS P ρ ((choose (.appendCap v.toArray.size 0 el)).bind _) σ _
    rw[Ad]
    show (if (Question.appendCap v.toArray.size 0 el).forced then _ else ∀tt,_)
    rw[if_neg (by simp[Question.forced])]
    intro tt
    have j:v.length≤(Question.appendCap v.toArray.size 0 el).cut tt:=by simp[Question.cut]
    generalize (Question.appendCap v.toArray.size 0 el).cut tt=nc at j
    show wpS P ρ ((newRow el ((v.toArray.map fun b=>Value.int .u8 b.toNat)++Array.replicate (nc-v.toArray.size) (.int .u8 0))).bind _) σ _
    rw[Ad]
    refine Ik fun r=>?_
    have f:((v.toArray.map fun (b:UInt8)=>Value.int .u8 (b.toNat:Int))++Array.replicate (nc-v.toArray.size) (Value.int .u8 0))=((v.map fun (c:UInt8)=>Value.int .u8 (c.toNat:Int))++List.replicate (nc-v.length) (Value.int .u8 0)).toArray:=by
     apply Array.ext';simp
    rw[f]
    show wpS P ρ ((markStringish ⟨r,0,none⟩).bind _) _ _
    rw[Ad]
    show wpS P ρ ((shape r).bind _) _ _
    rw[Ad]
    refine⟨_,.inr mC,?_⟩
    refine .inr ⟨by simp,0,_,_,0,0,rfl,?_⟩
    have hb:∀(R:XR) (l:List UInt8),VR R (xBytesC l) (l.map fun (c:UInt8)=>Value.int .u8 (c.toNat:Int)):=fun R l=>by
     induction l with
     | nil=>exact .nil
     | cons c l ih=>exact .i _ _ ih
    have n:xLen v=v.toArray.size:=by rw[Fv];simp
    refine⟨R.add m.nx (r,nc),_,hm.fresh _,.inl rfl,?_,?_⟩
    ·rw[n]
     exact .slU XR.add_same .nil
    ·refine hm.add (.grow (hb _ v) (by simp;omega) Nat.one_pos fun i hi=>?_)
     simp only[Aax,Aqe]at hi
     simp
     omega
   ·cases h'
  ·cases h
 ·cases h
theorem Qk{b:Builtin}{az:Array Operand}{ts:Array TypeId}{dd:Option Tmp}{ty:TypeId}{pos:String}{af:Array Edge}{g:Option (Nat×Bool)}(f:Operand→Value):∃cs,execOp f ⟨dd,.call ⟨.builtin b,az,ts⟩,ty,pos,af,g⟩=builtin b ts ty cs (az.map f):=⟨_,rfl⟩
theorem Hz{b:Builtin}{c:Call}{vs:List Value}{v:Value}(hc:c.callee = .builtin b)(hv:c.args.map (Af e')=vs.toArray)(hx:V1 R x v)
  (h:∀ty cs ρ σ,wpS P ρ (builtin b c.argTypes ty cs vs.toArray) σ (fun nx σ'=>nx = .value v∧σ'=σ)):Nr P (.call c) R e' x:=⟨v,hx,fun ρ σ dd ty pos af g=>by
 obtain⟨cl,az,ts⟩:=c
 simp only at hc;subst hc
 obtain⟨cs,a⟩:=Qk (b:=b) (az:=az) (ts:=ts) (dd:=dd) (ty:=ty) (pos:=pos) (af:=af) (g:=g) (Af e')
 simp only at hv h
 rw[a,hv]
 exact h ty cs ρ σ⟩
end
end
end Go.Proofs.YtjdkajkimeainaaGreatDoor
