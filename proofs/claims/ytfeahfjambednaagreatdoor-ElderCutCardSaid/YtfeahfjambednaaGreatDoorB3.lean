/- Part 3 of what all laws of layer 8 need: a logic of programs that start goroutines, and what the functions yield. -/
import Derived.Test.YtfeahfjambednaaGreatDoorB2
set_option linter.unusedVariables false
set_option linter.unusedSimpArgs false
set_option maxRecDepth 100000
set_option maxHeartbeats 4000000
namespace Go.Proofs.YtfeahfjambednaaGreatDoor
open Go
section
def ObjsO(τ:Own):Prop:=∀x∈τ,∃r o,x=(r,Res.obj o)
theorem Aeg{r o}:ObjsO [(r,Res.obj o)]:=fun x hx=>by rw[Oj.1 hx];exact⟨_,_,rfl⟩
theorem ObjsO.add{τ a b o o'}(h:ObjsO τ):ObjsO (τ++[(a,Res.obj o),(b,Res.obj o')]):=fun x hx=>by
 rcases Hr.1 hx with h1|h1
 ·exact h x h1
 ·rcases lZ9.1 h1 with rfl|h2
  ·exact⟨_,_,rfl⟩
  ·rw[Oj.1 h2];exact⟨_,_,rfl⟩
theorem Bab{pfx τ:Own}{a b:Nat×Res}:(pfx++[a,b]++τ)[pfx.length]?=some a:=by simp
theorem Bfs{pfx τ:Own}{a b a':Nat×Res}:(pfx++[a,b]++τ).set pfx.length a'=pfx++[a',b]++τ:=by rw[Gt,List.set_append_right _ _ (Ig _),Alz,Gt];rfl
theorem Asw{pfx τ:Own}{a b:Nat×Res}:pfx++a::b::τ=pfx++[a,b]++τ:=by simp
section
variable{mn:Bool}{X:Frame->List Frame->Ro->Own->Cy->Prop}{b:FB}{n:Nat}{e:Env}{ds:List Deferred}{Y:Ro}{Z:Own}
end
def Es(acc:List UInt8):List UInt8->List (List UInt8)
 | []=>if acc=[] then [] else [acc]
 | x::r=>if x=10 then (acc++[10])::Es [] r else Es (acc++[x]) r
theorem Arf:∀{s acc:List UInt8},(∀x∈s,x≠10)->Es acc s=if acc++s=[] then [] else [acc++s]
 | [],acc,_=>by unfold Es;rw[Tf]
 | x::r,acc,h=>by
  unfold Es;rw[if_neg (h x mC),Arf fun y hy=>h y (lZ0 _ hy)];simp
theorem Are:∀{m:Nat} {s acc:List UInt8},s[m]?=some 10->(∀j,j<m->s[j]?≠some 10)->Es acc s=(acc++s.take (m+1))::Es [] (s.drop (m+1))
 | _,[],_,h,_=>by cases h
 | 0,x::r,acc,h,_=>by
  obtain rfl:x=10:=by simpa using h
  conv=>lhs;unfold Es
  rw[if_pos rfl];rfl
 | m+1,x::r,acc,h,hj=>by
  have hx:x≠10:=fun e=>hj 0 (by omega) (by rw[e];rfl)
  conv=>lhs;unfold Es
  rw[if_neg hx,Are (m:=m) (s:=r) (by simpa using h) (fun j hjm=>by have:=hj (j+1) (by omega);simpa using this)];simp
theorem Aya{s m}(h:s[m]?=some 10)(hj:∀j,j<m->s[j]?≠some 10):Es [] s=((s.take (m+1)).drop 0)::Es [] ((s.take s.length).drop (m+1)):=by rw[Are h hj,Ve,Aca,Ami]
theorem Axz{s}(h:∀x∈s,x≠10)(hs:0<s.length):Es [] s=[s]:=by rw[Arf h,Aca,if_neg];intro e;rw[e]at hs;cases hs
theorem Agn:∀{s acc:List UInt8},∀w∈Es acc s,w.length<=acc.length+s.length
 | [],acc,w,hw=>by
  unfold Es at hw;split at hw
  ·cases hw
  ·rw[Oj.1 hw];simp
 | x::r,acc,w,hw=>by
  unfold Es at hw;split at hw
  ·rcases lZ9.1 hw with rfl|h1
   ·simp
   ·have:=Agn w h1;simp only[Pc,Gk]at *;omega
  ·have:=Agn w hw;simp only[lZ4,Gk,Pc]at *;omega
end
section
theorem Bhx{s}(h:decide (Rn 10 s>=0)=true):∃m:Nat,Rn 10 s=(m:Int)/\m<s.length/\Es [] s=((s.take (m+1)).drop 0)::Es [] ((s.take s.length).drop (m+1)):=by
 rcases Zy (c:=10) (p:=s) with⟨m,a,b,d,e⟩|⟨a,_⟩
 ·exact⟨m,a,b,Aya d e⟩
 ·have:=lZ2 h;omega
theorem Bhw{s}(h:decide (Rn 10 s>=0)=false)(hs:0<s.length):Es [] s=[s]:=by
 rcases Zy (c:=10) (p:=s) with⟨m,a,b,d,e⟩|⟨_,a⟩
 ·have:=lZ1 h;omega
 ·exact Axz a hs
theorem Bko{mn X Y Z t}:CallsH (CX mn X) 65 #[.string (bs t)] Y Z (fun w Y' Z'=>Y'=Y/\∃k:Nat,w = .func (.func 94) #[] #[pV k]/\Z'=(k,oC #[.string (bs t)] 9)::Z):=by refine Bq 4 [2] Tryz.func65 rfl fun Q b g=>qA fun e c=>Arv (Ox (v:=.string (bs t)) rfl fun a=>?_);refine Av .nilFunc (qB c fun f d=>l_v (Il (fn:=.func 94) (caps:=[.tmp 1]) (vs:=[pV a]) ⟨rfl,trivial⟩) (Av (.func (.func 94) #[] #[pV a]) (l_k d (Aq (b ⟨rfl,_,rfl,rfl⟩)))))
theorem Brr{mn:Bool}{X:Frame->List Frame->Ro->Own->Cy->Prop}{Y:Ro}{Z:Own}{n:Nat}(hn:n<100):CallsH (CX mn X) 168 #[iV n] Y Z (rP Y Z (.string (bs (Oz n)))):=by
 refine Bq 15 [2] Tryz.func168 rfl fun Q b v=>qA fun j c=>Av (.string (ByteArray.mk #[])) (qE c fun k m d e=>Au (iV n) (l_v (Da rfl rfl) (l_k e (Bp (t:=decide ((n:Int)<10)) rfl (fun a=>?_) (fun a=>?_)))))
 ·have i:=lZ2 a;refine qA fun q f=>Au (iV n) (Au (iV n) (l_v (Fk (((n+1):Nat):Int)) (l_v (Zj (p:=bZ1) (l:=n) (h:=n+1) Ceb rfl (.inr ⟨_,rfl,rfl⟩) (.inr ⟨_,rfl,rfl⟩) (by first|omega|(show _<=36;omega)|(show _<=200;omega)) (by first|omega|(show _<=36;omega)|(show _<=200;omega))) (Av (.string (bs (((bZ1).take (n+1)).drop n))) (l_k f (Aq (b ⟨rfl,rfl,eT (.string (bs (((bZ1).take (n+1)).drop n))) ?_⟩)))))));rw[But (by omega)]
 have i:=lZ1 a;refine Al (kk d ?_);refine qA fun u g=>Au (iV n) (l_v (Wq rfl rfl (z:=(((n*2):Nat):Int)) wrE) (Au (iV n) (l_v (Wq rfl rfl (z:=(((n*2):Nat):Int)) wrE) (l_v (Fk ((((n*2)+2):Nat):Int)) (l_v (Zj (p:=smL) (l:=n*2) (h:=(n*2)+2) Ceb rfl (.inr ⟨_,rfl,rfl⟩) (.inr ⟨_,rfl,rfl⟩) (by first|omega|(show _<=36;omega)|(show _<=200;omega)) (by first|omega|(show _<=36;omega)|(show _<=200;omega))) (Av (.string (bs ((smL.take ((n*2)+2)).drop (n*2)))) (l_k g (Aq (b ⟨rfl,rfl,eT (.string (bs ((smL.take ((n*2)+2)).drop (n*2)))) ?_⟩)))))))));rw[Buu (by omega) (by omega)]
theorem Bgt{mn:Bool}{X:Frame->List Frame->Ro->Own->Cy->Prop}{Y:Ro}{Z:Own}{n:Nat}(h1:n<100):CallsH (CX mn X) 140 #[iV n,iV 10] Y Z (rP Y Z (.string (bs (Oz n)))):=by refine Bq 54 [4] Tryz.func140 rfl fun Q a m=>qA fun f b=>Av (.string (ByteArray.mk #[])) (qE b fun g h p c=>Au (iV 10) (l_v (Ek rfl rfl) (l_k c (Co rfl rfl (qD fun i j q d=>Au (iV n) (l_v (Uz rfl rfl) (Au (.bool (decide (0<=(n:Int)))) (l_M (iV n) (gY rfl (Mm (by omega))) rfl (Aa (gY rfl (Mm (by omega))) (Da rfl rfl) (l_v (Bt rfl (Mm (by omega)) (v:=.bool (decide ((n:Int)<100))) rfl) (l_k d (Co rfl (Mm (by omega)) (qA fun k e=>Au (iV n) (Arv (Cj (Brr (n:=n) (by omega)) Tryz.func168 ?_)))))))))))))));refine Av (.string (bs (Oz n))) (l_k e (Aq (a (rT (.string (bs (Oz n))) ?_))));rfl
def pcC(c:UInt8):Bool:=decide (32<=c.toNat)&&decide (c.toNat<=126)
def Nq(p:List UInt8):Bool:=p.all pcC
def Boz(p:List UInt8)(j:Nat):Bool:=match p[j]? with|some c=>pcC c|none=>true
theorem Cbx{p:List UInt8}{i:Nat}{c:UInt8}(h:p[i]?=some c)(h1:32<=c.toNat)(h2:c.toNat<=126):Boz p i=true:=by unfold Boz;rw[h];simp[pcC,h1,h2]
theorem Buc{p:List UInt8}(h:∀j,j<p.length->Boz p j=true):Nq p=true:=by unfold Nq;rw[Ny];intro c hc;obtain⟨j,hj⟩:=Td hc;have:=h j (lZ3.1 hj).1;unfold Boz at this;rw[hj]at this;exact this
theorem Bfm{p:List UInt8}{i:Nat}{c:UInt8}(h:p[i]?=some c)(h1:c.toNat<32∨126<c.toNat):Nq p=false:=by
 cases hp:Nq p with
 | false=>rfl
 | true =>
  have:=Ny.1 hp c (lZ5 h);simp only[pcC,Pb,decide_eq_true_eq]at this;omega
def Ail:List UInt8->Nat->Nat
 | [],_=>0
 | c::p,i=>c.toNat*(i%96+1)+Ail p (i+1)
theorem Bpz(p q:List UInt8)(i:Nat):Ail (p++q) i=Ail p i+Ail q (i+p.length):=by
 induction p generalizing i with
 | nil=>simp[Ail]
 | cons c p ih =>
  rw[Te,Ail,Ail,ih,Gk,show i+1+p.length=i+(p.length+1) by omega];omega
theorem Bjb{p:List UInt8}{i:Nat}{c:UInt8}(h:p[i]?=some c):Ail (p.take (i+1)) 0=Ail (p.take i) 0+c.toNat*(i%96+1):=by
 rw[Xu,h,Bpz];have:(p.take i).length=i:=by rw[Ha];have:=(lZ3.1 h).1;omega
 simp[Ail,this]
theorem Btp(c:UInt8)(i:Nat):c.toNat*(i%96+1)<=24480:=by
 have d:=c.toNat_lt;have b:i%96+1<=96:=by omega
 calc c.toNat*(i%96+1)<=255*96:=Amj (by omega) b
  _=24480:=rfl
def Jp(n:Nat)(p:List UInt8):Nat:=(7*n+Ail p 0)%97
theorem Bry(n:Nat)(p:List UInt8):Jp n p<97:=Arc _ (by omega)
def Cbj(c:Nat):List UInt8:=[UInt8.ofNat (48+c/10),UInt8.ofNat (48+c%10)]
def Wa(n:Nat)(p:List UInt8):List UInt8:=p++[32,35]++Cbj (Jp n p)++[10]
def Uf(p:List UInt8):Bool:=p.drop (p.length-1)==[10]
def Ps(s:List UInt8):Bool:=s.take 2==[32,35]&&(s.drop 2).all Jb
def ckV(s:List UInt8):Nat:=match s with|[_,_,a,b]=>(a.toNat-48)*10+(b.toNat-48)|_=>0
def ckR(s:List UInt8):Nat:=if Ps s=true then ckV s else 0
theorem Cbf{s:List UInt8}(h:(s.take 2 != [32,35])=true):Ps s=false:=by
 unfold Ps;rw[bne_iff_ne]at h;have:(s.take 2==[32,35])=false:=by simpa using h
 rw[this];rfl
theorem Cbg{s:List UInt8}(h:(s.drop 2).all Jb=false):Ps s=false:=by unfold Ps;rw[h,Axr]
theorem Cct{s:List UInt8}(h1:(s.take 2 != [32,35])=false)(h2:(s.drop 2).all Jb=true):Ps s=true:=by
 unfold Ps;have:(s.take 2==[32,35])=true:=by simpa using h1
 rw[this,h2];rfl
theorem Bvm{s:List UInt8}(h:Ps s=false):ckR s=0:=by unfold ckR;rw[h];rfl
theorem Bvn{s:List UInt8}{i:Nat}{c:UInt8}(h:(s.drop 2).all Jb=true)(hi:2<=i)(hc:s[i]?=some c):48<=c.toNat/\c.toNat<=57:=by have hm:c∈s.drop 2:=lZ5 (i:=i-2) (by rw[Agl,show 2+(i-2)=i by omega];exact hc);have:=Ny.1 h c hm;exact Atl this
theorem Cbe{s:List UInt8}{a b:UInt8}(hl:s.length=4)(h:Ps s=true)(h2:s[2]?=some a)(h3:s[3]?=some b):ckR s=(a.toNat-48)*10+(b.toNat-48):=by
 unfold ckR;rw[if_pos h]
 match s,hl with
 | [x,y,z,w],_ =>
  simp at h2 h3;subst h2 h3;rfl
end
section
variable{mn:Bool}{X:Frame->List Frame->Ro->Own->Cy->Prop}{Y:Ro}{Z:Own}
theorem Pq{n low high:Int} :CallsH (CX mn X) 45 #[iV n,iV low,iV high] Y Z (rP Y Z (.bool (inR n low high))):=by
 refine Bq 15 [6] Cff rfl fun Q b h=>qA fun f d=>Av bF (qB d fun g c=>Au (iV low) (Au (iV n) (l_v (Uz rfl rfl) (Au (.bool (decide (low<=n))) (Cn (decide (low<=n)) (fun a=>?_) (fun a=>?_))))))
 ·have e:=lZ2 a;refine l_M (iV n) (qF a) rfl (l_M (iV high) (qF a) rfl (Aa (qF a) (Uz rfl rfl) (l_v (Bt rfl a (v:=.bool (decide (n<=high))) rfl) (Av (.bool (decide (n<=high))) (l_k c (Aq (b (rT (.bool (decide (n<=high))) ?_))))))));simp only[inR,a,bZl]
 have e:=lZ1 a;refine Ap (gN rfl a) (Ap (gN rfl a) (Ap (gN rfl a) (l_v (Bn rfl a (v:=bF) rfl) (Av bF (l_k c (Aq (b (rT bF ?_))))))));simp only[inR,a,bZl]
theorem Bgx{c:UInt8} :CallsH (CX mn X) 82 #[.int .u8 (c.toNat:Int)] Y Z (rP Y Z (.bool (Ov (c.toNat:Int)))):=by
 refine Bq 21 [2] Tryz.func82 rfl fun Q h z=>qA fun x j=>Av bF (qB j fun y i=>Au (.int .u8 (c.toNat:Int)) (l_v (Da rfl rfl) (Au (.bool (decide ((c.toNat:Int)<97))) (Cn (decide ((c.toNat:Int)<97)) (fun b=>?_) (fun b=>?_)))))
 ·have k:=lZ2 b;refine Ap (gN rfl b) (Ap (gN rfl b) (l_v (Bt rfl b (v:=bT) rfl) (Au bT (l_M (.int .u8 (c.toNat:Int)) (gY rfl rfl) rfl (Aa (gY rfl rfl) (Da rfl rfl) (l_M (.bool (decide ((c.toNat:Int)<48))) (gY rfl rfl) rfl (Cn (decide ((c.toNat:Int)<48)) (fun d=>?_) (fun d=>?_))))))))
  ·have m:=lZ2 d;refine Ap (gN rfl d) (Ap (gN rfl d) (Aa (gY rfl rfl) (Bt rfl d (v:=bT) rfl) (l_v (Bt rfl rfl (v:=bT) rfl) (Au bT (l_M (.int .u8 (c.toNat:Int)) (gY rfl rfl) rfl (Aa (gY rfl rfl) (Dg rfl rfl) (l_v (Bt rfl rfl (v:=.bool ((c.toNat:Int) != 45)) rfl) (Av (.bool ((c.toNat:Int) != 45)) (l_k i (Aq (h (rT (.bool ((c.toNat:Int) != 45)) ?_))))))))))));simp only[Ov,b,d,bZl]
  have m:=lZ1 d;refine l_M (.int .u8 (c.toNat:Int)) (qF d) rfl (Aa (qF d) (Gl (p:=(c.toNat:Int)) (q:=57) rfl rfl) (Aa (gY rfl rfl) (Bn rfl d (v:=.bool (decide ((c.toNat:Int)>57))) rfl) (l_v (Bt rfl rfl (v:=.bool (decide ((c.toNat:Int)>57))) rfl) (Au (.bool (decide ((c.toNat:Int)>57))) (Cn (decide ((c.toNat:Int)>57)) (fun f=>?_) (fun f=>?_))))))
  ·have n:=lZ2 f;refine l_M (.int .u8 (c.toNat:Int)) (qF f) rfl (Aa (qF f) (Dg rfl rfl) (l_v (Bt rfl f (v:=.bool ((c.toNat:Int) != 45)) rfl) (Av (.bool ((c.toNat:Int) != 45)) (l_k i (Aq (h (rT (.bool ((c.toNat:Int) != 45)) ?_)))))));simp only[Ov,b,d,f,bZl]
  have n:=lZ1 f;refine Ap (gN rfl f) (Ap (gN rfl f) (l_v (Bn rfl f (v:=bF) rfl) (Av bF (l_k i (Aq (h (rT bF ?_)))))));simp only[Ov,b,d,f,bZl]
 have k:=lZ1 b;refine l_M (.int .u8 (c.toNat:Int)) (qF b) rfl (Aa (qF b) (Gl (p:=(c.toNat:Int)) (q:=122) rfl rfl) (l_v (Bn rfl b (v:=.bool (decide ((c.toNat:Int)>122))) rfl) (Au (.bool (decide ((c.toNat:Int)>122))) (Cn (decide ((c.toNat:Int)>122)) (fun a=>?_) (fun a=>?_)))))
 ·have t:=lZ2 a;refine l_M (.int .u8 (c.toNat:Int)) (qF a) rfl (Aa (qF a) (Da rfl rfl) (l_M (.bool (decide ((c.toNat:Int)<48))) (qF a) rfl (Cn (decide ((c.toNat:Int)<48)) (fun e=>?_) (fun e=>?_))))
  ·have u:=lZ2 e;refine Ap (gN rfl e) (Ap (gN rfl e) (Aa (qF a) (Bt rfl e (v:=bT) rfl) (l_v (Bt rfl a (v:=bT) rfl) (Au bT (l_M (.int .u8 (c.toNat:Int)) (gY rfl rfl) rfl (Aa (gY rfl rfl) (Dg rfl rfl) (l_v (Bt rfl rfl (v:=.bool ((c.toNat:Int) != 45)) rfl) (Av (.bool ((c.toNat:Int) != 45)) (l_k i (Aq (h (rT (.bool ((c.toNat:Int) != 45)) ?_))))))))))));simp only[Ov,b,a,e,bZl]
  have u:=lZ1 e;refine l_M (.int .u8 (c.toNat:Int)) (qF e) rfl (Aa (qF e) (Gl (p:=(c.toNat:Int)) (q:=57) rfl rfl) (Aa (qF a) (Bn rfl e (v:=.bool (decide ((c.toNat:Int)>57))) rfl) (l_v (Bt rfl a (v:=.bool (decide ((c.toNat:Int)>57))) rfl) (Au (.bool (decide ((c.toNat:Int)>57))) (Cn (decide ((c.toNat:Int)>57)) (fun g=>?_) (fun g=>?_))))))
  ·have w:=lZ2 g;refine l_M (.int .u8 (c.toNat:Int)) (qF g) rfl (Aa (qF g) (Dg rfl rfl) (l_v (Bt rfl g (v:=.bool ((c.toNat:Int) != 45)) rfl) (Av (.bool ((c.toNat:Int) != 45)) (l_k i (Aq (h (rT (.bool ((c.toNat:Int) != 45)) ?_)))))));simp only[Ov,b,a,e,g,bZl]
  have w:=lZ1 g;refine Ap (gN rfl g) (Ap (gN rfl g) (l_v (Bn rfl g (v:=bF) rfl) (Av bF (l_k i (Aq (h (rT bF ?_)))))));simp only[Ov,b,a,e,g,bZl]
 have t:=lZ1 a;refine Ap (gN rfl a) (Ap (gN rfl a) (Ap (gN rfl a) (Ap (Jf rfl rfl rfl) (Ap (Jf rfl rfl rfl) (Ap (gN rfl a) (l_v (Bn rfl a (v:=bF) rfl) (Au bF (Ap (gN rfl rfl) (Ap (gN rfl rfl) (l_v (Bn rfl rfl (v:=bF) rfl) (Av bF (l_k i (Aq (h (rT bF ?_)))))))))))))));simp only[Ov,b,a,bZl]
theorem Adb{s:ByteArray}(hs:s.size<2^60):CallsH (CX mn X) 44 #[.string s] Y Z (rP Y Z (.bool (Hg s))):=by
 refine Bq 21 [2] Cfr rfl fun Q h U=>qA fun J w=>Av bF (qE w fun N O D j=>Au (.string s) (l_v (Afz Ceb (s:=s) rfl) (Arv (Bm (vs:=[iV (s.size:Int),iV 1,iV 14]) (v:=.bool (inR (s.size:Int) 1 14)) Pq Cff rfl rfl ⟨rfl,rfl,rfl,trivial⟩ ?_))));refine l_v (Iy rfl) (Au (.bool (!(inR (s.size:Int) 1 14))) (Cn (!(inR (s.size:Int) 1 14)) (fun a=>?_) (fun a=>?_)))
 ·have k:=not_eq_t a;have V:=Abc.1 k;refine Ap (gN rfl a) (Ap (gN rfl a) (Ap (gN rfl a) (l_v (Bt rfl a (v:=bT) rfl) (Au bT (Ap (gN rfl rfl) (Ap (gN rfl rfl) (Ap (gN rfl rfl) (l_v (Bt rfl rfl (v:=bT) rfl) (l_k j (Co rfl rfl (qA fun P E=>Av bF (l_k E (Aq (h (rT bF ?_)))))))))))))));simp only[Hg,Qb,a,k,bZl]
 have g:=Fs a;have W:=Fz.1 g;refine l_M (.string s) (qF a) rfl ?_;obtain⟨d,f⟩:=Alc (s:=s) (i:=0) (by omega);refine Aa (qF a) (Ace 0 d Ceb rfl (q:=0) rfl rfl f) (Aa (qF a) (Da rfl rfl) (l_v (Bn rfl a (v:=.bool (decide ((d.toNat:Int)<97))) rfl) (Au (.bool (decide ((d.toNat:Int)<97))) (Cn (decide ((d.toNat:Int)<97)) (fun b=>?_) (fun b=>?_)))))
 ·have H:=lZ2 b;refine Ap (gN rfl b) (Ap (gN rfl b) (Ap (gN rfl b) (l_v (Bt rfl b (v:=bT) rfl) (l_k j (Co rfl rfl (qA fun K y=>Av bF (l_k y (Aq (h (rT bF ?_))))))))));simp only[Hg,Qb,f,a,g,b,bZl]
 have H:=lZ1 b;refine l_M (.string s) (qF b) rfl (Aa (qF b) (Ace 0 d Ceb rfl (q:=0) rfl rfl f) (Aa (qF b) (Gl (p:=(d.toNat:Int)) (q:=122) rfl rfl) (l_v (Bn rfl b (v:=.bool (decide ((d.toNat:Int)>122))) rfl) (l_k j (Bp (t:=decide ((d.toNat:Int)>122)) rfl (fun e=>?_) (fun e=>?_))))))
 ·have G:=lZ2 e;refine qA fun L z=>Av bF (l_k z (Aq (h (rT bF ?_))));simp only[Hg,Qb,f,a,g,b,e,bZl]
 have G:=lZ1 e;refine Al (kk D ?_);refine qA fun M B=>Au (.string s) (Arv (Amd (s:=s) Ceb Cej Ceo rfl (by omega) fun C n R YQ T m u=>?_));refine Alh m u (by omega) fun ZQ F I=>Arv (Bm (vs:=[.slice (some ⟨C,0,none⟩) s.size n,.func (.func 82) #[] #[]]) (v:=.bool (s.data.toList.any (fun c:UInt8=>Ov (c.toNat:Int)))) (Ta I (⟨82,Tryz.f82,[],rfl,Tryz.func82,rfl,rfl,fun mn X Y Z v x hv=>by rw[Uq.1 hv];exact Bgx⟩:Su (.func (.func 82) #[] #[]) (fun c:UInt8=>Ov (c.toNat:Int)))) Tryz.func81 rfl rfl ⟨rfl,rfl,trivial⟩ ?_);refine l_v (Iy rfl) (Av (.bool (!(s.data.toList.any (fun c:UInt8=>Ov (c.toNat:Int))))) (l_k B (Aj (Cgg F) (Aq (h ⟨rfl,rfl,eT (.bool (!(s.data.toList.any (fun c:UInt8=>Ov (c.toNat:Int))))) ?_⟩)))));rw[Akl,Bool.not_not];simp only[Hg,Qb,f,a,g,b,e,bZl]
theorem Bdg{s:List UInt8}(hb:s.length<=60000):CallsH (CX mn X) 62 #[.string (bs s)] Y Z (rP Y Z (.bool (Nq s))):=by
 refine Bq 20 [2] Tryz.func62 rfl fun Q k a0=>qA fun M x=>Av bF (qE x fun T U D E=>Au (.string (bs s)) (l_v (Gh Ceb (p:=s) rfl) (Au (iV 0) (l_k E (Ao (Cc (fun mm ee dd Y' Z'=>∃(i:Nat),(s.length-i)=mm/\[]=dd/\Y=Y'/\Z=Z'/\ee 0=(.string (bs s))/\ee 5=(iV (s.length:Int))/\ee 6=iV i/\(i<=s.length)/\(∀j,j<i->Boz s j=true)/\True) (m:=_) ⟨0,rfl,rfl,rfl,rfl,rfl,rfl,rfl,Hz _,fun j h=>absurd h (Vn _),trivial⟩ ?_))))));rintro m4 e4 _ _ _ ⟨i,rfl,rfl,rfl,rfl,f,n,g,a2,w,_⟩;refine qA fun V F=>l_v (Da g n) (Asa F fun W G=>Bp (t:=decide ((i:Int)<(s.length:Int))) rfl (fun e=>?_) (fun e=>?_))
 ·have L:=lZ2 e;refine Al (kk G ?_);refine Ai fun YQ H=>Ao (qA fun ZQ I=>l_v (Ah (v:=iV i) g) (Av (iV i) (Arx rfl rfl I fun N u=>l_v (Ah (v:=.string (bs s)) f) (Au (iV i) ?_))));obtain⟨b,c⟩:=Alf (p:=s) (i:=i) (by omega);have a1:=b.toNat_lt;refine l_v (Nh (p:=s) i b Ceb rfl (q:=(i:Int)) rfl rfl c) (l_v (Da rfl rfl) (Au (.bool (decide ((b.toNat:Int)<32))) (Cn (decide ((b.toNat:Int)<32)) (fun a=>?_) (fun a=>?_))))
  ·have J:=lZ2 a;refine Ap (gN rfl a) (Ap (gN rfl a) (Ap (gN rfl a) (Ap (gN rfl a) (l_v (Bt rfl a (v:=bT) rfl) (l_k u (Co rfl rfl (qA fun O y=>Av bF (l_k y (Aq (k (rT bF ?_)))))))))));rw[Bfm c (by omega)]
  have J:=lZ1 a;refine Aa (qF a) (Ah (v:=.string (bs s)) f) (l_M (iV i) (qF a) rfl (Aa (qF a) (Nh (p:=s) i b Ceb rfl (q:=(i:Int)) rfl rfl c) (Aa (qF a) (Gl (p:=(b.toNat:Int)) (q:=126) rfl rfl) (l_v (Bn rfl a (v:=.bool (decide ((b.toNat:Int)>126))) rfl) (l_k u (Bp (t:=decide ((b.toNat:Int)>126)) rfl (fun d=>?_) (fun d=>?_)))))))
  ·have K:=lZ2 d;refine qA fun P B=>Av bF (l_k B (Aq (k (rT bF ?_))));rw[Bfm c (by omega)]
  have K:=lZ1 d;refine Al (kk H ?_);refine qC (l_v (Br g rfl (z:=(((i+1):Nat):Int)) wrE) (Au (iV ((i+1):Nat)) (Ac ?_)));refine⟨_,?_,(i+1),rfl,rfl,rfl,rfl,f,n,rfl,(by omega),(Eg w (Cbx c (by omega) (by omega))),trivial⟩;omega
 have L:=lZ1 e;refine Bx (kk D ?_);refine qA fun R C=>Av bT (l_k C (Aq (k (rT bT ?_))));rw[Buc fun j hj=>w j (by omega)]
theorem Akf{n:Nat}{s:List UInt8}(hn:n<=60000)(hb:s.length<=60000):CallsH (CX mn X) 92 #[iV n,.string (bs s)] Y Z (rP Y Z (iV ((Jp n s):Nat))):=by
 refine Bq 27 [4] Cgf rfl fun Q k T=>qA fun H u=>Av (iV 0) (qB u fun K y=>Au (iV n) (l_v (Wq rfl rfl (z:=(((7*n):Nat):Int)) wrE) (Av (iV ((7*n):Nat)) (qE y fun L M B C=>Au (.string (bs s)) (l_v (Gh Ceb (p:=s) rfl) (Au (iV 0) (l_k C (Ao (Cc (fun mm ee dd Y' Z'=>∃(i:Nat) (a:Nat),(s.length-i)=mm/\[]=dd/\Y=Y'/\Z=Z'/\ee 1=(.string (bs s))/\ee 10=(iV (s.length:Int))/\ee 5=iV a/\ee 11=iV i/\(i<=s.length)/\(a=7*n+Ail (s.take i) 0)/\(a<=420000+24480*i)/\True) (m:=_) ⟨0,7*n,rfl,rfl,rfl,rfl,rfl,rfl,rfl,rfl,Hz _,rfl,(by omega),trivial⟩ ?_)))))))));rintro V R _ _ _ ⟨i,a,rfl,rfl,rfl,rfl,e,f,g,d,W,j,YQ,_⟩;refine qA fun N D=>l_v (Da d f) (Asa D fun O E=>Bp (t:=decide ((i:Int)<(s.length:Int))) rfl (fun c=>?_) (fun c=>?_))
 ·have G:=lZ2 c;refine Al (kk E ?_);refine Ai fun P F=>Ao (qA fun I w=>l_v (Ah (v:=iV i) d) (Av (iV i) (l_k w (qC (l_v (Ah (v:=iV a) g) (l_v (Ah (v:=.string (bs s)) e) (Au (iV i) ?_)))))));obtain⟨b,h⟩:=Alf (p:=s) (i:=i) (by omega);have U:=b.toNat_lt;have hm:=Btp b i;refine l_v (Nh (p:=s) i b Ceb rfl (q:=(i:Int)) rfl rfl h) (l_v (Acf (p:=(b.toNat:Int)) (z:=(b.toNat:Int)) Ceo Ceq rfl wrR) (Au (iV i) (l_v (Bgd (p:=(i:Int)) (q:=96) rfl rfl (by omega) (z:=(((i%96):Nat):Int)) rfl) (l_v (Br rfl rfl (z:=((((i%96)+1):Nat):Int)) wrE) (l_v (Wq rfl rfl (z:=(((b.toNat*((i%96)+1)):Nat):Int)) wrE) (l_v (Br rfl rfl (z:=(((a+(b.toNat*((i%96)+1))):Nat):Int)) wrE) (Av (iV (((a+(b.toNat*((i%96)+1))):Nat):Int)) (l_k F (qC (l_v (Br d rfl (z:=(((i+1):Nat):Int)) wrE) (Au (iV ((i+1):Nat)) (Ac ?_))))))))))));refine⟨_,?_,(i+1),(a+(b.toNat*((i%96)+1))),rfl,rfl,rfl,rfl,e,f,rfl,rfl,(by omega),(by rw[Bjb h,j,Nat.add_assoc]),(by omega),trivial⟩;omega
 have G:=lZ1 c;refine Bx (kk B ?_);refine qA fun J x=>l_v (Ah (v:=iV a) g) (l_v (Bgd (p:=(a:Int)) (q:=97) rfl rfl (by omega) (z:=(((a%97):Nat):Int)) rfl) (Av (iV ((a%97):Nat)) (l_k x (Aq (k (rT (iV ((a%97):Nat)) ?_))))));have hi:i=s.length:=by omega
 rw[j,hi,Ve];rfl
end
section
structure LPart where
 of_:ByteArray
 grams:Int
deriving DecidableEq
instance:Dat LPart:=.iso fun x=>(x.of_,x.grams)
theorem LPart.f_of_:Fld LPart ByteArray 0 LPart.of_:=⟨fun Y cs x=>(Fld.fst:Fld ((ByteArray)×(Int)) ByteArray 0 _).at_ Y cs (x.of_,x.grams)⟩
theorem LPart.f_grams:Fld LPart Int 1 LPart.grams:=⟨fun Y cs x=>((.snd Fld.self):Fld ((ByteArray)×(Int)) Int 1 _).at_ Y cs (x.of_,x.grams)⟩
structure LLot where
 name:ByteArray
 parts:List LPart
deriving DecidableEq
instance:Dat LLot:=.iso fun x=>(x.name,x.parts)
theorem LLot.f_name:Fld LLot ByteArray 0 LLot.name:=⟨fun Y cs x=>(Fld.fst:Fld ((ByteArray)×(List LPart)) ByteArray 0 _).at_ Y cs (x.name,x.parts)⟩
theorem LLot.f_parts:Fld LLot (List LPart) 1 LLot.parts:=⟨fun Y cs x=>((.snd Fld.self):Fld ((ByteArray)×(List LPart)) (List LPart) 1 _).at_ Y cs (x.name,x.parts)⟩
structure LBook where
 fields:List ByteArray
 lots:List LLot
deriving DecidableEq
instance:Dat LBook:=.iso fun x=>(x.fields,x.lots)
theorem LBook.f_fields:Fld LBook (List ByteArray) 0 LBook.fields:=⟨fun Y cs x=>(Fld.fst:Fld ((List ByteArray)×(List LLot)) (List ByteArray) 0 _).at_ Y cs (x.fields,x.lots)⟩
theorem LBook.f_lots:Fld LBook (List LLot) 1 LBook.lots:=⟨fun Y cs x=>((.snd Fld.self):Fld ((List ByteArray)×(List LLot)) (List LLot) 1 _).at_ Y cs (x.fields,x.lots)⟩
theorem LBook.open_{Y:Ro}{v:Value}{x:LBook}(h:Val Y v x):∃c0 c1,v = .agg #[c0,c1]/\Val Y c0 x.fields/\Val Y c1 x.lots:=by obtain⟨cs,⟨i,j,e,⟨f,a,c⟩,⟨g,b,d⟩⟩,hv⟩:=h;subst e;subst a;subst b;exact⟨f,g,hv,Cs.2 c,Cs.2 d⟩
structure LSrc where
 field:Int
 lot:Int
deriving DecidableEq
instance:Dat LSrc:=.iso fun x=>(x.field,x.lot)
theorem LSrc.f_field:Fld LSrc Int 0 LSrc.field:=⟨fun Y cs x=>(Fld.fst:Fld ((Int)×(Int)) Int 0 _).at_ Y cs (x.field,x.lot)⟩
theorem LSrc.f_lot:Fld LSrc Int 1 LSrc.lot:=⟨fun Y cs x=>((.snd Fld.self):Fld ((Int)×(Int)) Int 1 _).at_ Y cs (x.field,x.lot)⟩
theorem LSrc.shut{Y:Ro}{x:LSrc}(h0:I64 x.field)(h1:I64 x.lot):Val Y (.agg #[.int .i64 x.field,.int .i64 x.lot]) x:=⟨[.int .i64 x.field,.int .i64 x.lot],⟨[.int .i64 x.field],[.int .i64 x.lot],rfl,⟨rfl,h0⟩,⟨rfl,h1⟩⟩,rfl⟩
theorem Lu:GoTy Tryz.prog 127 LPart:=⟨⟨_,Cef,rfl⟩,⟨_,Ab Tryz.typeInfo127,rfl⟩⟩
theorem Fm:GoTy Tryz.prog 51 LLot:=⟨⟨_,Ceg,rfl⟩,⟨_,Ab Tryz.typeInfo51,rfl⟩⟩
theorem Mk:GoTy Tryz.prog 25 LBook:=⟨⟨_,Cec,rfl⟩,⟨_,Ab Tryz.typeInfo25,rfl⟩⟩
theorem Aoh:GoTy Tryz.prog 196 LSrc:=⟨⟨_,Cfa,rfl⟩,⟨_,Ab Cfm,rfl⟩⟩
theorem Ee:GoTy Tryz.prog 23 (List LLot):=⟨⟨_,Cee,rfl⟩,⟨_,Ab Tryz.typeInfo23,rfl⟩⟩
theorem Fv:GoTy Tryz.prog 49 (List LPart):=⟨⟨_,Ceh,rfl⟩,⟨_,Ab Tryz.typeInfo49,rfl⟩⟩
theorem Xe:GoTy Tryz.prog 189 (List LSrc):=⟨⟨_,Cex,rfl⟩,⟨_,Ab Tryz.typeInfo189,rfl⟩⟩
def Aou:List Value:=[.string (ByteArray.mk #[]),.int .i64 0]
theorem Aov:Fw Tryz.prog 127 (.agg #[.string (ByteArray.mk #[]),.int .i64 0]):=⟨_,Ab Tryz.typeInfo127,rfl⟩
def Avd:List Value:=[.string (ByteArray.mk #[]),.slice none 0 0]
theorem Ave:Fw Tryz.prog 51 (.agg #[.string (ByteArray.mk #[]),.slice none 0 0]):=⟨_,Ab Tryz.typeInfo51,rfl⟩
def Bqs:List Value:=[.int .i64 0,.int .i64 0]
theorem Avf:Fw Tryz.prog 196 (.agg #[.int .i64 0,.int .i64 0]):=⟨_,Ab Cfm,rfl⟩
end
section
def Ow:List Nat->List Nat->Bool
 | _,[]=>false
 | [],_::_=>true
 | a::l,b::m=>decide (a<b)||(a==b&&Ow l m)
theorem Bno:∀l,Ow l l=false
 | []=>rfl
 | a::l=>by simp[Ow,Bno l]
theorem Bnp:∀{a b c:List Nat},Ow a b=false->Ow b c=false->Ow a c=false
 | a,b,[],_,_=>by cases a<;>rfl
 | a,[],c::m,_,h=>by simp[Ow]at h
 | [],b::l,c::m,h,_=>by simp[Ow]at h
 | a::k,b::l,c::m,h1,h2=>by
  simp only[Ow,Axh,decide_eq_false_iff_not,Bmp,beq_eq_false_iff_ne]at h1 h2 ⊢;refine⟨by omega,?_⟩;by_cases h3:a=c
  ·refine .inr (Bnp (h1.2.resolve_left (by omega)) (h2.2.resolve_left (by omega)))
  ·exact .inl h3
def bet(g:Nat->Int)(S C:Nat):Bool :=
 decide (g S<g C)||(decide (g S=g C)&&(decide ((elems S).length<(elems C).length)||(decide ((elems S).length=(elems C).length)&&Ow (elems S) (elems C))))
section
variable{g:Nat->Int}
theorem Apq{S C:Nat}:bet g S C=false↔g C<=g S/\(g S=g C->(elems C).length<=(elems S).length/\((elems S).length=(elems C).length->Ow (elems S) (elems C)=false)):=by
 unfold bet;simp only[Axh,Bmp,decide_eq_false_iff_not];constructor
 ·rintro⟨b,a⟩;refine⟨by omega,fun h=>?_⟩;rcases a with a|⟨a,h3⟩
  ·exact absurd h a
  ·exact⟨by omega,fun h=>h3.resolve_left (fun h'=>h' h)⟩
 ·rintro⟨b,a⟩;refine⟨by omega,?_⟩;by_cases h:g S=g C
  ·refine .inr ⟨by have:=(a h).1;omega,?_⟩;by_cases h3:(elems S).length=(elems C).length
   ·exact .inr ((a h).2 h3)
   ·exact .inl h3
  ·exact .inl h
theorem Bkc(S:Nat):bet g S S=false:=Apq.2 ⟨by omega,fun _=>⟨by omega,fun _=>Bno _⟩⟩
theorem Bkd{A B C:Nat}(h1:bet g A B=false)(h2:bet g B C=false):bet g A C=false:=by rw[Apq]at h1 h2 ⊢;refine⟨by omega,fun h=>?_⟩;have a:=h1.2 (by omega);have b:=h2.2 (by omega);exact⟨by omega,fun c=>Bnp (a.2 (by omega)) (b.2 (by omega))⟩
theorem Bwo{A B:Nat}(h:bet g A B=true):bet g B A=false:=by
 cases h':bet g B A with
 | false=>rfl
 | true =>
  simp only[bet,Axq,Pb,decide_eq_true_eq]at h h';rcases h with h|⟨h1,h|⟨h2,h3⟩⟩<;>rcases h' with h'|⟨h1',h'|⟨h2',h3'⟩⟩<;>try omega
  exfalso;have:∀{a b:List Nat},Ow a b=true->Ow b a=true->False:=by
   intro a;induction a with
   | nil=>intro b _ h;cases b<;>simp[Ow]at h
   | cons x a ih =>
    intro b h h';cases b with
    | nil=>simp[Ow]at h
    | cons y b =>
     simp only[Ow,Axq,Pb,decide_eq_true_eq,beq_iff_eq]at h h';rcases h with h|⟨h1,h⟩<;>rcases h' with h'|⟨h1',h'⟩<;>try omega
     exact ih h h'
  exact this h3 h3'
def Gv(g:Nat->Int)(lot:Nat):Nat->Nat->Nat->Nat
 | 0,S,C=>if bet g S C then S else C
 | k+1,S,C=>Gv g lot k (S ||| 1 <<< k) (if k=lot then C else Gv g lot k S C)
def Aic(k lot T:Nat):Prop:=T<2^k/\(lot<k->T.testBit lot=true)
theorem Bac{T k j:Nat}(h:T<2^k)(hj:T.testBit j=true):j<k:=by
 rcases Uo j k with h1|h1
 ·exact h1
 ·rw[Bmn (Nx h (Apd (by omega) h1))]at hj;cases hj
theorem Wl{k j:Nat}:(1 <<< k).testBit j=decide (k=j):=by rw[Ape,Nat.testBit_two_pow]
theorem Byv{S T k:Nat}(h:T<2^(k+1))(hk:T.testBit k=true):(S ||| 1 <<< k) ||| T%2^k=S ||| T:=by
 apply Bed;intro j;rw[Alw,Alw,Alw,Wl,Bmm];rcases Bnc j k with h1|h1|h1
 ·simp[h1,show ¬k=j by omega]
 ·subst h1;simp[hk]
 ·have:T.testBit j=false:=by
   cases hT:T.testBit j with
   | false=>rfl
   | true=>have:=Bac h hT;omega
  simp[this,show ¬k=j by omega]
theorem Bwa{S T k:Nat}:(S ||| 1 <<< k) ||| T=S ||| (T ||| 1 <<< k):=by apply Bed;intro j;simp only[Alw];cases S.testBit j<;>cases T.testBit j<;>cases (1 <<< k).testBit j<;>rfl
theorem Bdr{k lot T:Nat}(h:Aic k lot T):Aic (k+1) lot (T ||| 1 <<< k):=by
 refine⟨Axo (by rw[Ara];have:=h.1;omega) (by rw[Ape,Ara];have:=Nat.two_pow_pos k;omega),fun hl=>?_⟩;rw[Alw,Wl];rcases Uo lot k with h1|h1
 ·rw[h.2 h1];rfl
 ·simp[show k=lot by omega]
theorem Bxm{k lot T:Nat}(h:Aic k lot T)(hk:k≠lot):Aic (k+1) lot T:=⟨by rw[Ara];have:=h.1;omega,fun hl=>h.2 (by omega)⟩
theorem Bls{k lot T:Nat}(h:Aic (k+1) lot T):Aic k lot (T%2^k):=⟨Arc _ (Nat.two_pow_pos k),fun hl=>by rw[Bmm,h.2 (by omega)];simp[hl]⟩
theorem Blt{k lot T:Nat}(h:Aic (k+1) lot T)(hk:T.testBit k=false):Aic k lot T:=by
 refine⟨?_,fun hl=>h.2 (by omega)⟩;apply Nat.lt_pow_two_of_testBit;intro j hj;cases hT:T.testBit j with
 | false=>rfl
 | true =>
  have:=Bac h.1 hT;rw[show j=k by omega,hk]at hT;cases hT
theorem Aog{lot:Nat}:∀{k S C:Nat},bet g C (Gv g lot k S C)=false/\(Gv g lot k S C=C∨∃T,Aic k lot T/\Gv g lot k S C=S ||| T)/\∀T,Aic k lot T->bet g (S ||| T) (Gv g lot k S C)=false
 | 0,S,C=>by
  unfold Gv;have h0:∀T,Aic 0 lot T->T=0:=fun T h=>by have:=h.1;simpa using this
  by_cases h:bet g S C=true
  ·rw[if_pos h];exact⟨Bwo h,.inr ⟨0,⟨by simp,fun h=>by omega⟩,by simp⟩,fun T hT=>by rw[h0 T hT,Axu];exact Bkc S⟩
  ·rw[if_neg h];exact⟨Bkc C,.inl rfl,fun T hT=>by rw[h0 T hT,Axu];simpa using h⟩
 | k+1,S,C=>by
  unfold Gv;obtain⟨c,b,e⟩:=Aog (lot:=lot) (k:=k) (S:=S ||| 1 <<< k) (C:=if k=lot then C else Gv g lot k S C);have up:∀T,Aic (k+1) lot T->T.testBit k=true->bet g (S ||| T) (Gv g lot k (S ||| 1 <<< k) (if k=lot then C else Gv g lot k S C))=false:=fun T hT hk=>by
   have:=e _ (Bls hT)
   rwa[Byv hT.1 hk]at this
  by_cases hk:k=lot
  ·rw[if_pos hk]at c b up ⊢;refine⟨c,?_,fun T hT=>up T hT (by rw[hk];exact hT.2 (by omega))⟩;rcases b with b|⟨T,hT,b⟩
   ·exact .inl b
   ·exact .inr ⟨_,Bdr hT,b.trans Bwa⟩
  ·rw[if_neg hk]at c b up ⊢;obtain⟨f,d,i⟩:=Aog (lot:=lot) (k:=k) (S:=S) (C:=C);refine⟨Bkd f c,?_,fun T hT=>?_⟩
   ·rcases b with b|⟨T,hT,b⟩
    ·rw[b];rcases d with d|⟨T,hT,d⟩
     ·exact .inl d
     ·exact .inr ⟨T,Bxm hT hk,d⟩
    ·exact .inr ⟨_,Bdr hT,b.trans Bwa⟩
   ·cases hT':T.testBit k with
    | true=>exact up T hT hT'
    | false=>exact Bkd (i T (Blt hT hT')) c
def Bhd(g:Nat->Int)(n lot:Nat):Nat:=Gv g lot n 0 (1 <<< lot)
theorem Apy{n lot:Nat}(h:lot<n):(Bhd g n lot<2^n/\(Bhd g n lot).testBit lot=true)/\∀D,D<2^n->D.testBit lot=true->bet g D (Bhd g n lot)=false:=by
 obtain⟨_,a,b⟩:=Aog (g:=g) (lot:=lot) (k:=n) (S:=0) (C:=1 <<< lot);refine⟨?_,fun D c d=>?_⟩
 ·rcases a with a|⟨T,hT,a⟩
  ·unfold Bhd;rw[a];exact⟨by rw[Ape];exact Bee (by omega) h,by rw[Wl];simp⟩
  ·unfold Bhd;rw[a,Nat.zero_or];exact⟨hT.1,hT.2 h⟩
 ·have:=b D ⟨c,fun _=>d⟩
  rwa[Nat.zero_or]at this
end
end
section
def Xd:List LPart->Int
 | []=>0
 | p::l=>p.grams+Xd l
theorem Bqa{l m:List LPart}:Xd (l++m)=Xd l+Xd m:=by
 induction l with
 | nil=>simp[Xd]
 | cons p l ih=>rw[Te,Xd,Xd,ih];omega
theorem Asj{l:List LPart}{i:Nat}{p:LPart}(h:l[i]?=some p):Xd (l.take (i+1))=Xd (l.take i)+p.grams:=by rw[Xu,h,Bqa];simp[Xd]
def Cw(l:LLot):Int:=Xd l.parts
def Vp(l:List Int)(below:Int)(i:Nat):Int:=match l[i]? with
 | some n=>if inR n 0 (below-1) then (if 0<i/\n<=l.getD (i-1) 0 then 7 else 0) else 6
 | none=>0
def Ew(l:List Int)(below:Int):Int:=Hl l.length (Vp l below)
section
variable{l:List Int}{b n m:Int}{i:Nat}
theorem Bzs(h:l[i]?=some n)(hr:inR n 0 (b-1)=false):Vp l b i=6:=by unfold Vp;rw[h];simp[hr]
theorem Bzt(h:l[i]?=some n)(hr:inR n 0 (b-1)=true)(hi:0<i)(hm:l[((i:Int)-1).toNat]?=some m)(hle:n<=m):Vp l b i=7:=by rw[show ((i:Int)-1).toNat=i-1 by omega]at hm;unfold Vp;rw[h];simp[hr,hi,Wx,hm,hle]
theorem Bcg(h:l[i]?=some n)(hr:inR n 0 (b-1)=true)(hp:0<i->∃m,l[((i:Int)-1).toNat]?=some m/\m<n):Vp l b i=0:=by unfold Vp;rw[h];simp only[hr,if_true];rw[if_neg];rintro⟨hi,hle⟩;obtain⟨m,hm,hlt⟩:=hp hi;rw[show ((i:Int)-1).toNat=i-1 by omega]at hm;rw[Wx,hm]at hle;simp at hle;omega
end
theorem Zc:∀{n:Nat},n<8->IntKind.u64.wrap (((1 <<< n:Nat)):Int)=((1 <<< n:Nat):Int)/\1 <<< n<256:=by decide
theorem Bbt{l:List Nat}{i n:Nat}(h:l[i]?=some n):Bf (l.take (i+1))=Bf (l.take i) ||| 1 <<< n:=by unfold Bf;rw[Xu,h,Alq];rfl
end
section
theorem Bkf{p q:Nat}(hp:p<2^63)(hq:q<2^63):Op.intBits .or .u64 p q=pure (.int .u64 ((p ||| q:Nat):Int)):=by
 have c:p ||| q<2^63:=Axo hp hq;simp only[Op.intBits];congr 2;have:(BitVec.ofInt IntKind.u64.bits p ||| BitVec.ofInt IntKind.u64.bits q).toNat=p ||| q:=by
  show (BitVec.ofInt 64 p ||| BitVec.ofInt 64 q).toNat=_;rw[BitVec.toNat_or,BitVec.toNat_ofInt,BitVec.toNat_ofInt];have a:((p:Int)%(2^64:Nat)).toNat=p:=by omega
  have b:((q:Int)%(2^64:Nat)).toNat=q:=by omega
  rw[a,b]
 rw[this];show ((p ||| q:Nat):Int)%_=_;simp only[IntKind.bits];omega
theorem Bgc{P:Program}{Y:Ro}{e:Env}{ty t t':TypeId}{x y:Operand}{p q:Nat}(hx:Af e x = .int .u64 p)(hy:Af e y = .int .u64 q)(hp:p<2^63)(hq:q<2^63):Yld P Y e (.binOp .or t x y t') ty (.int .u64 ((p ||| q:Nat):Int)) :=
 La hx hy Dh (by simp only[binOp];rw[if_neg (by simp)];exact Bkf hp hq)
variable{mn:Bool}{X:Frame->List Frame->Ro->Own->Cy->Prop}{Y:Ro}{Z:Own}
theorem Ate{l:LLot}{vl:Value}(rl:Val Y vl l)(hn:l.parts.length<=100000)(hb:∀p∈l.parts,0<=p.grams/\p.grams<=100000):CallsH (CX mn X) 47 #[vl] Y Z (rP Y Z (iV (Cw l))):=by
 refine Bq 19 [2] Cfy rfl fun Q x a4=>qA fun V y=>Arv (Ox (v:=vl) rfl fun k2=>?_);refine Bb (a:=l) rl fun U K O=>Av (iV 0) (qB y fun K3 G=>Av (iV 0) (Ary rfl rfl G fun K4 K5 H I=>Arw (Ba LLot.f_parts Ceg rfl Fv O) fun v6 P=>Arw (Ax Fv rfl P) fun T g=>?_));have g8:=Val.len g;refine l_v (Ci (el:=127) Ceh rfl g) (Au (iV 0) (l_k I (Ao (Cc (fun mm ee dd Y' Z'=>∃(i:Nat) (a:Int),(l.parts.length-i)=mm/\[]=dd/\U=Y'/\Z=Z'/\ee 7=T/\ee 8=(iV (l.parts.length:Int))/\ee 3=iV a/\ee 9=iV i/\(i<=l.parts.length)/\(a=Xd (l.parts.take i))/\(0<=a/\a<=100000*(i:Int))/\True) (m:=_) ⟨0,0,rfl,rfl,rfl,rfl,rfl,rfl,rfl,rfl,Hz _,rfl,⟨by omega,by omega⟩,trivial⟩ ?_))));rintro m9 e9 _ _ _ ⟨i,a,rfl,rfl,rfl,rfl,j,k,h,e,a7,n,a8,_⟩;refine qA fun W B=>l_v (Da e k) (Asa B fun YQ C=>Bp (t:=decide ((i:Int)<(l.parts.length:Int))) rfl (fun d=>?_) (fun d=>?_))
 ·have L:=lZ2 d;refine Al (kk C ?_);refine Ai fun ZQ D=>Ao (qA fun a0 E=>?_);obtain⟨b,f⟩:=Ed (xs:=l.parts) (i:=i) (by omega);have a5:=hb _ (lZ5 f);refine Arw (Ch i Ceh Lu j g (q:=(i:Int)) e rfl f) fun a9 M=>Arw (Ax Lu rfl M) fun R u=>Arv (Ct Aov fun a6=>?_);refine Cx rfl (Dv (v:=R) (a:=b) (c:=Aou) Lu rfl rfl u rfl ?_);refine Bb (a:=b) u fun ab J N=>l_k E (qC (l_v (Ah (v:=iV a) h) (Arw (Ba LPart.f_grams Cef rfl ty3 N) fun aa w=>?_)));have⟨a2,a3⟩:=At.rng w;refine l_v (Bc ty3 rfl w) (l_v (Br rfl rfl (z:=a+b.grams) (Bo (by rfl) (by omega) (by omega))) (Av (iV (a+b.grams)) (l_k D (qC (l_v (Br e rfl (z:=(((i+1):Nat):Int)) wrE) (Au (iV ((i+1):Nat)) (Bj (Cgg J) (Ac ?_))))))));refine⟨_,?_,(i+1),(a+b.grams),rfl,rfl,rfl,rfl,j,k,rfl,rfl,(by omega),(by rw[Asj f,n]),⟨by omega,by omega⟩,trivial⟩;omega
 have L:=lZ1 d;refine Bx (kk H ?_);refine qA fun a1 F=>l_v (Ah (v:=iV a) h) (Av (iV a) (l_k F (Aj (Cgg K) (Aq (x (rT (iV a) ?_))))));rw[n,show i=l.parts.length by omega,Ve];rfl
theorem Avw{l:List Int}{b:Int}{vl:Value}(rl:Val Y vl l)(hb:0<=b/\b<=1000000):CallsH (CX mn X) 40 #[vl,iV b] Y Z (rP Y Z (iV (Ew l b))):=by
 refine Bq 33 [4] Tryz.func40 rfl fun Q D aa=>qA fun ZQ J=>Av (iV 0) (Ary rfl rfl J fun K2 K3 N R=>Au vl ?_);have g4:=Val.len rl;refine l_v (Ci (el:=3) Cei rfl rl) (Au (iV 0) (l_k R (Ao (Cc (fun mm ee dd Y' Z'=>∃(i:Nat),(l.length-i)=mm/\[]=dd/\Y=Y'/\Z=Z'/\ee 0=vl/\ee 1=iV b/\ee 7=vl/\ee 8=(iV (l.length:Int))/\ee 9=iV i/\(i<=l.length)/\(∀j,j<i->Vp l b j=0)/\True) (m:=_) ⟨0,rfl,rfl,rfl,rfl,rfl,rfl,rfl,rfl,rfl,Hz _,fun j h=>absurd h (Vn _),trivial⟩ ?_))));rintro m5 e5 _ _ _ ⟨i,rfl,rfl,rfl,rfl,w,x,y,B,d,ab,f,_⟩;refine qA fun K6 T=>l_v (Da d B) (Asa T fun K7 U=>Bp (t:=decide ((i:Int)<(l.length:Int))) rfl (fun u=>?_) (fun u=>?_))
 ·have YQ:=lZ2 u;refine Al (kk U ?_);refine Ai fun K9 G=>Ao (qA fun a0 K=>l_v (Ah (v:=iV i) d) ?_);obtain⟨c,e⟩:=Ed (xs:=l) (i:=i) (by omega);refine Arw (Ch i Cei ty3 y rl (q:=(i:Int)) d rfl e) fun ae H=>?_;have⟨a6,a7⟩:=At.rng H;refine l_v (Bc ty3 rfl H) (Av (iV i) (Av (iV c) (l_k K (Ao (qA fun a1 L=>Au (iV c) (l_v (Ah (v:=iV b) x) (l_v (Ou rfl rfl (z:=b-1) (Bo (by rfl) (by omega) (by omega))) (Arv (Cj Pq Cff ?_)))))))));refine l_v (Iy rfl) (Av (.bool (!(inR c 0 (b-1)))) (l_k L (Bp (t:=!(inR c 0 (b-1))) rfl (fun n=>?_) (fun n=>?_))))
  ·have E:=not_eq_t n;have ac:=Abc.1 E;refine qA fun a2 M=>Av (iV 6) (l_k M (Aq (D (rT (iV 6) ?_))));rw[Ew,Db f (by omega) (Bzs e E) (by decide)]
  have g:=Fs n;have ad:=Fz.1 g;refine qA fun a3 F=>Au (iV i) (l_v (Gl rfl rfl) (Au (.bool (decide ((i:Int)>0))) (Cn (decide ((i:Int)>0)) (fun a=>?_) (fun a=>?_))))
  ·have V:=lZ2 a;refine l_M (iV c) (qF a) rfl (Aa (qF a) (Ah (v:=vl) w) (l_M (iV i) (qF a) rfl (Aa (qF a) (Ou rfl rfl (z:=(i:Int)-1) wrE) ?_)));obtain⟨k,C⟩:=Ed (xs:=l) (i:=(((i:Int)-1)).toNat) (by omega);refine Ak (qF a) (Ch ((((i:Int)-1)).toNat) Cei ty3 rfl rl (q:=(i:Int)-1) rfl (by omega) C) fun af I=>?_;have⟨a8,a9⟩:=At.rng I;refine Aa (qF a) (Bc ty3 rfl I) (Aa (qF a) (Uz rfl rfl) (l_v (Bt rfl a (v:=.bool (decide (c<=k))) rfl) (Av (.bool (decide (c<=k))) (l_k F (Bp (t:=decide (c<=k)) rfl (fun p=>?_) (fun p=>?_))))))
   ·have W:=lZ2 p;refine qA fun a4 O=>Av (iV 7) (l_k O (Aq (D (rT (iV 7) ?_))));rw[Ew,Db f (by omega) (Bzt e g (by omega) C (by omega)) (by decide)]
   have W:=lZ1 p;refine Al (kk G ?_);refine qC (l_v (Br d rfl (z:=(((i+1):Nat):Int)) wrE) (Au (iV ((i+1):Nat)) (Ac ?_)));refine⟨_,?_,(i+1),rfl,rfl,rfl,rfl,w,x,y,B,rfl,(by omega),(Eg f (Bcg e g fun h=>⟨_,C,by omega⟩)),trivial⟩;omega
  have V:=lZ1 a;refine Ap (gN rfl a) (Ap (gN rfl a) (Ap (gN rfl a) (Ap (gN rfl a) (Ap (gN rfl a) (Ap (gN rfl a) (Ap (gN rfl a) (l_v (Bn rfl a (v:=bF) rfl) (Av bF (l_k F (Cg rfl rfl (Al (kk G ?_))))))))))));refine qC (l_v (Br d rfl (z:=(((i+1):Nat):Int)) wrE) (Au (iV ((i+1):Nat)) (Ac ?_)));refine⟨_,?_,(i+1),rfl,rfl,rfl,rfl,w,x,y,B,rfl,(by omega),(Eg f (Bcg e g fun h=>by omega)),trivial⟩;omega
 have YQ:=lZ1 u;refine Bx (kk N ?_);refine qA fun a5 P=>Av (iV 0) (l_k P (Aq (D (rT (iV 0) ?_))));rw[Ew,Fb fun j hj=>f j (by omega)]
theorem Bam{xs:List Nat}{vl:Value}(rl:Val Y vl (Bw xs:List Int))(hb:∀n∈xs,n<8):CallsH (CX mn X) 36 #[vl] Y Z (rP Y Z (.int .u64 ((Bf xs:Nat):Int))):=by
 have hxl:(Bw xs).length=xs.length:=Fc;refine Bq 18 [2] Cfx rfl fun Q w a0=>qA fun K y=>Av (.int .u64 0) (qB y fun O E=>Av (.int .u64 0) (Ary rfl rfl E fun P R F G=>Au vl ?_));have g5:=Val.len rl;refine l_v (Ci (el:=3) Cei rfl rl) (Au (iV 0) (l_k G (Ao (Cc (fun mm ee dd Y' Z'=>∃(i:Nat) (a:Nat),(xs.length-i)=mm/\[]=dd/\Y=Y'/\Z=Z'/\ee 6=vl/\ee 7=(iV ((Bw xs).length:Nat))/\ee 3=(.int .u64 (a:Int))/\ee 8=iV i/\(i<=xs.length)/\(a=Bf (xs.take i))/\True) (m:=_) ⟨0,0,rfl,rfl,rfl,rfl,rfl,rfl,rfl,rfl,Hz _,rfl,trivial⟩ ?_))));rintro m6 W _ _ _ ⟨i,a,rfl,rfl,rfl,rfl,g,h,f,d,a1,k,_⟩;refine qA fun T H=>l_v (Da d h) (Asa H fun U I=>Bp (t:=decide ((i:Int)<(((Bw xs).length:Nat):Int))) rfl (fun c=>?_) (fun c=>?_))
 ·have J:=lZ2 c;refine Al (kk I ?_);refine Ai fun L B=>Ao (qA fun M C=>?_);obtain⟨V,j⟩:=Ed (xs:=Bw xs) (i:=i) (by omega);obtain⟨b,e,x⟩:=Ts j;subst x;have hqn:=hb b (lZ5 e);have hqb:=Zc (hb b (lZ5 e));have hmb:Bf (xs.take i)<2^8:=Sl fun n hn=>hb n (Aqo hn);obtain⟨hqa,hqc⟩:=hqb;refine Arw (Ch i Cei ty3 g rl (q:=(i:Int)) d rfl j) fun a2 u=>?_;have⟨YQ,ZQ⟩:=At.rng u;refine l_v (Bc ty3 rfl u) (Av (iV b) (l_k C (qC (l_v (Ah (v:=.int .u64 (a:Int)) f) (Au (iV b) (l_v (Md (p:=1) (q:=b) rfl rfl rfl (by omega) (z:=(((1 <<< b):Nat):Int)) hqa) (l_v (Bgc (p:=a) (q:=1 <<< b) rfl rfl (by omega) (by omega)) (Av (.int .u64 (((a ||| (1 <<< b)):Nat):Int)) (l_k B (qC (l_v (Br d rfl (z:=(((i+1):Nat):Int)) wrE) (Au (iV ((i+1):Nat)) (Ac ?_)))))))))))));refine⟨_,?_,(i+1),(a ||| (1 <<< b)),rfl,rfl,rfl,rfl,g,h,rfl,rfl,(by omega),(by rw[Bbt e,k]),trivial⟩;omega
 have J:=lZ1 c;refine Bx (kk F ?_);refine qA fun N D=>l_v (Ah (v:=.int .u64 (a:Int)) f) (Av (.int .u64 (a:Int)) (l_k D (Aq (w (rT (.int .u64 (a:Int)) ?_)))));rw[k,show i=xs.length by omega,Ve]
theorem Atd{x:Nat}(hx:x<256):CallsH (CX mn X) 52 #[.int .u64 (x:Int)] Y Z (fun w Y' Z'=>Ro.le Y Y'/\Z'=Z/\Val Y' w (Bw (Bv x):List Int)):=by
 have a5:=Sk (x:=x);refine Bq 21 [2] Cgb rfl fun Q J a6=>qA fun K1 K=>Av nS (Arx rfl rfl K fun K2 O=>Av nS (Ary rfl rfl O fun K3 K4 P R=>Au (.int .u64 (x:Int)) (Arv (Cj (Apo (x:=x) (by omega)) Tryz.func88 ?_))));refine Au (iV 0) (l_k R (Ao (Cc (fun mm ee dd Y' Z'=>∃(i:Nat) (a:Value) (d:Own),(Ie x-i)=mm/\[]=dd/\Ro.le Y Y'/\(d++Z)=Z'/\ee 0=(.int .u64 (x:Int))/\ee 6=(iV ((Ie x):Nat))/\ee 3=a/\ee 7=iV i/\(i<=Ie x)/\Grow Y' 3 a (Bw ((List.range i).filter (Gw x))) d/\True) (m:=_) ⟨0,nS,[],rfl,rfl,Cgi,rfl,rfl,rfl,rfl,rfl,Hz _,Hm,trivial⟩ ?_)));rintro m5 e5 _ a1 _ ⟨i,a,d,rfl,rfl,k,rfl,g,j,h,e,a7,b,_⟩;refine qA fun K6 T=>l_v (Da e j) (Asa T fun K7 U=>Bp (t:=decide ((i:Int)<(((Ie x):Nat):Int))) rfl (fun f=>?_) (fun f=>?_))
 ·have YQ:=lZ2 f;refine Al (kk U ?_);refine Ai fun K9 u=>Ao (qA fun a2 L=>l_v (Ah (v:=iV i) e) (Av (iV i) (Arx rfl rfl L fun a3 M=>l_v (Ah (v:=.int .u64 (x:Int)) g) (Au (iV i) (l_v (Lc (p:=x) (q:=i) rfl rfl rfl (by omega)) (l_v (Nv (p:=x>>>i) (q:=1) rfl rfl (Nl (by omega))) (l_v (Ek rfl rfl) (l_k M (Bp (t:=((((x>>>i) &&& 1):Nat):Int)==1) rfl (fun c=>?_) (fun c=>?_))))))))))
  ·have H:=bitM.symm.trans c;have W:=Jr c;refine qC (l_v (Ah (v:=a) h) (Au (iV i) (Arv (Bi (α:=Int) (xs:=[(i:Int)]) (vs:=[iV i]) Cei ty3 zr3 rfl (by decide) (Dk (os:=[.tmp 16]) ⟨rfl,trivial⟩) ⟨Cv.2 ⟨rfl,by constructor<;>omega⟩,trivial⟩ rfl (by decide) fun n F E=>?_))))
   have C:Grow a1 3 (.slice (some ⟨n,0,none⟩) 1 1) ([(i:Int)]:List Int) [(n,oC F.toArray 3)]:=Bs E rfl (by decide);refine Ca C fun a8 y ZQ=>?_;replace b:=Grow.mono y b;refine Arv (Gc (Z:=Z) (gr:=d) (xs:=Bw ((List.range i).filter (Gw x))) (ys:=([(i:Int)]:List Int)) Cei Cei (Ab Cfn) rfl nL rfl rfl rfl rfl b ZQ (by have:=Alb (p:=Gw x) (i:=i);simp only[lZ4,Gk,Pc];omega) fun B G D=>?_);refine Av B (l_k u (qC (l_v (Br e rfl (z:=(((i+1):Nat):Int)) wrE) (Au (iV ((i+1):Nat)) (Ac ?_)))));refine⟨_,?_,(i+1),B,G,rfl,rfl,(Cgj k y),rfl,g,j,rfl,rfl,(by omega),(Fy (by rw[Aps H]) D),trivial⟩;omega
  have I:=bitM.symm.trans c;have W:=Jq c;refine Al (kk u ?_);refine qC (l_v (Br e rfl (z:=(((i+1):Nat):Int)) wrE) (Au (iV ((i+1):Nat)) (Ac ?_)));refine⟨_,?_,(i+1),a,d,rfl,rfl,k,rfl,g,j,h,rfl,(by omega),(Fy (by rw[Apr I]) b),trivial⟩;omega
 have YQ:=lZ1 f;refine Bx (kk P ?_);refine qA fun a4 N=>l_v (Ah (v:=a) h) (Av a (l_k N (Hc b fun a9 V a0=>Aq (J ⟨Cgj k V,rfl,Abz (v:=a) rfl (Val.cast ?_ a0)⟩))))
 ·rw[show i=Ie x by omega];rfl
end
section
def isK(v:Value)(k:ByteArray):Bool:=match v with | .string k'=>decide (k'=k)|_=>false
theorem Bdw{v:Value}{k:ByteArray}:isK v k=true↔v = .string k:=by cases v<;>simp[isK]
def Nj(k:ByteArray):List MapEntry->Nat->Option (Nat×Value)
 | [],_=>none
 | en::es,i=>if isK en.key k=true then some (i,en.val) else Nj k es (i+1)
def Bcz(es:List MapEntry):Prop:=∀en∈es,(∃k,en.key = .string k)/\∃z,en.val = .int .i64 z
def Xm(es:Array MapEntry)(f:ByteArray->Option Int):Prop:=Bcz es.toList/\∀k,(Nj k es.toList 0).map (·.2)=(f k).map (Value.int .i64)
def Rh(f:ByteArray->Option Int)(k:ByteArray)(z:Int):ByteArray->Option Int:=fun k'=>if k'=k then some z else f k'
theorem Amo:Xm #[] (fun _=>none):=⟨fun en h=>(by cases h),fun k=>rfl⟩
theorem Aqg{k:ByteArray}:∀(es:List MapEntry) (i:Nat),Bcz es->Instr.findNow .string (.string k) es i=some (Nj k es i)
 | [],_,_=>rfl
 | en::es,i,h=>by
  obtain⟨⟨k',h1⟩,_⟩:=h en mC;have ih:=Aqg (k:=k) es (i+1) fun x hx=>h x (lZ0 _ hx);simp only[Instr.findNow,h1,Instr.sameNow,Nj];by_cases hk:k=k'
  ·subst hk;have a:(k==k)=true:=by rw[Aec];simp
   simp[isK,a]
  ·have b:(k==k')=false:=by
    rw[Aec];simp only[beq_eq_false_iff_ne,ne_eq];intro e;apply hk;rw[ByteArray.toList_eq,ByteArray.toList_eq]at e;exact ByteArray.ext (Bne.1 e)
   have c:isK (Value.string k') k=false:=lZ6 fun e=>hk e.symm;simp[b,c,ih]
theorem Abs{k:ByteArray}:∀{es:List MapEntry} {i:Nat} {r:Nat×Value},Nj k es i=some r->∃j en,r.1=i+j/\es[j]?=some en/\en.key = .string k/\en.val=r.2
 | [],_,_,h=>by cases h
 | en::es,i,r,h=>by
  unfold Nj at h;split at h
  ·rename_i hk;cases h;exact⟨0,en,rfl,rfl,Bdw.1 hk,rfl⟩
  ·obtain⟨j,en',h1,h2,h3,h4⟩:=Abs h;exact⟨j+1,en',by omega,by simpa using h2,h3,h4⟩
theorem Aqh{k:ByteArray}{en:MapEntry}:∀{es:List MapEntry} {i:Nat},Nj k (es++[en]) i=match Nj k es i with|some r=>some r|none=>if isK en.key k=true then some (i+es.length,en.val) else none
 | [],i=>by simp[Nj]
 | x::es,i=>by
  rw[Te,Nj,Nj];by_cases hx:isK x.key k=true
  ·rw[if_pos hx,if_pos hx]
  ·rw[if_neg hx,if_neg hx,Aqh];cases Nj k es (i+1) with
   | some r=>rfl
   | none=>simp only[Gk];rw[show i+1+es.length=i+(es.length+1) by omega]
theorem Aqi{k k':ByteArray}{w:Value}:∀{es:List MapEntry} {i j:Nat} {v:Value},Nj k es i=some (i+j,v) ->
  (Nj k' (es.modify j fun e=>{e with key:=.string k,val:=w}) i).map (·.2)=if k'=k then some w else (Nj k' es i).map (·.2)
 | [],_,_,_,h=>by cases h
 | en::es,i,j,v,h=>by
  unfold Nj at h;by_cases hk:isK en.key k=true
  ·rw[if_pos hk]at h;have hj:j=0:=by
    have:=congrArg (fun o:Option (Nat×Value)=>(o.map (·.1)).getD 0) h;simp at this;omega
   subst hj;rw[List.modify_zero_cons];unfold Nj;by_cases hkk:k'=k
   ·subst hkk;simp[isK]
   ·have a:isK (Value.string k) k'=false:=lZ6 fun e=>hkk e.symm;simp[hkk,Bdw.1 hk,a]
  ·rw[if_neg hk]at h;obtain⟨j',_,b,_⟩:=Abs h;simp only at b;have hj:j=j'+1:=by omega
   subst hj;rw[List.modify_succ_cons];unfold Nj;by_cases hx:isK en.key k'=true
   ·have hkk:k'≠k:=fun e=>hk (by rw[<-e];exact hx);simp[hx,hkk]
   ·rw[if_neg hx,if_neg hx];exact Aqi (v:=v) (by rw[h,show i+1+j'=i+(j'+1) by omega])
section
variable{C:Ctx}{e:Env}{ds:List Deferred}{Y:Ro}{Z:Own}{K:Value->List Deferred->Ro->Own->Prop}{rd:Option Nat}{dd:Option Tmp}
variable{ty:TypeId}{pos:String}{af:Array Edge}{g:Option (Nat×Bool)}{x y u:Operand}{t:TypeId}{P:Program}{kt et:TypeId}{k:ByteArray}{es:Array MapEntry}{f:ByteArray->Option Int}
theorem Asn(hk:P.underlying kt=some .string)(hs:Xm es f){Q:Option (Nat×Value)->Own->Prop}(h:Q (Nj k es.toList 0) Z):wpS P Y (Instr.findKey kt (.string k) es.toList) Z Q:=by show wpS P Y ((underlying kt).bind _) Z Q;rw[Ad];refine Az hk ?_;simp only[Aqg (k:=k) es.toList 0 hs.1];exact h
theorem Bnw(hs:Xm es f)(k:ByteArray):(Nj k es.toList 0=none↔f k=none):=by have:=hs.2 k;cases h:Nj k es.toList 0<;>cases h':f k<;>rw[h,h']at this<;>simp at this ⊢
theorem Afc{Y9:Ro}{A:Own}{r ck:Nat}{ok:Bool}(hT:P.underlying t=some (.map kt et))(hk:P.underlying kt=some .string)(hz:Fw P et (.int .i64 0))(hs:Xm es f)
  (hx:Af e x = .map (some r)) (hy:Af e y = .string k) (hi:(r,Res.obj (.map es ck))∈A) :
  Afe P Y9 A e (.lookup t x y ok) ty (if ok then .tuple #[.int .i64 ((f k).getD 0),.bool (f k).isSome] else .int .i64 ((f k).getD 0)):=fun Y' Z d pos af g hS=>by
 show wpS P Y' ((Instr.lookup t (Af e x) (Af e y) ok).bind fun v=>Sem.pure (Next.value v)) Z _;rw[Ad,hx,hy];show wpS P Y' ((underlying t).bind _) Z _;rw[Ad];refine Az hT ?_;show wpS P Y' ((getObj r).bind _) Z _;rw[Ad];refine⟨_,.inr (hS.2 _ hi),rfl,?_⟩;show wpS P Y' ((Instr.checkKey es.isEmpty 10000 kt (.string k)).bind _) Z _;rw[Ad];refine Qo (m:=9999) hk ?_;show wpS P Y' ((Instr.findKey kt (.string k) es.toList).bind _) Z _;rw[Ad];refine Asn hk hs ?_;have a:=hs.2 k;cases hf:Nj k es.toList 0 with
 | none =>
  have b:=(Bnw hs k).1 hf;rw[b];show wpS P Y' ((zeroValue et).bind _) Z _;rw[Ad];refine Jz hz ?_;cases ok<;>exact⟨rfl,rfl⟩
 | some q =>
  rw[hf]at a;cases b:f k with
  | none=>rw[b]at a;cases a
  | some z =>
   rw[b]at a;have e:q.2 = .int .i64 z:=by simpa using a
   simp only[Ame,Bna];rw[<-e];cases ok<;>exact⟨rfl,rfl⟩
theorem Auy{i r ck:Nat}{z:Int}(hT:C.P.underlying t=some (.map kt et))(hk:C.P.underlying kt=some .string)(hs:Xm es f)
  (hx:Af e x = .map (some r)) (hy:Af e y = .string k) (hu:Af e u = .int .i64 z) (hi:Z[i]?=some (r,.obj (.map es ck)))
  (h:∀es' ck',Xm es' (Rh f k z)->K undef ds Y (Z.set i (r,.obj (.map es' ck')))):wpS C.P Y (execOp (Af e) ⟨dd,.mapUpdate t x y u,ty,pos,af,g⟩) Z (NextH C K rd ds Y):=by
 show wpS C.P Y ((Instr.mapUpdate t (Af e x) (Af e y) (Af e u)).bind _) Z _;refine Ahf ?_;rw[hx,hy,hu];show wpS C.P Y ((underlying t).bind _) Z _;rw[Ad];refine Az hT ?_;show wpS C.P Y ((getObj r).bind _) Z _;rw[Ad];refine⟨_,.inr (lZ5 hi),rfl,?_⟩;show wpS C.P Y ((Instr.checkKey false 10000 kt (.string k)).bind _) Z _;rw[Ad];refine Qo (m:=9999) hk ?_;show wpS C.P Y ((Instr.findKey kt (.string k) es.toList).bind _) Z _;rw[Ad];refine Asn hk hs ?_;cases hf:Nj k es.toList 0 with
 | none =>
  refine⟨rfl,i,_,hi,rfl,h _ _ ⟨fun en hen=>?_,fun k'=>?_⟩⟩
  ·rw[Bej,Hr,Oj]at hen;rcases hen with hen|rfl
   ·exact hs.1 en hen
   ·exact⟨⟨k,rfl⟩,z,rfl⟩
  ·rw[Bej,Aqh];unfold Rh;by_cases hkk:k'=k
   ·subst hkk;rw[hf];simp[isK]
   ·have a:isK (Value.string k) k'=false:=lZ6 fun e=>hkk e.symm;rw[if_neg hkk,<-hs.2 k'];cases Nj k' es.toList 0<;>simp[a]
 | some q =>
  obtain⟨j,en,n,b,c,p⟩:=Abs hf;show wpS C.P Y ((Instr.keyThatStays (((es[q.1]?).map (·.key)).getD _) _).bind _) Z _;have hj:q.1=j:=by omega
  have hq:es[q.1]?=some en:=by rw[hj,<-Bht];exact b
  rw[Ad,hq];refine Xt (by show en.key=_;rw[c]) ?_;refine⟨rfl,i,_,hi,rfl,h _ _ ⟨fun en' hen=>?_,fun k'=>?_⟩⟩
  ·rw[Bmt]at hen;obtain⟨m,hm⟩:=Td hen;rw[List.getElem?_modify]at hm;cases hx:es.toList[m]? with
   | none=>rw[hx]at hm;simp at hm
   | some en0 =>
    rw[hx]at hm;have d:=hs.1 en0 (lZ5 hx);by_cases hqm:q.1=m
    ·simp[hqm]at hm;subst hm;exact⟨⟨k,rfl⟩,z,rfl⟩
    ·simp[hqm]at hm;subst hm;exact d
  ·rw[Bmt];have:=Aqi (k':=k') (w:=.int .i64 z) (show Nj k es.toList 0=some (0+q.1,q.2) by rw[hf,Sm]);rw[this];unfold Rh;by_cases hkk:k'=k
   ·rw[if_pos hkk,if_pos hkk];rfl
   ·rw[if_neg hkk,if_neg hkk,hs.2 k']
end
end
section
abbrev Je:=ByteArray->Option Int
theorem Amx{es:Array MapEntry}{f f':Je}(e:f=f')(h:Xm es f):Xm es f':=e ▸ h
def Amy:Je:=fun _=>none
def Sn(f:Je)(s:ByteArray):Int:=if Hg s then (if (f s).isSome then 5 else 0) else 4
theorem Aui{f:Je}{s:ByteArray}(h:Hg s=false):Sn f s=4:=by unfold Sn;rw[h];rfl
theorem Auj{f:Je}{s:ByteArray}(h:Hg s=true)(h':(f s).isSome=true):Sn f s=5:=by unfold Sn;rw[h,h'];rfl
theorem Bfa{f:Je}{s:ByteArray}(h:Hg s=true)(h':(f s).isSome=false):Sn f s=0:=by unfold Sn;rw[h,h'];rfl
def Ic(l:List ByteArray):Je:=l.foldl (fun f s=>Rh f s (-1)) Amy
def Jd(f:Je)(l:List LLot):Je:=l.foldl (fun f x=>Rh f x.name (Cw x)) f
def tkP(f:Je)(l:List LPart):Je:=l.foldl (fun f p=>Rh f p.of_ ((f p.of_).getD 0+p.grams)) f
def tkM(l:List LLot):Je:=l.foldl (fun f x=>tkP f x.parts) Amy
def Ib(l:List LPart)(s:ByteArray):Bool:=l.any fun p=>s.toList==p.of_.toList
def Sz(m t:Je)(ps:List LPart)(p:LPart):Int :=
 if (m p.of_).isNone then 6 else if Ib ps p.of_ then 5 else if inR p.grams 1 100000=false then 1
 else if 0<=(m p.of_).getD 0/\(m p.of_).getD 0<(tkP t ps p.of_).getD 0+p.grams then 8 else 0
section
variable{m t:Je}{ps:List LPart}{p:LPart}
theorem Bev(h:(m p.of_).isSome=false):Sz m t ps p=6:=by unfold Sz;rw[if_pos (by cases hm:m p.of_ with|none=>rfl|some z=>rw[hm]at h;cases h)]
theorem Aja{o:Option Int}(h:o.isSome=true):¬o.isNone=true:=by cases o with|none=>cases h|some z=>simp
theorem Auh(h:(m p.of_).isSome=true)(h2:Ib ps p.of_=true):Sz m t ps p=5:=by unfold Sz;rw[if_neg (Aja h),if_pos h2]
theorem Aug(h:(m p.of_).isSome=true)(h2:Ib ps p.of_=false)(h3:inR p.grams 1 100000=false):Sz m t ps p=1:=by unfold Sz;rw[if_neg (Aja h),if_neg (by simp[h2]),if_pos h3]
theorem Bew(h:(m p.of_).isSome=true)(h2:Ib ps p.of_=false)(h3:inR p.grams 1 100000=true)(h4:0<=(m p.of_).getD 0)(h5:(m p.of_).getD 0<(tkP t ps p.of_).getD 0+p.grams):Sz m t ps p=8:=by unfold Sz;rw[if_neg (Aja h),if_neg (by simp[h2]),if_neg (by simp[h3]),if_pos ⟨h4,h5⟩]
theorem Aiv(h:(m p.of_).isSome=true)(h2:Ib ps p.of_=false)(h3:inR p.grams 1 100000=true)(h4:0<=(m p.of_).getD 0->(tkP t ps p.of_).getD 0+p.grams<=(m p.of_).getD 0):Sz m t ps p=0:=by unfold Sz;rw[if_neg (Aja h),if_neg (by simp[h2]),if_neg (by simp[h3]),if_neg (by rintro⟨a,b⟩;have:=h4 a;omega)]
end
theorem Bis{f:Je}{k:ByteArray}{z:Int}:(Rh f k z k).getD 0=z:=by simp[Rh]
def Agv(m t:Je)(l:List LPart)(i:Nat):Int:=match l[i]? with|some p=>Sz m t (l.take i) p|none=>0
theorem Ia{m t:Je}{l:List LPart}{i:Nat}{p:LPart}{v:Int}(h:l[i]?=some p)(hv:Sz m t (l.take i) p=v):Agv m t l i=v:=by unfold Agv;rw[h];exact hv
theorem Alo{l:List LPart}{i:Nat}{p:LPart}(h:l[i]?=some p)(H:∀q∈l.take i,1<=q.grams/\q.grams<=100000)(hp:1<=p.grams/\p.grams<=100000):∀q∈l.take (i+1),1<=q.grams/\q.grams<=100000:=fun q hq=>by
 rw[Xu,h]at hq;rcases Hr.1 hq with hq|hq
 ·exact H q hq
 ·rw[Oj.1 hq];exact hp
def Ho(m t:Je)(l:LLot):Int:=Hl l.parts.length (Agv m t l.parts)
def Jw(l:List ByteArray)(i:Nat):Int:=match l[i]? with|some s=>Sn (Ic (l.take i)) s|none=>0
def Agp(m t:Je)(x:LLot):Int:=if Hg x.name=false then 4 else if (m x.name).isSome then 5 else if inR x.parts.length 1 6=false then 2 else Ho m t x
def Nz(b:LBook)(i:Nat):Int:=match b.lots[i]? with|some x=>Agp (Jd (Ic b.fields) (b.lots.take i)) (tkM (b.lots.take i)) x|none=>0
def Hb(b:LBook):Int:=if 5<b.fields.length then 2 else orF (Hl b.fields.length (Jw b.fields)) (if 8<b.lots.length then 2 else Hl b.lots.length (Nz b))
theorem Bhj{l:List ByteArray}{i:Nat}{s:ByteArray}(h:l[i]?=some s):Ic (l.take (i+1))=Rh (Ic (l.take i)) s (-1):=by unfold Ic;rw[Xu,h,Alq];rfl
theorem Aad{f:Je}{l:List LLot}{i:Nat}{x:LLot}(h:l[i]?=some x):Jd f (l.take (i+1))=Rh (Jd f (l.take i)) x.name (Cw x):=by unfold Jd;rw[Xu,h,Alq];rfl
theorem Aes{f:Je}{l:List LPart}{i:Nat}{p:LPart}(h:l[i]?=some p):tkP f (l.take (i+1))=Rh (tkP f (l.take i)) p.of_ ((tkP f (l.take i) p.of_).getD 0+p.grams):=by unfold tkP;rw[Xu,h,Alq];rfl
theorem Aeq{l:List LLot}{i:Nat}{x:LLot}(h:l[i]?=some x):tkM (l.take (i+1))=tkP (tkM (l.take i)) x.parts:=by unfold tkM;rw[Xu,h,Alq];rfl
theorem Acl{l:List LPart}{i:Nat}{p:LPart}(h:l[i]?=some p)(k:ByteArray):(k.toList==p.of_.toList||Ib (l.take i) k)=Ib (l.take (i+1)) k:=by unfold Ib;rw[Xu,h,List.any_append];simp[Bool.or_comm]
def Bnd(f:Je)(lo hi:Int):Prop:=∀k z,f k=some z->lo<=z/\z<=hi
theorem Avp{lo hi:Int}:Bnd Amy lo hi:=fun _ _ h=>(by cases h)
theorem Aiq{f:Je}{lo hi:Int}(h:Bnd f lo hi)(h0:lo<=0/\0<=hi)(k:ByteArray):lo<=(f k).getD 0/\(f k).getD 0<=hi:=by
 cases hk:f k with
 | none=>exact h0
 | some z=>exact h k z hk
theorem Zn{f:Je}{lo hi z:Int}(h:Bnd f lo hi)(hz:lo<=z/\z<=hi)(k:ByteArray):Bnd (Rh f k z) lo hi:=fun k' z' h'=>by
 unfold Rh at h';split at h'
 ·cases h';exact hz
 ·exact h k' z' h'
theorem Bnd.mono{f:Je}{lo hi lo' hi':Int}(h:Bnd f lo hi)(h1:lo'<=lo)(h2:hi<=hi'):Bnd f lo' hi':=fun k z hk=>by have:=h k z hk;omega
theorem Auu{B:Int}(hB:0<=B):∀{l:List LPart} {t:Je},(∀p∈l,1<=p.grams/\p.grams<=100000)->Bnd t 0 B->Bnd (tkP t l) 0 (B+100000*(l.length:Int))
 | [],t,_,h=>h.mono (Xy _) (by simp)
 | p::l,t,hp,h=>by
  have h1:=hp p mC;have a:=Aiq h ⟨Xy _,hB⟩ p.of_;have:=Auu (B:=B+100000) (by omega) (l:=l) (t:=Rh t p.of_ ((t p.of_).getD 0+p.grams)) (fun q hq=>hp q (lZ0 _ hq)) (Zn (h.mono (Xy _) (by omega)) ⟨by omega,by omega⟩ _);exact this.mono (Xy _) (by rw[Gk];omega)
theorem Wi:∀{l:List LPart},(∀p∈l,1<=p.grams/\p.grams<=100000)->0<=Xd l/\Xd l<=100000*(l.length:Int)
 | [],_=>⟨Xy _,Xy _⟩
 | p::l,h=>by
  have h1:=h p mC;have a:=Wi fun q hq=>h q (lZ0 _ hq);rw[Xd,Gk];omega
section
variable{m t:Je}{x:LLot}{b:LBook}{i:Nat}{v:Int}
theorem Bvu(h:Hg x.name=false):Agp m t x=4:=by unfold Agp;rw[if_pos h]
theorem Bnu(h:Hg x.name=true)(h1:(m x.name).isSome=true):Agp m t x=5:=by unfold Agp;rw[if_neg (by simp[h]),if_pos h1]
theorem Bvt(h:Hg x.name=true)(h1:(m x.name).isSome=false)(h2:inR x.parts.length 1 6=false):Agp m t x=2:=by unfold Agp;rw[if_neg (by simp[h]),if_neg (by simp[h1]),if_pos h2]
theorem Yv(h:Hg x.name=true)(h1:(m x.name).isSome=false)(h2:inR x.parts.length 1 6=true):Agp m t x=Ho m t x:=by unfold Agp;rw[if_neg (by simp[h]),if_neg (by simp[h1]),if_neg (by simp[h2])]
theorem Nn(h:b.lots[i]?=some x)(hv:Agp (Jd (Ic b.fields) (b.lots.take i)) (tkM (b.lots.take i)) x=v):Nz b i=v:=by unfold Nz;rw[h];exact hv
theorem Uk{l:List ByteArray}{s:ByteArray}(h:l[i]?=some s)(hv:Sn (Ic (l.take i)) s=v):Jw l i=v:=by unfold Jw;rw[h];exact hv
theorem Bet(h:5<b.fields.length):Hb b=2:=by unfold Hb;rw[if_pos h]
theorem Bbs(h:b.fields.length<=5)(hv:Hl b.fields.length (Jw b.fields)=v)(h0:v≠0):Hb b=v:=by unfold Hb;rw[if_neg (by omega),Ry (by rw[hv];exact h0),hv]
theorem Beu(h:b.fields.length<=5)(h1:Hl b.fields.length (Jw b.fields)=0)(h2:8<b.lots.length):Hb b=2:=by unfold Hb;rw[if_neg (by omega),Gr h1,if_pos h2]
theorem Yx(h:b.fields.length<=5)(h1:Hl b.fields.length (Jw b.fields)=0)(h2:b.lots.length<=8)(hv:Hl b.lots.length (Nz b)=v):Hb b=v:=by unfold Hb;rw[if_neg (by omega),Gr h1,if_neg (by omega),hv]
end
end
section
def CallsP(C:Ctx)(f:FuncId)(args:Array Value)(Y:Ro)(Z:Own)(R X:Value->Ro->Own->Prop):Prop :=
 ∀c cs,GoesH C (fun fr cs' Y' Z'=>cs'=cs/\((∃v,fr=Frame.finish c v/\R v Y' Z')∨∃x,fr=Frame.raise c [⟨x,false,false⟩]/\X x Y' Z')) (Frame.enter C.P f args .normal) (c::cs) Y Z
def RoundP(C:Ctx)(l:Nat)(f:FuncId)(tmps:Array Value)(assign body:Code)(Y:Ro)(Z:Own)(R X:Value->Ro->Own->Prop):Prop :=
 ∀c cs,GoesH C (fun fr cs' Y' Z'=>cs'=cs/\((∃v,fr=Frame.finish c v/\R v Y' Z')∨∃x,fr=Frame.raise c [⟨x,false,false⟩]/\X x Y' Z')) (Frame.round l f tmps assign body .normal) (c::cs) Y Z
theorem CallsP.mono{C:Ctx}{f:FuncId}{args:Array Value}{Y:Ro}{Z:Own}{R R' X X':Value->Ro->Own->Prop}(h:CallsP C f args Y Z R X)(hr:∀v Y' Z',R v Y' Z'->R' v Y' Z')(hx:∀v Y' Z',X v Y' Z'->X' v Y' Z'):CallsP C f args Y Z R' X' :=
 fun c cs=>(h c cs).mono fun _ _ _ _ ⟨d,a⟩=>⟨d,a.elim (fun⟨v,a,b⟩=>.inl ⟨v,a,hr _ _ _ b⟩) fun⟨v,a,b⟩=>.inr ⟨v,a,hx _ _ _ b⟩⟩
theorem RoundP.mono{C:Ctx}{l:Nat}{f:FuncId}{tmps:Array Value}{assign body:Code}{Y:Ro}{Z:Own}{R R' X X':Value->Ro->Own->Prop}(h:RoundP C l f tmps assign body Y Z R X)(hr:∀v Y' Z',R v Y' Z'->R' v Y' Z')(hx:∀v Y' Z',X v Y' Z'->X' v Y' Z'):RoundP C l f tmps assign body Y Z R' X' :=
 fun c cs=>(h c cs).mono fun _ _ _ _ ⟨d,a⟩=>⟨d,a.elim (fun⟨v,a,b⟩=>.inl ⟨v,a,hr _ _ _ b⟩) fun⟨v,a,b⟩=>.inr ⟨v,a,hx _ _ _ b⟩⟩
def NextP(C:Ctx)(K:Value->List Deferred->Ro->Own->Prop)(X:Value->Ro->Own->Prop)(ds:List Deferred)(Y:Ro)(nx:Next)(Z:Own):Prop :=
 match nx with
 | .enter f args=>CallsP C f args Y Z (fun v Y' Z'=>K v ds Y' Z') X
 | .round l f tmps assign body=>RoundP C l f tmps assign body Y Z (fun v Y' Z'=>K v ds Y' Z') X
 | _=>False
theorem NextP.mono{C:Ctx}{K K':Value->List Deferred->Ro->Own->Prop}{X X':Value->Ro->Own->Prop}{ds:List Deferred}{Y:Ro}{nx:Next}{Z:Own}(h:NextP C K X ds Y nx Z)(hk:∀v ds Y Z,K v ds Y Z->K' v ds Y Z)(hx:∀v Y Z,X v Y Z->X' v Y Z):NextP C K' X' ds Y nx Z:=by
 cases nx<;>simp only[NextP]at h ⊢
 ·exact h.mono (fun _ _ _ h=>hk _ _ _ _ h) hx
 ·exact h.mono (fun _ _ _ h=>hk _ _ _ _ h) hx
section
variable{C:Ctx}{V:Qt}{b:FB}{n:Nat}{l₀ rest:List Oper}{Q:Env->List Deferred->Ro->Own->Prop}{e:Env}{ds:List Deferred}{Y:Ro}{Z:Own}
theorem Ani{tm:Array Value}{todo:List Item}{x:Value}:Frame.raise (Fr b tm ds todo) [⟨x,false,false⟩]=FrP b tm ds todo x:=rfl
theorem Bxv{o:Oper}(hw:Bz l₀.toArray o e=true)(h:wpS C.P Y (execOp (Af e) o) Z (NextP C (fun v=>Em C V b n l₀ rest Q (Ja e o.dst v)) (fun x Y' Z'=>V x e ds Y' Z') ds Y)):Em C V b n l₀ (o::rest) Q e ds Y Z:=by
 intro pre j hs hk tm k cs ht;have ho:l₀.toArray[pre.length]?=some o:=by subst j;simp
 rw[Gk,Agm];have m:∀e ds Y Z,Em C V b n l₀ rest Q e ds Y Z->Vb C V b n l₀.toArray (List.range' (pre.length+1) rest.length) Q e ds Y Z:=fun e ds Y Z h'=>by
  have:=h' (pre++[o]) (by rw[j];simp) hs hk;simpa using this
 have hev:=ht.eval b ds (.inRegion l₀.toArray (pre.length::List.range' (pre.length+1) rest.length)::k);refine .step (fun fr' cs' Z'=>∃nx,NextP C (fun v=>Em C V b n l₀ rest Q (Ja e o.dst v)) (fun x Y' Z'=>V x e ds Y' Z') ds Y nx Z'/\Ss C.P (Fr b tm ds (.inRegion l₀.toArray (pre.length::List.range' (pre.length+1) rest.length)::k)) cs nx fr' cs') (fun W y=>?_) ?_
 ·obtain⟨nx,Z',W',es,g,a,p,q⟩:=Rr _ Z _ W #[] h y;have hd:∀c,o.op = .defer c->b.round=none:=by
   intro c hc;have hx:∃d,nx = .defer d:=by
    have w:execOp (Af e) o=(resolve (Af e) c o.type).bind fun d=>pure (Next.defer d):=by
     unfold execOp;rw[hc];rfl
    rw[w,Sem.runT_bind']at g;split at g
    ·rename_i a' w' es' _;have:(Result.ok (Next.defer a') w',es')=(Result.ok nx W',es):=g;simp only[Prod.mk.injEq,Result.ok.injEq]at this;exact⟨a',this.1.1.symm⟩
    ·simp at g
   obtain⟨d,rfl⟩:=hx;exact a.elim
  have hnx:∃fr' cs',Ss C.P (Fr b tm ds (.inRegion l₀.toArray (pre.length::List.range' (pre.length+1) rest.length)::k)) cs nx fr' cs':=by
   cases nx<;>simp only[NextP]at a<;>exact⟨_,_,rfl,rfl⟩
  obtain⟨fr',cs',es',t,i,u⟩:=Sx (s:=execOp (Af e) o) (by exact hk) (by simp[Fr]) g hnx;refine⟨fr',cs',W',es',Z',?_,p,fun ev he=>Atp q (u ev he),nx,a,i⟩;rw[Np ho (by rw[Ij hs ht];exact hw) hd,hev];exact t
 ·rintro fr' cs' Z' ⟨nx,a,i⟩;cases nx<;>simp only[NextP]at a
  case enter f args =>
   obtain⟨rfl,rfl⟩:=i;refine(a _ cs).bind ?_;rintro _ _ Y' Z'' ⟨rfl,⟨v,rfl,hv⟩|⟨x,rfl,hx⟩⟩
   ·rw[Ju ho];exact m _ _ _ _ hv _ k _ (Jj hs ht ho v)
   ·exact .stop (.inr ⟨rfl,x,tm,_,ds,_,ht.2,Ani,hx⟩)
  case round l f tmps assign body =>
   obtain⟨rfl,rfl⟩:=i;refine(a _ cs).bind ?_;rintro _ _ Y' Z'' ⟨rfl,⟨v,rfl,hv⟩|⟨x,rfl,hx⟩⟩
   ·rw[Ju ho];exact m _ _ _ _ hv _ k _ (Jj hs ht ho v)
   ·exact .stop (.inr ⟨rfl,x,tm,_,ds,_,ht.2,Ani,hx⟩)
theorem Btl{dd:Option Tmp}{x:Operand}{ty t:TypeId}{pos:String}{af:Array Edge}{g:Option (Nat×Bool)}{u:Value}(hw:Bz l₀.toArray ⟨dd,.panic x,ty,pos,af,g⟩ e=true)(hx:Af e x = .iface t u)(hv:V (.iface t u) e ds Y Z):Em C V b n l₀ (⟨dd,.panic x,ty,pos,af,g⟩::rest) Q e ds Y Z:=by
 intro pre a hs hk tm k cs ht;have ho:l₀.toArray[pre.length]?=some ⟨dd,.panic x,ty,pos,af,g⟩:=by subst a;simp
 rw[Gk,Agm];have hev:=ht.eval b ds (.inRegion l₀.toArray (pre.length::List.range' (pre.length+1) rest.length)::k);refine Eh (fr':=FrP b tm ds (.inRegion l₀.toArray (pre.length::List.range' (pre.length+1) rest.length)::k) (.iface t u)) (cs':=cs) (fun W=>?_) (.stop (.inr ⟨rfl,_,tm,_,ds,_,ht.2,rfl,hv⟩));rw[Np ho (by rw[Ij hs ht];exact hw) (fun c hc=>by cases hc),hev];have hr:(execOp (Af e) ⟨dd,.panic x,ty,pos,af,g⟩).runT C.P W #[]=(.halt (.panic (.iface t u)) W,#[]):=by
  show ((Instr.panic (Af e x)).bind _:Sem Next).runT C.P W #[]=_;rw[hx];rfl
 simp[stepG.apply,-Sem.runT_eq,hr,GStep.after,seen,Conc.G,Fr,FrP,Frame.raise]
end
section
variable{C:Ctx}{V:Qt}{b:FB}{n:Nat}{e:Env}{ds:List Deferred}{Y:Ro}{Z:Own}
theorem Ahk{S:Cy}{tm:Array Value}{todo:List Item}{x:Value}{c:Frame}{cs:List Frame}{fn:Func}(hf:C.P.funcs[b.fn]?=some fn)(h:GoesH C S (Frame.raise c [⟨x,false,false⟩]) cs Y Z):GoesH C S (FrP b tm [] todo x) (c::cs) Y Z :=
 Eh (fun W=>by
  simp[Conc.G,stepG,FrP,Fr,unwind,Frame.catches,hf]) h
theorem Avx{f:FuncId}{fn:Func}{c:Code}{args:List Value}{R X:Value->Ro->Own->Prop}(hf:C.P.funcs[f]?=some fn)(hc:fn.body=some c)(hn:fn.ntmps=n)(ha:args.length<=n)
  (h:WpP C (fun x _ ds Y' Z'=>ds=[]/\X x Y' Z') ⟨f,.normal,none⟩ n c (fun ex e ds Y' Z'=>(∀id,ex ≠ .exit id)/\Aki C fn R e Y' ds Z') (Pn args) [] Y Z):CallsP C f args.toArray Y Z R X:=by
 intro c' cs;have g:Frame.enter C.P f args.toArray .normal=Fr ⟨f,.normal,none⟩ (args.toArray++Array.replicate (n-args.toArray.size) undef) [] [.code c]:=by
  simp[Frame.enter,hf,hc,hn,Fr]
 rw[g];refine(h _ [] (c'::cs) (Tn ha)).bind ?_;rintro _ _ Y' Z' (⟨rfl,ex,tm',e',ds',a,i,⟨j,k⟩,d,rfl⟩|⟨rfl,x,tm',_,ds',a,_,rfl,rfl,hX⟩)
 ·have fin:∀a,GoesH C (fun fr cs' Y' Z'=>cs'=cs/\((∃v,fr=Frame.finish c' v/\R v Y' Z')∨∃x,fr=Frame.raise c' [⟨x,false,false⟩]/\X x Y' Z')) {Fr ⟨f,.normal,none⟩ tm' ds' a with mode:=.returning} (c'::cs) Y' Z' :=
   fun a=>Ahz (b:=⟨f,.normal,none⟩) hf rfl i k fun v Y'' Z'' hv=>.stop ⟨rfl,.inl ⟨v,rfl,hv⟩⟩
  cases ex with
  | normal =>
   cases d;exact Eh (fr':={Fr ⟨f,.normal,none⟩ tm' ds' [] with mode:=.returning}) (cs':=c'::cs) (fun W=>by simp[Conc.G,stepG,stepG.exec,Fr]) (fin _)
  | exit id=>exact absurd rfl (j id)
  | ret =>
   obtain⟨pre,rfl⟩:=d;exact Eh (fr':={Fr ⟨f,.normal,none⟩ tm' ds' (.code .ret::(pre++[])) with mode:=.returning}) (cs':=c'::cs) (fun W=>by simp[Conc.G,stepG,stepG.exec,Fr]) (fin _)
 ·exact Ahk (b:=⟨f,.normal,none⟩) hf (.stop ⟨rfl,.inr ⟨x,rfl,hX⟩⟩)
end
end
section
variable{mn:Bool}{X:Frame->List Frame->Ro->Own->Cy->Prop}{Y:Ro}{Z:Own}
theorem Bgs{p:List UInt8}(hb:p.length<=60000):CallsH (CX mn X) 142 #[.string (bs p),.string (bs ([10]:List UInt8))] Y Z (rP Y Z (.tuple #[.string (bs (Cf p)),.bool (Uf p)])):=by
 refine Bq 18 [4,5] Tryz.func142 rfl fun Q d y=>qA fun m f=>Av (.string (ByteArray.mk #[])) (Av bF (qE f fun n u g i=>Au (.string (bs p)) (Au (.string (bs ([10]:List UInt8))) (Arv (Bm (vs:=[.string (bs p),.string (bs ([10]:List UInt8))]) (v:=.bool (p.drop (p.length-1)==[10])) (Avv (p:=p) (by omega)) Tryz.func173 rfl rfl ⟨rfl,rfl,trivial⟩ ?_)))));refine l_v (Iy rfl) (l_k i (Bp (t:=!(p.drop (p.length-1)==[10])) rfl (fun a=>?_) (fun a=>?_)))
 ·have e:=not_eq_t a;refine qA fun w j=>Au (.string (bs p)) (Av (.string (bs p)) (Av bF (l_k j (Aq (d ⟨rfl,rfl,Eq.trans (b:=.tuple #[.string (bs p),bF]) (Mp (r:=4) (r':=5) (rs:=[]) (v:=.string (bs p)) (v':=bF) (vs:=[]) ⟨rfl,rfl,trivial⟩) ?_⟩)))));unfold Cf Uf;rw[e];rfl
 have c:=Fs a;have B:1<=p.length:=by
  cases p with
  | nil=>exact absurd c (by decide)
  | cons=>simp
 refine Al (kk g ?_);refine qA fun x k=>Au (.string (bs p)) (Au (.string (bs p)) (l_v (Gh Ceb (p:=p) rfl) (Au (.string (bs ([10]:List UInt8))) (l_v (Gh Ceb (p:=([10]:List UInt8)) rfl) (l_v (Ou (p:=(p.length:Int)) (q:=1) rfl rfl (z:=(((p.length-1):Nat):Int)) (Bo (by omega) (by omega) (by omega))) (l_v (Zj (p:=p) (l:=0) (h:=p.length-1) Ceb rfl (.inl ⟨rfl,rfl⟩) (.inr ⟨_,rfl,rfl⟩) (by omega) (by omega)) (Av (.string (bs ((p.take (p.length-1)).drop 0))) (Av bT (l_k k (Aq (d ⟨rfl,rfl,Eq.trans (b:=.tuple #[.string (bs ((p.take (p.length-1)).drop 0)),bT]) (Mp (r:=4) (r':=5) (rs:=[]) (v:=.string (bs ((p.take (p.length-1)).drop 0))) (v':=bT) (vs:=[]) ⟨rfl,rfl,trivial⟩) ?_⟩)))))))))));unfold Cf Uf;rw[c];rfl
theorem Bkj{p:List UInt8}(hb:p.length<=60000):CallsH (CX mn X) 96 #[.string (bs p),.string (bs ([10]:List UInt8))] Y Z (rP Y Z (.tuple #[.string (bs (Cf p)),.bool (Uf p)])):=by refine Bq 11 [4,5] Tryz.func96 rfl fun Q a g=>qA fun e c=>Av (.string (ByteArray.mk #[])) (Av bF (qB c fun f d=>Au (.string (bs p)) (Au (.string (bs ([10]:List UInt8))) (Arv (Bm (vs:=[.string (bs p),.string (bs ([10]:List UInt8))]) (v:=.tuple #[.string (bs (Cf p)),.bool (Uf p)]) (Bgs (p:=p) (by omega)) Tryz.func142 rfl rfl ⟨rfl,rfl,trivial⟩ ?_)))));refine l_v (Bk (vs:=#[.string (bs (Cf p)),.bool (Uf p)]) rfl (v:=.string (bs (Cf p))) rfl) (l_v (Bk (vs:=#[.string (bs (Cf p)),.bool (Uf p)]) rfl (v:=.bool (Uf p)) rfl) (Av (.string (bs (Cf p))) (Av (.bool (Uf p)) (l_k d (Aq (a ⟨rfl,rfl,Eq.trans (b:=.tuple #[.string (bs (Cf p)),.bool (Uf p)]) (Mp (r:=4) (r':=5) (rs:=[]) (v:=.string (bs (Cf p))) (v':=.bool (Uf p)) (vs:=[]) ⟨rfl,rfl,trivial⟩) ?_⟩))))));rfl
theorem Bgy{s:List UInt8}(hb:s.length<=60000):CallsH (CX mn X) 144 #[.string (bs s)] Y Z (fun w Y' Z'=>Ro.le Y Y'/\Z'=Z/\w = .tuple #[iV (Yy s),.bool (Qa s)]):=by
 have hbl:=Bjz (s:=s);refine Bq 33 [2,3] Tryz.func144 rfl fun Q e a3=>qA fun V F=>Av (iV 0) (Av bF (Arx rfl rfl F fun K2 L=>Au (.string (bs s)) (Arv (Bm (vs:=[.string (bs s),.string (ByteArray.mk #[45])]) (v:=.string (bs (Ga s))) (Ata (p:=s) (by omega)) Tryz.func181 rfl rfl ⟨rfl,rfl,trivial⟩ ?_))));refine Av (.string (bs (Ga s))) (Ary rfl rfl L fun K3 K4 z j=>Au (.string (bs (Ga s))) (l_v (Gh Ceb (p:=Ga s) rfl) (Arv (Bm (vs:=[iV ((((Ga s)).length:Nat):Int),iV 1,iV 9]) (v:=.bool (inR ((((Ga s)).length:Nat):Int) 1 9)) Pq Cff rfl rfl ⟨rfl,rfl,rfl,trivial⟩ ?_))));refine l_v (Iy rfl) (Au (.bool (!(inR ((((Ga s)).length:Nat):Int) 1 9))) (Cn (!(inR ((((Ga s)).length:Nat):Int) 1 9)) (fun c=>?_) (fun c=>?_)))
 ·have u:=not_eq_t c;have hz:Qa s=false:=Byg (by have:=u;unfold inR at this;simp at this;omega);have q6:=Abc.1 u;refine Ap (gN rfl c) (Ap (gN rfl c) (Ap (gN rfl c) (l_v (Bt rfl c (v:=bT) rfl) (Au bT (Ap (gN rfl rfl) (Ap (gN rfl rfl) (Ap (gN rfl rfl) (Ap (gN rfl rfl) (Ap (Jf rfl rfl rfl) (Ap (Jf rfl rfl rfl) (Ap (gN rfl rfl) (l_v (Bt rfl rfl (v:=bT) rfl) (l_k j (Co rfl rfl (qA fun K7 N=>Av (iV 0) (Av bF (l_k N (Aq (e ⟨Cgi,rfl,Eq.trans (Mp (r:=2) (r':=3) (rs:=[]) (v:=iV 0) (v':=bF) (vs:=[]) ⟨rfl,rfl,trivial⟩) (by rw[Bbx hz,hz])⟩)))))))))))))))))))
 have x:=Fs c;have h:1<=(Ga s).length/\(Ga s).length<=9:=by have:=x;unfold inR at this;simp at this;omega
 have q8:=Fz.1 x;refine l_M (.string (bs (Ga s))) (qF c) rfl (Ae (qF c) (Bm (vs:=[.string (bs (Ga s)),.string (ByteArray.mk #[48,49,50,51,52,53,54,55,56,57])]) (v:=.string (bs (Wj (Ga s)))) (Bkt (p:=Ga s) (by omega)) Tryz.func143 rfl rfl ⟨rfl,rfl,trivial⟩ ?_));refine Aa (qF c) (Azv (p:=Wj (Ga s)) (q:=([]:List UInt8)) rfl rfl) (l_v (Bn rfl c (v:=.bool ((Wj (Ga s)) != ([]:List UInt8))) rfl) (Au (.bool ((Wj (Ga s)) != ([]:List UInt8))) (Cn ((Wj (Ga s)) != ([]:List UInt8)) (fun a=>?_) (fun a=>?_))))
 ·have hz:Qa s=false:=Byh (by have:=a;rw[Aey]at this;simpa using this);have U:=Ls a;refine Ap (gN rfl a) (Ap (gN rfl a) (Ap (gN rfl a) (Ap (gN rfl a) (Ap (Jf rfl rfl rfl) (Ap (Jf rfl rfl rfl) (Ap (gN rfl a) (l_v (Bt rfl a (v:=bT) rfl) (l_k j (Co rfl rfl (qA fun W G=>Av (iV 0) (Av bF (l_k G (Aq (e ⟨Cgi,rfl,Eq.trans (Mp (r:=2) (r':=3) (rs:=[]) (v:=iV 0) (v':=bF) (vs:=[]) ⟨rfl,rfl,trivial⟩) (by rw[Bbx hz,hz])⟩))))))))))))))
 have y:(Ga s).all Jb=true:=by have:=a;rw[Aey]at this;simpa using this
 have U:=Jh a;refine l_M (.string (bs (Ga s))) (qF a) rfl ?_;obtain⟨f,g⟩:=Alf (p:=Ga s) (i:=0) (by omega);have a4:=f.toNat_lt;refine Aa (qF a) (Nh (p:=Ga s) 0 f Ceb rfl (q:=0) rfl rfl g) (Aa (qF a) (Ek rfl rfl) (l_M (.bool ((f.toNat:Int)==48)) (qF a) rfl (Cn ((f.toNat:Int)==48) (fun b=>?_) (fun b=>?_))))
 ·have R:=Jr b;refine l_M (.string (bs s)) (qF b) rfl (Aa (qF b) (Azv (p:=s) (q:=([48]:List UInt8)) rfl rfl) (Aa (qF a) (Bt rfl b (v:=.bool (s != ([48]:List UInt8))) rfl) (l_v (Bn rfl a (v:=.bool (s != ([48]:List UInt8))) rfl) (l_k j (Bp (t:=s != ([48]:List UInt8)) rfl (fun d=>?_) (fun d=>?_))))))
  ·have hz:Qa s=false:=Byi g (Cbd (n:=48) (Jr b)) (by simpa using d);have T:=Ls d;refine qA fun YQ H=>Av (iV 0) (Av bF (l_k H (Aq (e ⟨Cgi,rfl,Eq.trans (Mp (r:=2) (r':=3) (rs:=[]) (v:=iV 0) (v':=bF) (vs:=[]) ⟨rfl,rfl,trivial⟩) (by rw[Bbx hz,hz])⟩))))
  have hz:Qa s=true:=Bvw h.1 h.2 y g (.inr (by simpa using d));have T:=Jh d;refine Al (kk z ?_);refine qA fun ZQ I=>Au (.string (bs s)) (Arv (Cm (vs:=[.string (bs s)]) (Bki (s:=s) hz) Tryz.func182 rfl rfl ⟨rfl,trivial⟩ fun a5 a7 a9 B=>?_));obtain⟨O,k,D⟩:=B;replace k:=k.symm;subst k D;refine Au (.tuple #[iV (Rg s),.nilIface]) (l_v (Bk (vs:=#[iV (Rg s),.nilIface]) rfl (v:=iV (Rg s)) rfl) (l_v (Bk (vs:=#[iV (Rg s),.nilIface]) rfl (v:=.nilIface) rfl) (Av (iV (Rg s)) (Av .nilIface (Arx rfl rfl I fun a0 J=>Au (iV (Rg s)) (Av (iV (Rg s)) (Av bT (l_k J (Aq (e ⟨O,rfl,Eq.trans (Mp (r:=2) (r':=3) (rs:=[]) (v:=iV (Rg s)) (v':=bT) (vs:=[]) ⟨rfl,rfl,trivial⟩) (by rw[Bog hz,hz])⟩))))))))))
 have hz:Qa s=true:=Bvw h.1 h.2 y g (.inl (Bkw (n:=48) (Jq b)));have R:=Jq b;refine Ap (gN rfl b) (Ap (gN rfl b) (Aa (qF a) (Bn rfl b (v:=bF) rfl) (l_v (Bn rfl a (v:=bF) rfl) (l_k j (Cg rfl rfl (Al (kk z ?_)))))));refine qA fun a1 K=>Au (.string (bs s)) (Arv (Cm (vs:=[.string (bs s)]) (Bki (s:=s) hz) Tryz.func182 rfl rfl ⟨rfl,trivial⟩ fun a6 a8 aa C=>?_));obtain⟨P,m,E⟩:=C;replace m:=m.symm;subst m E;refine Au (.tuple #[iV (Rg s),.nilIface]) (l_v (Bk (vs:=#[iV (Rg s),.nilIface]) rfl (v:=iV (Rg s)) rfl) (l_v (Bk (vs:=#[iV (Rg s),.nilIface]) rfl (v:=.nilIface) rfl) (Av (iV (Rg s)) (Av .nilIface (Arx rfl rfl K fun a2 M=>Au (iV (Rg s)) (Av (iV (Rg s)) (Av bT (l_k M (Aq (e ⟨P,rfl,Eq.trans (Mp (r:=2) (r':=3) (rs:=[]) (v:=iV (Rg s)) (v':=bT) (vs:=[]) ⟨rfl,rfl,trivial⟩) (by rw[Bog hz,hz])⟩))))))))))
theorem Bku{s:List UInt8}(h4:s.length=4):CallsH (CX mn X) 97 #[.string (bs s)] Y Z (rP Y Z (.tuple #[iV ((ckR s):Nat),.bool (Ps s)])):=by
 refine Bq 23 [2,3] Tryz.func97 rfl fun Q k J=>qA fun D n=>Av (iV 0) (Av bF (qE n fun E F u m=>Au (.string (bs s)) (l_v (Zj (p:=s) (l:=0) (h:=2) Ceb rfl (.inl ⟨rfl,rfl⟩) (.inr ⟨_,rfl,rfl⟩) (by omega) (by omega)) (l_v (Azv (p:=(s.take 2).drop 0) (q:=([32,35]:List UInt8)) rfl rfl) (Au (.bool (((s.take 2).drop 0) != ([32,35]:List UInt8))) (Cn (((s.take 2).drop 0) != ([32,35]:List UInt8)) (fun a=>?_) (fun a=>?_)))))))
 ·have hz:Ps s=false:=Cbf a;have B:=Ls a;refine Ap (gN rfl a) (Ap (gN rfl a) (Ap (gN rfl a) (Ap (gN rfl a) (l_v (Bt rfl a (v:=bT) rfl) (l_k m (Co rfl rfl (qA fun G w=>Av (iV 0) (Av bF (l_k w (Aq (k ⟨rfl,rfl,Eq.trans (b:=.tuple #[iV 0,bF]) (Mp (r:=2) (r':=3) (rs:=[]) (v:=iV 0) (v':=bF) (vs:=[]) ⟨rfl,rfl,trivial⟩) ?_⟩)))))))))));rw[Bvm hz,hz];rfl
 have B:=Jh a;refine l_M (.string (bs s)) (qF a) rfl (Aa (qF a) (Zj (p:=s) (l:=2) (h:=s.length) Ceb rfl (.inr ⟨_,rfl,rfl⟩) (.inl ⟨rfl,rfl⟩) (by omega) (by omega)) (Ae (qF a) (Bm (vs:=[.string (bs ((s.take s.length).drop 2)),.string (ByteArray.mk #[48,49,50,51,52,53,54,55,56,57])]) (v:=.string (bs (Wj ((s.take s.length).drop 2)))) (Bkt (p:=(s.take s.length).drop 2) (by simp only[Lp,Ha];omega)) Tryz.func143 rfl rfl ⟨rfl,rfl,trivial⟩ ?_)));refine Aa (qF a) (Azv (p:=Wj ((s.take s.length).drop 2)) (q:=([]:List UInt8)) rfl rfl) (l_v (Bn rfl a (v:=.bool ((Wj ((s.take s.length).drop 2)) != ([]:List UInt8))) rfl) (l_k m (Bp (t:=(Wj ((s.take s.length).drop 2)) != ([]:List UInt8)) rfl (fun e=>?_) (fun e=>?_))))
 ·have hz:Ps s=false:=Cbg (by have:=e;rw[Aey,Ve]at this;simpa using this);have C:=Ls e;refine qA fun H x=>Av (iV 0) (Av bF (l_k x (Aq (k ⟨rfl,rfl,Eq.trans (b:=.tuple #[iV 0,bF]) (Mp (r:=2) (r':=3) (rs:=[]) (v:=iV 0) (v':=bF) (vs:=[]) ⟨rfl,rfl,trivial⟩) ?_⟩))));rw[Bvm hz,hz];rfl
 have f:(s.drop 2).all Jb=true:=by have:=e;rw[Aey,Ve]at this;simpa using this
 have C:=Jh e;refine Al (kk u ?_);refine Ai fun I y=>Xp (Dy 0 Amg rfl (Ah (v:=.string (bs s)) rfl) ?_);obtain⟨c,j⟩:=Alf (p:=s) (i:=2) (by omega);have N:=c.toNat_lt;have L:=Bvn f (by omega) j;refine Dy 1 Anv rfl (Nh (p:=s) 2 c Ceb rfl (q:=2) rfl rfl j) (Dy 2 (zT 3 9) rfl (Ou (p:=(c.toNat:Int)) (q:=48) rfl rfl (z:=(((c.toNat-48):Nat):Int)) ((Anq (by omega) (by omega)).trans (by omega))) (Dy 3 (zT 4 8) rfl (Acf (p:=(((c.toNat-48):Nat):Int)) (z:=(((c.toNat-48):Nat):Int)) Ceo Ceq rfl wrR) (Dy 4 (zT 5 7) rfl (Wq rfl rfl (z:=((((c.toNat-48)*10):Nat):Int)) wrE) (Cr 5 (zT 6 6) rfl (Ah (v:=.string (bs s)) rfl) ?_))));obtain⟨d,g⟩:=Alf (p:=s) (i:=3) (by omega);have M:=d.toNat_lt;have K:=Bvn f (by omega) g;refine Cr 6 (zT 7 5) rfl (Nh (p:=s) 3 d Ceb rfl (q:=3) rfl rfl g) (Cr 7 (zT 8 4) rfl (Ou (p:=(d.toNat:Int)) (q:=48) rfl rfl (z:=(((d.toNat-48):Nat):Int)) ((Anq (by omega) (by omega)).trans (by omega))) (Cr 8 (zT 9 3) rfl (Acf (p:=(((d.toNat-48):Nat):Int)) (z:=(((d.toNat-48):Nat):Int)) Ceo Ceq rfl wrR) (Cr 9 Ans rfl (Br rfl rfl (z:=(((((c.toNat-48)*10)+(d.toNat-48)):Nat):Int)) wrE) (Cr 10 Ant rfl (Cp (v:=iV (((((c.toNat-48)*10)+(d.toNat-48)):Nat):Int)) rfl) (Cr 11 Anu rfl (Cp (v:=bT) rfl) (Ec rfl (kk y ?_)))))));refine Aq (k ⟨rfl,rfl,Eq.trans (b:=.tuple #[iV (((((c.toNat-48)*10)+(d.toNat-48)):Nat):Int),bT]) (Mp (r:=2) (r':=3) (rs:=[]) (v:=iV (((((c.toNat-48)*10)+(d.toNat-48)):Nat):Int)) (v':=bT) (vs:=[]) ⟨rfl,rfl,trivial⟩) ?_⟩);have hz:Ps s=true:=Cct a f;rw[Cbe h4 hz j g,hz]
theorem Akm{n:Nat}{s:List UInt8}(hn:n<=60000)(hb:s.length<=60000):CallsH (CX mn X) 60 #[iV n,.string (bs s)] Y Z (rP Y Z (.string (bs (Wa n s)))):=by have hc:=Bry n s;refine Bq 23 [4] Tryz.func60 rfl fun Q e u=>qA fun k f=>Av (.string (ByteArray.mk #[])) (qB f fun m g=>Au (iV n) (Au (.string (bs s)) (Arv (Bm (vs:=[iV n,.string (bs s)]) (v:=iV ((Jp n s):Nat)) (Akf (n:=n) (s:=s) (by omega) (by omega)) Cgf rfl rfl ⟨rfl,rfl,trivial⟩ ?_))));refine Av (iV ((Jp n s):Nat)) (qB g fun t h=>Au (.string (bs s)) (l_v (Asr (p:=s) (q:=([32,35]:List UInt8)) rfl rfl (by first|omega|(simp only[lZ4,Gk,Pc,Ha,Lp]at *;omega))) (Au (iV ((Jp n s):Nat)) (l_v (Ccq (p:=(((Jp n s):Nat):Int)) (q:=10) rfl rfl (by omega) (z:=((((Jp n s)/10):Nat):Int)) wrR) (l_v (Br rfl rfl (z:=(((48+((Jp n s)/10)):Nat):Int)) wrE) (l_v (Acf (p:=(((48+((Jp n s)/10)):Nat):Int)) (z:=(((48+((Jp n s)/10)):Nat):Int)) Ceq Ceo rfl (Anq (by omega) (by omega))) (Au (iV ((Jp n s):Nat)) (l_v (Bgd (p:=(((Jp n s):Nat):Int)) (q:=10) rfl rfl (by omega) (z:=((((Jp n s)%10):Nat):Int)) rfl) (l_v (Br rfl rfl (z:=(((48+((Jp n s)%10)):Nat):Int)) wrE) (l_v (Acf (p:=(((48+((Jp n s)%10)):Nat):Int)) (z:=(((48+((Jp n s)%10)):Nat):Int)) Ceq Ceo rfl (Anq (by omega) (by omega))) (Arv (Bi (α:=UInt8) (xs:=[UInt8.ofNat ((((48+((Jp n s)/10)):Nat):Int)).toNat,UInt8.ofNat ((((48+((Jp n s)%10)):Nat):Int)).toNat]) (vs:=[.int .u8 (((48+((Jp n s)/10)):Nat):Int),.int .u8 (((48+((Jp n s)%10)):Nat):Int)]) Cej ty5 zr5 rfl (by decide) (Dk (os:=[.tmp 14,.tmp 18]) ⟨rfl,rfl,trivial⟩) ⟨Bql (by omega) (by omega),Bql (by omega) (by omega),trivial⟩ rfl (by decide) fun a d c=>?_))))))))))));have b:Grow Y 5 (.slice (some ⟨a,0,none⟩) 2 2) ([UInt8.ofNat ((((48+((Jp n s)/10)):Nat):Int)).toNat,UInt8.ofNat ((((48+((Jp n s)%10)):Nat):Int)).toNat]:List UInt8) [(a,oC d.toArray 5)]:=Bs c rfl (by decide);refine Ca b fun w i j=>l_v (Cah (el:=5) Cej Ceb Ceo rfl j) (l_v (Asr (p:=s++([32,35]:List UInt8)) (q:=([UInt8.ofNat ((((48+((Jp n s)/10)):Nat):Int)).toNat,UInt8.ofNat ((((48+((Jp n s)%10)):Nat):Int)).toNat]:List UInt8)) rfl rfl (by first|omega|(simp only[lZ4,Gk,Pc,Ha,Lp]at *;omega))) (l_v (Asr (p:=(s++([32,35]:List UInt8))++([UInt8.ofNat ((((48+((Jp n s)/10)):Nat):Int)).toNat,UInt8.ofNat ((((48+((Jp n s)%10)):Nat):Int)).toNat]:List UInt8)) (q:=([10]:List UInt8)) rfl rfl (by first|omega|(simp only[lZ4,Gk,Pc,Ha,Lp]at *;omega))) (Av (.string (bs (((s++([32,35]:List UInt8))++([UInt8.ofNat ((((48+((Jp n s)/10)):Nat):Int)).toNat,UInt8.ofNat ((((48+((Jp n s)%10)):Nat):Int)).toNat]:List UInt8))++([10]:List UInt8)))) (l_k h (Aj (Cgg i) (Aq (e ⟨rfl,rfl,eT (.string (bs (((s++([32,35]:List UInt8))++([UInt8.ofNat ((((48+((Jp n s)/10)):Nat):Int)).toNat,UInt8.ofNat ((((48+((Jp n s)%10)):Nat):Int)).toNat]:List UInt8))++([10]:List UInt8)))) ?_⟩)))))));rfl
end
section
def Up(a:ByteArray):Bool:=decide (a.data.toList.length<=200)&&Nq a.data.toList
def Ach(ls:List ByteArray)(j:Nat):Bool:=match ls[j]? with|some a=>Up a|none=>true
def Ahm(k:List UInt8)(n:Nat):List UInt8:=Wa 0 (([98,111,111,107,32]++k)++[32]++Oz n)
def Qj:List ByteArray->Nat->List UInt8
 | [],_=>[]
 | a::ls,n=>Wa n a.data.toList++Qj ls (n+1)
def Bvo(k:List UInt8)(ls:List ByteArray):List UInt8:=Ahm k ls.length++Qj ls 1
def Qi(k:List UInt8)(ls:List ByteArray):Int:=if Hg (bs k)=false then 4 else if 90<ls.length then 2 else if ls.all Up=true then 0 else 3
def Vr(k:List UInt8)(ls:List ByteArray):List UInt8:=if Qi k ls=0 then Bvo k ls else []
theorem Bgp(x y:List ByteArray)(n:Nat):Qj (x++y) n=Qj x n++Qj y (n+x.length):=by
 induction x generalizing n with
 | nil=>simp[Qj]
 | cons a x ih=>rw[Te,Qj,Qj,ih,Gk,show n+1+x.length=n+(x.length+1) by omega,Gt]
theorem Bae{ls:List ByteArray}{i:Nat}{a:ByteArray}(h:ls[i]?=some a):Qj (ls.take (i+1)) 1=Qj (ls.take i) 1++Wa (i+1) a.data.toList:=by
 rw[Xu,h,Bgp];have:(ls.take i).length=i:=by rw[Ha];have:=(lZ3.1 h).1;omega
 rw[this,Aqz 1 i];simp[Qj]
theorem Aac(n:Nat)(p:List UInt8):(Wa n p).length=p.length+5:=by simp[Wa,Cbj]
theorem Bgq(ls:List ByteArray)(i n:Nat)(h:∀j,j<i->Ach ls j=true):(Qj (ls.take i) n).length<=205*i:=by
 have key:∀(x:List ByteArray) (n:Nat),(∀a∈x,Up a=true)->(Qj x n).length<=205*x.length:=by
  intro x;induction x with
  | nil=>intro n _;simp[Qj]
  | cons a x ih =>
   intro n hx;have c:=hx a mC;have d:=ih (n+1) fun b hb=>hx b (lZ0 _ hb);unfold Up at c;simp only[Pb,decide_eq_true_eq]at c;rw[Qj,lZ4,Aac,Gk];omega
 refine Tk (key _ n fun a ha=>?_) (Nat.mul_le_mul_left _ (by rw[Ha];omega));obtain⟨j,hj⟩:=Td ha;rw[Bei]at hj;split at hj
 ·rename_i hlt;have:=h j hlt;unfold Ach at this;rw[hj]at this;exact this
 ·cases hj
theorem Btm{ls:List ByteArray}{i:Nat}{a:ByteArray}(h:ls[i]?=some a)(h1:a.data.toList.length<=200)(h2:Nq a.data.toList=true):Ach ls i=true:=by unfold Ach;rw[h];simp only[Up,h2,Bool.and_true,decide_eq_true_eq];exact h1
theorem all_t{ls:List ByteArray}(h:∀j,j<ls.length->Ach ls j=true):ls.all Up=true:=by rw[Ny];intro a ha;obtain⟨j,hj⟩:=Td ha;have:=h j (lZ3.1 hj).1;unfold Ach at this;rw[hj]at this;exact this
theorem Bvl{ls:List ByteArray}{i:Nat}{a:ByteArray}(h:ls[i]?=some a)(hn:200<a.data.toList.length∨Nq a.data.toList=false):ls.all Up=false:=by
 cases hp:ls.all Up with
 | false=>rfl
 | true =>
  have:=Ny.1 hp a (lZ5 h);simp only[Up,Pb,decide_eq_true_eq]at this;rcases hn with hn|hn
  ·omega
  ·rw[hn]at this;cases this.2
theorem Cab{k:List UInt8}{ls:List ByteArray}(h:Hg (bs k)=false):Qi k ls=4/\Vr k ls=[]:=by
 have:Qi k ls=4:=by unfold Qi;rw[if_pos h]
 exact⟨this,by unfold Vr;rw[this];rfl⟩
theorem Caa{k:List UInt8}{ls:List ByteArray}(h:Hg (bs k)=true)(h2:90<ls.length):Qi k ls=2/\Vr k ls=[]:=by
 have:Qi k ls=2:=by unfold Qi;rw[if_neg (by rw[h];simp),if_pos h2]
 exact⟨this,by unfold Vr;rw[this];rfl⟩
theorem Bqq{k:List UInt8}{ls:List ByteArray}(h:Hg (bs k)=true)(h2:ls.length<=90)(h3:ls.all Up=false):Qi k ls=3/\Vr k ls=[]:=by
 have:Qi k ls=3:=by unfold Qi;rw[if_neg (by rw[h];simp),if_neg (by omega),if_neg (by rw[h3];simp)]
 exact⟨this,by unfold Vr;rw[this];rfl⟩
theorem Bzz{k:List UInt8}{ls:List ByteArray}(h:Hg (bs k)=true)(h2:ls.length<=90)(h3:ls.all Up=true):Qi k ls=0/\Vr k ls=Bvo k ls:=by
 have:Qi k ls=0:=by unfold Qi;rw[if_neg (by rw[h];simp),if_neg (by omega),if_pos h3]
 exact⟨this,by unfold Vr;rw[this];rfl⟩
end
section
variable{mn:Bool}{X:Frame->List Frame->Ro->Own->Cy->Prop}{Y:Ro}{Z:Own}
theorem Bkn{n:Nat}(hn:n<100):CallsH (CX mn X) 93 #[iV n] Y Z (rP Y Z (.string (bs (Oz n)))):=by refine Bq 5 [2] Tryz.func93 rfl fun Q a f=>qA fun d b=>Av (.string (ByteArray.mk #[])) (qB b fun e c=>Au (iV n) (Arv (Bm (vs:=[iV n,iV 10]) (v:=.string (bs (Oz n))) (Bgt (n:=n) hn) Tryz.func140 rfl rfl ⟨rfl,rfl,trivial⟩ ?_)));refine Av (.string (bs (Oz n))) (l_k c (Aq (a (rT (.string (bs (Oz n))) ?_))));rfl
theorem Brj{n:Nat}(hn:n<100):CallsH (CX mn X) 61 #[iV n] Y Z (rP Y Z (.string (bs (Oz n)))):=by refine Bq 5 [2] Tryz.func61 rfl fun Q a f=>qA fun d b=>Av (.string (ByteArray.mk #[])) (qB b fun e c=>Au (iV n) (Arv (Bm (vs:=[iV n]) (v:=.string (bs (Oz n))) (Bkn (n:=n) hn) Tryz.func93 rfl rfl ⟨rfl,trivial⟩ ?_)));refine Av (.string (bs (Oz n))) (l_k c (Aq (a (rT (.string (bs (Oz n))) ?_))));rfl
theorem Brn{k:List UInt8}{ls:List ByteArray}{vl:Value}(hk:k.length<=50000)(rl:Val Y vl ls)(hz:∀(j:Nat) (a:ByteArray),ls[j]?=some a->a.data.toList.length<=60000):CallsH (CX mn X) 26 #[.string (bs k),vl] Y Z (rP Y Z (.tuple #[.string (bs (Vr k ls)),iV (Qi k ls)])):=by
 refine Bq 48 [4,5] Tryz.func26 rfl fun Q g bh=>qA fun K1 k1=>Av (.string (ByteArray.mk #[])) (Av (iV 0) (Asa k1 fun K2 k2=>Ao (qA fun K3 k3=>Au (.string (bs k)) (Arv (Bm (vs:=[.string (bs k)]) (v:=.bool (Hg (bs k))) (Adb (by first|omega|(rw[Jo];omega))) Cfr rfl rfl ⟨rfl,trivial⟩ ?_)))));refine l_v (Iy rfl) (Av (.bool (!(Hg (bs k)))) (l_k k3 (Bp (t:=!(Hg (bs k))) rfl (fun E=>?_) (fun E=>?_))))
 ·have b5:=not_eq_t E;refine qA fun K6 k6=>Av (.string (ByteArray.mk #[])) (Av (iV 4) (l_k k6 (Aq (g ⟨rfl,rfl,Eq.trans (b:=.tuple #[.string (ByteArray.mk #[]),iV 4]) (Mp (r:=4) (r':=5) (rs:=[]) (v:=.string (ByteArray.mk #[])) (v':=iV 4) (vs:=[]) ⟨rfl,rfl,trivial⟩) ?_⟩))));have hw:=Cab (ls:=ls) b5;rw[hw.1,hw.2];rfl
 have x:=Fs E;refine qA fun K8 k8=>Au vl ?_;have g9:=Val.len rl;refine l_v (Ci (el:=9) Ced rfl rl) (l_v (Gl (p:=(ls.length:Int)) (q:=90) rfl rfl) (Av (.bool (decide ((ls.length:Int)>90))) (l_k k8 (Bp (t:=decide ((ls.length:Int)>90)) rfl (fun B=>?_) (fun B=>?_)))))
 ·have an:=lZ2 B;refine qA fun au a8=>Av (.string (ByteArray.mk #[])) (Av (iV 2) (l_k a8 (Aq (g ⟨rfl,rfl,Eq.trans (b:=.tuple #[.string (ByteArray.mk #[]),iV 2]) (Mp (r:=4) (r':=5) (rs:=[]) (v:=.string (ByteArray.mk #[])) (v':=iV 2) (vs:=[]) ⟨rfl,rfl,trivial⟩) ?_⟩))));have hw:=Caa (ls:=ls) x (by omega);rw[hw.1,hw.2];rfl
 have hdl:(Oz ls.length).length<=20:=Bld (by omega);have an:=lZ1 B;refine Al (kk k2 ?_);refine qA fun av a9=>Arv (Ct Cap fun e=>?_);refine qB a9 fun aw aa=>Au (.string (bs k)) (l_v (Asr (p:=bZ2) (q:=k) rfl rfl (by first|omega|(simp only[lZ4,Gk,Pc,Ha,Lp]at *;omega))) (l_v (Asr (p:=bZ2++k) (q:=([32]:List UInt8)) rfl rfl (by first|omega|(simp only[lZ4,Gk,Pc,Ha,Lp]at *;omega))) (Au vl ?_)));have bc:=Val.len rl;refine l_v (Ci (el:=9) Ced rfl rl) (Arv (Bm (vs:=[iV (ls.length:Int)]) (v:=.string (bs (Oz ls.length))) (Brj (n:=ls.length) (by omega)) Tryz.func61 rfl rfl ⟨rfl,trivial⟩ ?_));refine l_v (Asr (p:=(bZ2++k)++([32]:List UInt8)) (q:=Oz ls.length) rfl rfl (by first|omega|(simp only[lZ4,Gk,Pc,Ha,Lp]at *;omega))) (Arv (Bm (vs:=[iV 0,.string (bs (((bZ2++k)++([32]:List UInt8))++(Oz ls.length)))]) (v:=.string (bs (Wa 0 (((bZ2++k)++([32]:List UInt8))++(Oz ls.length))))) (Akm (n:=0) (s:=((bZ2++k)++([32]:List UInt8))++(Oz ls.length)) (by omega) (by first|omega|(simp only[lZ4,Gk,Pc];omega))) Tryz.func60 rfl rfl ⟨rfl,rfl,trivial⟩ ?_));refine Arv (Cm (vs:=[pV e,.string (bs (Wa 0 (((bZ2++k)++([32]:List UInt8))++(Oz ls.length))))]) (Akc (r:=e) (s:=Wa 0 (((bZ2++k)++([32]:List UInt8))++(Oz ls.length))) Hm (by first|omega|(simp only[Aac,lZ4,Gk,Pc]at *;omega))) Cgc rfl rfl ⟨rfl,rfl,trivial⟩ fun bo br c0 a2=>?_);obtain⟨G,aq,a0,a5,V,J⟩:=a2;replace G:=G.symm;replace J:=J.symm;subst G J a5;refine qE aa fun ax ay ab ac=>Au vl ?_;have bd:=Val.len rl;refine l_v (Ci (el:=9) Ced rfl rl) (Au (iV 0) (l_k ac (Ao (Aj (Cgh Asc) (Cc (fun mm ee dd Y' Z'=>∃(i:Nat) (N:Value) (M:Own),(ls.length-i)=mm/\[]=dd/\Ro.le Y Y'/\(M++((e,oC #[pV e,N] 131)::Z))=Z'/\ee 6=pV e/\ee 26=vl/\ee 27=(iV (ls.length:Int))/\ee 28=iV i/\(i<=ls.length)/\(∀j,j<i->Ach ls j=true)/\Grow Y' 5 N (Ahm k ls.length++Qj (ls.take i) 1) M/\True) (m:=_) ⟨0,aq,a0,rfl,rfl,Cgi,rfl,rfl,rfl,rfl,rfl,Hz _,fun j h=>absurd h (Vn _),Fy (by simp only[Qj,List.take_zero,Tf,Aca];rfl) V,trivial⟩ ?_)))));rintro bj bb _ bt _ ⟨i,N,M,rfl,rfl,u,rfl,F,P,R,y,bk,O,w,_⟩;replace rl:=Val.mono u rl;have bf:=Bgq ls i 1 O;have bg:(Ahm k ls.length).length<=100000:=by unfold Ahm;rw[Aac];simp only[lZ4,Gk,Pc];omega
 refine qA fun az ad=>l_v (Da y R) (Asa ad fun b0 ae=>Bp (t:=decide ((i:Int)<(ls.length:Int))) rfl (fun C=>?_) (fun C=>?_))
 ·have ao:=lZ2 C;refine Al (kk ae ?_);refine Ai fun b1 af=>Ao (qA fun b2 ag=>l_v (Ah (v:=iV i) y) ?_);obtain⟨c,f⟩:=Ed (xs:=ls) (i:=i) (by omega);have bi:=hz _ _ f;refine Arw (Ch i Ced ty9 P rl (q:=(i:Int)) y rfl f) fun bn U=>?_;have be:c.data.toList.length<2^60:=At.slen U;refine l_v (Pk ty9 rfl U) (Av (iV i) (Av (.string c) (qE ag fun b3 b6 ah T=>Au (.string c) (l_v (Gh Ceb (p:=c.data.toList) rfl) (l_v (Gl (p:=(c.data.toList.length:Int)) (q:=200) rfl rfl) (Au (.bool (decide ((c.data.toList.length:Int)>200))) (Cn (decide ((c.data.toList.length:Int)>200)) (fun d=>?_) (fun d=>?_))))))))
  ·have ap:=lZ2 d;refine Ap (gN rfl d) (Ap (gN rfl d) (Ap (gN rfl d) (l_v (Bt rfl d (v:=bT) rfl) (l_k T (Co rfl rfl (qA fun b8 ai=>Av (.string (ByteArray.mk #[])) (Av (iV 3) (l_k ai (Hc w fun bu al bl=>Aj Ghost.drop (Aj (Cgg (Cgj u al)) (Aq (g ⟨rfl,rfl,Eq.trans (b:=.tuple #[.string (ByteArray.mk #[]),iV 3]) (Mp (r:=4) (r':=5) (rs:=[]) (v:=.string (ByteArray.mk #[])) (v':=iV 3) (vs:=[]) ⟨rfl,rfl,trivial⟩) ?_⟩))))))))))));have hw:=Bqq (ls:=ls) x (by omega) (Bvl f (.inl (by omega)));rw[hw.1,hw.2];rfl
  have ap:=lZ1 d;refine l_M (.string c) (qF d) rfl (Ae (qF d) (Bm (vs:=[.string c]) (v:=.bool (Nq c.data.toList)) (Bdg (s:=c.data.toList) (by omega)) Tryz.func62 rfl rfl ⟨rfl,trivial⟩ ?_));refine Aa (qF d) (Iy rfl) (l_v (Bn rfl d (v:=.bool (!(Nq c.data.toList))) rfl) (l_k T (Bp (t:=!(Nq c.data.toList)) rfl (fun D=>?_) (fun D=>?_))))
  ·have YQ:=not_eq_t D;refine qA fun b9 aj=>Av (.string (ByteArray.mk #[])) (Av (iV 3) (l_k aj (Hc w fun bv am bm=>Aj Ghost.drop (Aj (Cgg (Cgj u am)) (Aq (g ⟨rfl,rfl,Eq.trans (b:=.tuple #[.string (ByteArray.mk #[]),iV 3]) (Mp (r:=4) (r':=5) (rs:=[]) (v:=.string (ByteArray.mk #[])) (v':=iV 3) (vs:=[]) ⟨rfl,rfl,trivial⟩) ?_⟩))))));have hw:=Bqq (ls:=ls) x (by omega) (Bvl f (.inr YQ));rw[hw.1,hw.2];rfl
  have ZQ:=Fs D;refine Al (kk ah ?_);refine qC (Au (iV i) (l_v (Br rfl rfl (z:=(((i+1):Nat):Int)) wrE) (Au (.string c) (Arv (Bm (vs:=[iV ((i+1):Nat),.string c]) (v:=.string (bs (Wa (i+1) c.data.toList))) (Akm (n:=i+1) (s:=c.data.toList) (by omega) (by first|omega|(simp only[lZ4,Gk,Pc];omega))) Tryz.func60 rfl rfl ⟨rfl,rfl,trivial⟩ ?_)))));refine Bj (Cgh Asd) (Arv (Cm (vs:=[pV e,.string (bs (Wa (i+1) c.data.toList))]) (Akd (r:=e) (s:=Wa (i+1) c.data.toList) w (by first|omega|(simp only[Aac,lZ4,Gk,Pc]at *;omega))) Cgc rfl rfl ⟨F,rfl,trivial⟩ fun bp bx c1 a3=>?_));obtain⟨H,ar,a1,a6,W,K⟩:=a3;replace H:=H.symm;replace K:=K.symm;subst H K a6;refine l_k af (qC (l_v (Br y rfl (z:=(((i+1):Nat):Int)) wrE) (Au (iV ((i+1):Nat)) (Bj (Cgh Asc) (Ac ?_)))));refine⟨_,?_,(i+1),ar,a1,rfl,rfl,u,rfl,F,P,R,rfl,(by omega),(Eg O (Btm f (by omega) ZQ)),(Fy (by rw[Bae f,Gt]) W),trivial⟩;omega
 have ao:=lZ1 C;refine Bx (kk ab ?_);refine qA fun ba ak=>Bj (Cgh Asd) (Arv (Cm (vs:=[pV e]) (Bgr (r:=e) w (by unfold Ahm Wa;simp)) Tryz.func63 rfl rfl ⟨F,trivial⟩ fun bq bz c2 a4=>?_));obtain⟨I,L,a7⟩:=a4;replace I:=I.symm;replace L:=L.symm;subst I L a7;refine Av (.string (bs (Ahm k ls.length++Qj (ls.take i) 1))) (Av (iV 0) (l_k ak (Aj (Cgg u) (Aq (g ⟨rfl,rfl,Eq.trans (b:=.tuple #[.string (bs (Ahm k ls.length++Qj (ls.take i) 1)),iV 0]) (Mp (r:=4) (r':=5) (rs:=[]) (v:=.string (bs (Ahm k ls.length++Qj (ls.take i) 1))) (v':=iV 0) (vs:=[]) ⟨rfl,rfl,trivial⟩) ?_⟩)))));have hw:=Bzz (ls:=ls) x (by omega) (all_t fun j hj=>O j (by omega));rw[hw.1,hw.2];rw[show i=ls.length by omega,Ve];rfl
end
section
theorem Zq{C:Ctx}{f:FuncId}{fn:Func}{c:Code}{n:Nat}{args:List Value}{Y:Ro}{Z:Own}{R X:Value->Ro->Own->Prop}(rs:List Nat)(hf:C.P.funcs[f]?=some fn)(hc:fn.body=some c)(hn:fn.ntmps=n)(ha:Nat.ble args.length n=true)(hr:fn.results=(rs.map ResultVar.tmp).toArray)
  (h:∀Q:Hu,(∀e Y' Z',R (Abp rs e) Y' Z'->Q .ret e [] Y' Z')->(∀e Y' Z',R (Abp rs e) Y' Z'->Q .normal e [] Y' Z')->WpP C (fun x _ ds Y' Z'=>ds=[]/\X x Y' Z') ⟨f,.normal,none⟩ n c Q (Pn args) [] Y Z):CallsP C f args.toArray Y Z R X :=
 Avx hf hc hn (lZ7 ha) (h _ (fun e Y' Z' hR=>⟨fun id h=>(by cases h),Lm (Q:=fun v Z'=>R v Y' Z') hr hR⟩) (fun e Y' Z' hR=>⟨fun id h=>(by cases h),Lm (Q:=fun v Z'=>R v Y' Z') hr hR⟩))
section
variable{C:Ctx}{V:Qt}{b:FB}{n:Nat}{l₀ rest:List Oper}{Q:Env->List Deferred->Ro->Own->Prop}{e:Env}{ds:List Deferred}{Y:Ro}{Z:Own}
variable{ty:TypeId}{pos:String}{af:Array Edge}{g:Option (Nat×Bool)}{op:Op}
theorem Jc{d:Nat}(hw:Bz l₀.toArray ⟨some d,op,ty,pos,af,g⟩ e=true)(h:wpS C.P Y (execOp (Af e) ⟨some d,op,ty,pos,af,g⟩) Z (NextP C (fun v=>Em C V b n l₀ rest Q (upd e d v)) (fun x Y' Z'=>V x e ds Y' Z') ds Y)):Em C V b n l₀ (⟨some d,op,ty,pos,af,g⟩::rest) Q e ds Y Z:=Bxv hw h
theorem Lo{K:Value->List Deferred->Ro->Own->Prop}{dd:Option Tmp}{f:FuncId}{fn:Func}{args:List Operand}{tys:Array TypeId}{vs:List Value}{R X X':Value->Ro->Own->Prop}(hc:CallsP C f vs.toArray Y Z R X)(hf:C.P.funcs[f]?=some fn)(hn:(fn.name == "runtime.NumGoroutine")=false)(hb:fn.body.isNone=false)
  (hv:EvL e args vs) (h:∀v Y' Z',R v Y' Z'->K v ds Y' Z') (hx:∀v Y' Z',X v Y' Z'->X' v Y' Z'):wpS C.P Y (execOp (Af e) ⟨dd,.call ⟨.value (.func f),args.toArray,tys⟩,ty,pos,af,g⟩) Z (NextP C K X' ds Y):=by have hv':=hv.map;show wpS C.P Y (invoke (.fn (.func f) #[]) (#[]++args.toArray.map (Af e))) Z _;show wpS C.P Y (callFunc f ((#[]++args.toArray.map (Af e)) ++ #[])) Z _;rw[Adt,Aby,hv'];exact Mr hf hn hb (hc.mono h hx)
end
abbrev Cal:List Value:=[.int .i64 0,.int .i64 0]
theorem Bqu:Fw Tryz.prog 140 (.agg #[.int .i64 0,.int .i64 0]):=⟨_,Ab Tryz.typeInfo140,rfl⟩
abbrev Cam:List Value:=[.int .i64 0,.string ⟨#[]⟩,.int .i64 0,.slice none 0 0]
theorem Car:Fw Tryz.prog 143 (.agg #[.int .i64 0,.string ⟨#[]⟩,.int .i64 0,.slice none 0 0]):=⟨_,Ab Tryz.typeInfo143,rfl⟩
def Xj(ln f:Int):Value:=.iface 140 (.agg #[.int .i64 ln,.int .i64 f])
end
section
theorem Pr{mn:Bool}{X:Frame->List Frame->Ro->Own->Cy->Prop}{Y:Ro}{Z:Own}{r:Nat}{ln f:Int}{ok:Bool}{v1 v2 v3:Value}(hf:I64 ln):CallsP (CX mn X) 67 #[pV r,.bool ok,iV f] Y ((r,oC #[iV ln,v1,v2,v3] 143)::Z) (fun w Y' Z'=>Y'=Y/\Z'=(r,oC #[.int .i64 ln,v1,v2,v3] 143)::Z/\ok=true/\w = .tuple #[]) (fun x Y' Z'=>Y'=Y/\Z'=(r,oC #[.int .i64 ln,v1,v2,v3] 143)::Z/\ok=false/\x=Xj ln f):=by
 refine Zq (n:=15) (args:=[pV r,.bool ok,iV f]) [] Ces rfl rfl rfl rfl fun Q h d=>?_;refine qA fun g e=>Au (.bool ok) (l_v (Iy rfl) (l_k e (Bp (t:=!(ok)) rfl (fun a=>?_) (fun a=>?_))))
 ·have b:=not_eq_t a;refine qC (Au (pV r) (l_v (Ck rfl) (l_v (Cb Cek rfl rfl ty3.2 (by decide) rfl rfl) (Arv (Dt (i:=0) (v:=iV ln) ty3.1 rfl rfl rfl ?_)))));refine Au (iV f) (l_v (Dn (ns:=[1,1]) (vs:=[(0,(iV ln)),(1,(iV f))]) (zc:=Cal) (cs:=[iV ln,iV f]) Cfc Bqu rfl ⟨ty3.2,⟨_,Ab Cfb,rfl⟩,trivial⟩ (EvB.map ⟨⟨rfl,rfl⟩,⟨rfl,rfl⟩,trivial⟩) ((Be (cs:=[iV ln]) rfl rfl nL).trans ((Be (cs:=[iV f]) rfl rfl nL).trans rfl))) (l_v (Bcv Cfc rfl rfl) (Btl rfl rfl ⟨rfl,?_⟩)));exact⟨rfl,rfl,b,rfl⟩
 have c:=Fs a;refine Al (d _ _ _ ⟨rfl,rfl,c,rfl⟩)
end
section
def Azn:List UInt8:=[98,111,111,107]
def Nr(t:List UInt8):Bool:=match Fl t with
 | [a,b,c]=>a==Azn&&b != []&&Qa c
 | _=>false
def Un(t:List UInt8):List UInt8:=(Fl t).getD 1 []
def Vh(t:List UInt8):Int:=Yy ((Fl t).getD 2 [])
section
variable{t:List UInt8}{L:List ByteArray}
theorem Ajo(hL:L=bw (Fl t)){i:Nat}{a:ByteArray}(h:L[i]?=some a):(Fl t)[i]?=some a.data.toList:=by
 subst hL;unfold bw at h;rw[Ol]at h;cases hs:(Fl t)[i]? with
 | none=>rw[hs]at h;cases h
 | some w=>rw[hs]at h;cases h;rfl
theorem Bkg(hL:L=bw (Fl t)):L.length=(Fl t).length:=by subst hL;unfold bw;rw[Xx]
theorem Aaw:∀{s acc:List UInt8} {w:List UInt8},w∈Rz 32 acc s->w.length<=acc.length+s.length
 | [],acc,w,h=>by
  simp only[Rz,Oj]at h;subst h;simp
 | c::s,acc,w,h=>by
  unfold Rz at h;split at h
  ·rcases lZ9.1 h with rfl|h
   ·simp
   ·have:=Aaw h;simp at this ⊢;omega
  ·have:=Aaw h;simp at this ⊢;omega
theorem Auz(hL:L=bw (Fl t)){i:Nat}{a:ByteArray}(h:L[i]?=some a):a.data.toList.length<=t.length:=by have:=Aaw (lZ5 (Ajo hL h));simpa using this
theorem Bta(hL:L=bw (Fl t))(h:L.length≠3):Nr t=false:=by
 rw[Bkg hL]at h;unfold Nr;split
 ·rename_i he;rw[he]at h;exact absurd rfl h
 ·rfl
theorem Atw(hL:L=bw (Fl t))(h3:L.length=3):∃a b c,Fl t=[a,b,c]:=by
 rw[Bkg hL]at h3
 match hs:Fl t,h3 with
 | [a,b,c],_=>exact⟨a,b,c,rfl⟩
theorem Btb(hL:L=bw (Fl t))(h3:L.length=3){a:ByteArray}(h0:L[0]?=some a)(ha:a.data.toList≠Azn):Nr t=false:=by obtain⟨x,y,z,hs⟩:=Atw hL h3;have h:=Ajo hL h0;rw[hs]at h;simp at h;subst h;unfold Nr;rw[hs];simp only[Bmp];exact .inl (.inl (by simpa using ha))
theorem Btc(hL:L=bw (Fl t))(h3:L.length=3){a:ByteArray}(h1:L[1]?=some a)(ha:a.data.toList=[]):Nr t=false:=by obtain⟨x,y,z,hs⟩:=Atw hL h3;have h:=Ajo hL h1;rw[hs]at h;simp at h;subst h;unfold Nr;rw[hs,ha];simp
theorem Btd(hL:L=bw (Fl t))(h3:L.length=3){a:ByteArray}(h2:L[2]?=some a)(ha:Qa a.data.toList=false):Nr t=false:=by obtain⟨x,y,z,hs⟩:=Atw hL h3;have h:=Ajo hL h2;rw[hs]at h;simp at h;subst h;unfold Nr;rw[hs];simp only[ha,Axr]
theorem Bxq(hL:L=bw (Fl t))(h3:L.length=3){a b c:ByteArray}(h0:L[0]?=some a)(h1:L[1]?=some b)(h2:L[2]?=some c)(ha:a.data.toList=Azn)(hb:b.data.toList≠[])(hc:Qa c.data.toList=true):Nr t=true/\Un t=b.data.toList/\Vh t=Yy c.data.toList:=by obtain⟨x,y,z,hs⟩:=Atw hL h3;have d:=Ajo hL h0;have e:=Ajo hL h1;have f:=Ajo hL h2;rw[hs]at d e f;simp at d e f;subst d e f;refine⟨?_,by unfold Un;rw[hs];rfl,by unfold Vh;rw[hs];rfl⟩;unfold Nr;rw[hs];simp only[ha,hc,Bool.and_true];simp[hb]
end
end
section
theorem Bwx{mn:Bool}{X:Frame->List Frame->Ro->Own->Cy->Prop}{Y:Ro}{Z:Own}{r:Nat}{ln:Int}{t:List UInt8}{v1 v2 v3:Value}(hln:I64 ln)(hb:t.length<=60000):CallsP (CX mn X) 98 #[pV r,.string (bs t)] Y ((r,oC #[iV ln,v1,v2,v3] 143)::Z) (fun w Y' Z'=>Ro.le Y Y'/\Z'=(r,oC #[.int .i64 ln,.string (bs (Un t)),iV (Vh t),v3] 143)::Z/\Nr t=true/\w = .tuple #[]) (fun x Y' Z'=>Ro.le Y Y'/\Z'=(r,oC #[.int .i64 ln,v1,v2,v3] 143)::Z/\Nr t=false/\x=Xj ln 3):=by
 obtain⟨L,hL⟩:∃L,L=bw (Fl t):=⟨_,rfl⟩;refine Zq (n:=46) (args:=[pV r,.string (bs t)]) [] Tryz.func98 rfl rfl rfl rfl fun Q b7 a8=>?_;refine qA fun K1 k1=>Au (.string (bs t)) (Arv (Cm (vs:=[.string (bs t),.string (ByteArray.mk #[32])]) (Bks (p:=t) hL hb) Tryz.func130 rfl rfl ⟨rfl,rfl,trivial⟩ fun v2 bq bt a3=>?_));obtain⟨E,J,d⟩:=a3;replace J:=J.symm;subst J;refine Av v2 (qB k1 fun K3 k3=>Au (pV r) (Au v2 ?_));have g4:=Val.len d;refine l_v (Ci (el:=9) Ced rfl d) (l_v (Ek rfl rfl) (Au (.bool ((L.length:Int)==3)) (Cn ((L.length:Int)==3) (fun c=>?_) (fun c=>?_))))
 ·have q5:=Jr c;refine l_M v2 (qF c) rfl ?_;obtain⟨g,G⟩:=Ed (xs:=L) (i:=0) (by omega);have bb:=Auz hL G;refine Ak (qF c) (Ch 0 Ced ty9 rfl d (q:=0) rfl rfl G) fun v6 P=>?_;have g8:g.data.toList.length<2^60:=At.slen P;refine Aa (qF c) (Pk ty9 rfl P) (Aa (qF c) (Aos (p:=g.data.toList) (q:=bZ3) rfl rfl) (l_v (Bt rfl c (v:=.bool (g.data.toList==bZ3)) rfl) (Au (.bool (g.data.toList==bZ3)) (Cn (g.data.toList==bZ3) (fun b=>?_) (fun b=>?_)))))
  ·have q9:=Jr b;refine l_M v2 (qF b) rfl ?_;obtain⟨e,h⟩:=Ed (xs:=L) (i:=1) (by omega);have b8:=Auz hL h;refine Ak (qF b) (Ch 1 Ced ty9 rfl d (q:=1) rfl rfl h) fun bd M=>?_;have b0:e.data.toList.length<2^60:=At.slen M;refine Aa (qF b) (Pk ty9 rfl M) (Aa (qF b) (Azv (p:=e.data.toList) (q:=([]:List UInt8)) rfl rfl) (l_v (Bt rfl b (v:=.bool (e.data.toList != ([]:List UInt8))) rfl) (Jc rfl (Lo (vs:=[pV r,.bool (e.data.toList != ([]:List UInt8)),iV 3]) (Pr (r:=r) (ln:=ln) (ok:=e.data.toList != ([]:List UInt8)) (f:=3) hln) Ces rfl rfl ⟨rfl,rfl,rfl,trivial⟩ (fun bg ao au a1=>?_) fun bl ao au ai=>⟨rfl,?_⟩))));rotate_left
   ·obtain⟨k,z,ZQ,a9⟩:=ai;subst k z;exact⟨E,rfl,Btc hL (by omega) h (by simpa using ZQ),a9⟩
   obtain⟨k,z,K,ad⟩:=a1;replace k:=k.symm;replace z:=z.symm;subst k z ad;have bc:=Ls K;refine qB k3 fun ay am=>Au v2 ?_;obtain⟨a,F⟩:=Ed (xs:=L) (i:=2) (by omega);have ba:=Auz hL F;refine Arw (Ch 2 Ced ty9 rfl d (q:=2) rfl rfl F) fun be N=>?_;have b1:a.data.toList.length<2^60:=At.slen N;refine l_v (Pk ty9 rfl N) (Arv (Cm (vs:=[.string a]) (Bgy (s:=a.data.toList) (by omega)) Tryz.func144 rfl rfl ⟨rfl,trivial⟩ fun bh bp br a2=>?_));obtain⟨I,H,ae⟩:=a2;replace H:=H.symm;subst H ae;replace d:=Val.mono I d;have b6:=Bfb (s:=a.data.toList);refine Au (.tuple #[iV (Yy a.data.toList),.bool (Qa a.data.toList)]) (l_v (Bk (vs:=#[iV (Yy a.data.toList),.bool (Qa a.data.toList)]) rfl (v:=iV (Yy a.data.toList)) rfl) (l_v (Bk (vs:=#[iV (Yy a.data.toList),.bool (Qa a.data.toList)]) rfl (v:=.bool (Qa a.data.toList)) rfl) (Av (iV (Yy a.data.toList)) (Av (.bool (Qa a.data.toList)) (qB am fun az an=>Au (pV r) (Au (.bool (Qa a.data.toList)) (Jc rfl (Lo (vs:=[pV r,.bool (Qa a.data.toList),iV 3]) (Pr (r:=r) (ln:=ln) (ok:=Qa a.data.toList) (f:=3) hln) Ces rfl rfl ⟨rfl,rfl,rfl,trivial⟩ (fun bi ap av a4=>?_) fun bm ap av aj=>⟨rfl,?_⟩))))))));rotate_left
   ·obtain⟨m,B,a0,aa⟩:=aj;subst m B;exact⟨(Cgj E I),rfl,Btd hL (by omega) F (by simpa using a0),aa⟩
   obtain⟨m,B,R,af⟩:=a4;replace m:=m.symm;replace B:=B.symm;subst m B af;refine l_k an (qC (Au (pV r) (Au (pV r) (Au v2 (Arw (Ch 1 Ced ty9 rfl d (q:=1) rfl rfl h) fun bf O=>?_)))));have b2:e.data.toList.length<2^60:=At.slen O;refine l_v (Pk ty9 rfl O) (Au (iV (Yy a.data.toList)) (l_v (Ck rfl) (l_v (Cb Cek rfl rfl ty9.2 (by decide) rfl rfl) (Cx rfl (Cz (j:=0) (v:=.string e) ty9.2 rfl rfl rfl rfl nL ?_)))));refine l_v (Ck rfl) (l_v (Cb Cek rfl rfl ty3.2 (by decide) rfl rfl) (Cx rfl (Cz (j:=0) (v:=iV (Yy a.data.toList)) ty3.2 rfl rfl rfl rfl nL ?_)));apply Ac;refine a8 _ _ _ ?_;obtain⟨V,W,YQ⟩:=Bxq hL (by omega) G h F (by simpa[Azn]using b) (by simpa using K) R;rw[V,W,YQ];exact⟨(Cgj E I),rfl,rfl,rfl⟩
  have q9:=Jq b;refine Ap (gN rfl b) (Ap (gN rfl b) (Ap (gN rfl b) (Ap (gN rfl b) (l_v (Bn rfl b (v:=bF) rfl) (Jc rfl (Lo (vs:=[pV r,bF,iV 3]) (Pr (r:=r) (ln:=ln) (ok:=false) (f:=3) hln) Ces rfl rfl ⟨rfl,rfl,rfl,trivial⟩ (fun bj aq aw a5=>?_) fun bn aq aw ak=>⟨rfl,?_⟩))))));rotate_left
  ·obtain⟨u,C,b3,ab⟩:=ak;subst u C;exact⟨E,rfl,Btb hL (by omega) G (by simpa[Azn]using b),ab⟩
  obtain⟨u,C,T,ag⟩:=a5;replace u:=u.symm;replace C:=C.symm;subst u C ag;exact absurd T (by decide)
 have q5:=Jq c;refine Ap (gN rfl c) (Ap (gN rfl c) (Ap (gN rfl c) (Ap (gN rfl c) (l_v (Bn rfl c (v:=bF) rfl) (Au bF (Ap (gN rfl rfl) (Ap (gN rfl rfl) (Ap (gN rfl rfl) (Ap (gN rfl rfl) (l_v (Bn rfl rfl (v:=bF) rfl) (Jc rfl (Lo (vs:=[pV r,bF,iV 3]) (Pr (r:=r) (ln:=ln) (ok:=false) (f:=3) hln) Ces rfl rfl ⟨rfl,rfl,rfl,trivial⟩ (fun bk ar ax a6=>?_) fun bo ar ax al=>⟨rfl,?_⟩))))))))))));rotate_left
 ·obtain⟨y,D,b4,ac⟩:=al;subst y D;exact⟨E,rfl,Bta hL (by omega),ac⟩
 obtain⟨y,D,U,ah⟩:=a6;replace y:=y.symm;replace D:=D.symm;subst y D ah;exact absurd U (by decide)
end
section
def rdT(s:List UInt8):List UInt8:=List.drop 0 (List.take ((Cf s).length-4) (Cf s))
def rdC(s:List UInt8):List UInt8:=List.drop ((Cf s).length-4) (List.take (Cf s).length (Cf s))
def Um(s:List UInt8):Bool:=Uf s&&Nq (Cf s)&&decide (4<=(Cf s).length)
def rdF(n:Nat)(s:List UInt8):Int :=
 if Um s=false then 3 else if Ps (rdC s)=false then 3 else if n=0/\Nr (rdT s)=false then 3 else if 200<(rdT s).length then 3
 else if ckR (rdC s)≠Jp n (rdT s) then 9 else if n≠0 then 0 else if Hg (bs (Un (rdT s)))=false then 4 else if inR (Vh (rdT s)) 0 90=false then 2 else 0
def rdS(n:Nat)(kd:List UInt8)(mn:Int)(xs:List ByteArray)(s:List UInt8):List UInt8×Int×List ByteArray:=if n=0 then (Un (rdT s),Vh (rdT s),xs) else (kd,mn,xs++[bs (rdT s)])
variable{n:Nat}{s:List UInt8}
theorem Bax(h:Uf s=false∨Nq (Cf s)=false∨(Cf s).length<4):Um s=false:=by
 unfold Um;rcases h with h|h|h
 ·rw[h];rfl
 ·rw[h,Axr];rfl
 ·rw[lZ6 (by omega),Axr]
theorem Bxp(h1:Uf s=true)(h2:Nq (Cf s)=true)(h3:4<=(Cf s).length):Um s=true:=by unfold Um;rw[h1,h2,Mm h3];rfl
theorem Bzf(h:Um s=false):rdF n s=3:=by unfold rdF;rw[if_pos h]
theorem Cdk(hA:Um s=true)(h:Ps (rdC s)=false):rdF n s=3:=by unfold rdF;rw[if_neg (by rw[hA];simp),if_pos h]
theorem Cdl(hA:Um s=true)(hB:Ps (rdC s)=true)(hn:n=0)(h:Nr (rdT s)=false):rdF n s=3:=by unfold rdF;rw[if_neg (by rw[hA];simp),if_neg (by rw[hB];simp),if_pos ⟨hn,h⟩]
theorem Biu(hC:n=0->Nr (rdT s)=true):¬(n=0/\Nr (rdT s)=false):=fun⟨b,a⟩=>by rw[hC b]at a;cases a
theorem Ccg(hA:Um s=true)(hB:Ps (rdC s)=true)(hC:n=0->Nr (rdT s)=true)(h:200<(rdT s).length):rdF n s=3:=by unfold rdF;rw[if_neg (by rw[hA];simp),if_neg (by rw[hB];simp),if_neg (Biu hC),if_pos h]
theorem Cch(hA:Um s=true)(hB:Ps (rdC s)=true)(hC:n=0->Nr (rdT s)=true)(hD:(rdT s).length<=200)(h:ckR (rdC s)≠Jp n (rdT s)):rdF n s=9:=by unfold rdF;rw[if_neg (by rw[hA];simp),if_neg (by rw[hB];simp),if_neg (Biu hC),if_neg (by omega),if_pos h]
theorem Cdj(hA:Um s=true)(hB:Ps (rdC s)=true)(hC:n=0->Nr (rdT s)=true)(hD:(rdT s).length<=200)(hE:ckR (rdC s)=Jp n (rdT s))(hn:n≠0):rdF n s=0:=by unfold rdF;rw[if_neg (by rw[hA];simp),if_neg (by rw[hB];simp),if_neg (Biu hC),if_neg (by omega),if_neg (by simp[hE]),if_pos hn]
theorem Cdm(hA:Um s=true)(hB:Ps (rdC s)=true)(hC:n=0->Nr (rdT s)=true)(hD:(rdT s).length<=200)(hE:ckR (rdC s)=Jp n (rdT s))(hn:n=0)(h:Hg (bs (Un (rdT s)))=false):rdF n s=4:=by unfold rdF;rw[if_neg (by rw[hA];simp),if_neg (by rw[hB];simp),if_neg (Biu hC),if_neg (by omega),if_neg (by simp[hE]),if_neg (by omega),if_pos h]
theorem Cdn(hA:Um s=true)(hB:Ps (rdC s)=true)(hC:n=0->Nr (rdT s)=true)(hD:(rdT s).length<=200)(hE:ckR (rdC s)=Jp n (rdT s))(hn:n=0)(hk:Hg (bs (Un (rdT s)))=true)(h:inR (Vh (rdT s)) 0 90=false):rdF n s=2:=by unfold rdF;rw[if_neg (by rw[hA];simp),if_neg (by rw[hB];simp),if_neg (Biu hC),if_neg (by omega),if_neg (by simp[hE]),if_neg (by omega),if_neg (by rw[hk];simp),if_pos h]
theorem Cdo(hA:Um s=true)(hB:Ps (rdC s)=true)(hC:n=0->Nr (rdT s)=true)(hD:(rdT s).length<=200)(hE:ckR (rdC s)=Jp n (rdT s))(hn:n=0)(hk:Hg (bs (Un (rdT s)))=true)(h:inR (Vh (rdT s)) 0 90=true):rdF n s=0:=by unfold rdF;rw[if_neg (by rw[hA];simp),if_neg (by rw[hB];simp),if_neg (Biu hC),if_neg (by omega),if_neg (by simp[hE]),if_neg (by omega),if_neg (by rw[hk];simp),if_neg (by rw[h];simp)]
theorem Bum(h:4<=(Cf s).length):(rdC s).length=4:=by unfold rdC;rw[Lp,Ha];omega
theorem Aum:(rdT s).length<=(Cf s).length:=by unfold rdT;rw[Lp,Ha];omega
theorem Yh:(Cf s).length<=s.length:=by unfold Cf;split<;>simp
theorem Bme{t:List UInt8}:(Un t).length<=t.length:=by
 unfold Un;cases h:(Fl t)[1]? with
 | none=>rw[Wx,h];simp
 | some w =>
  rw[Wx,h];have:=Aaw (lZ5 h);simpa using this
theorem Axa{t:List UInt8}:I64 (Vh t):=by have:=Bfb (s:=(Fl t).getD 2 []);unfold Vh I64;omega
end
section
theorem Va{r:Nat}{o:Obj}{vb x:Value}{xs:List ByteArray}{gb Z:Own}{Y Y':Ro}{ln:Int}{n:Nat}{s:List UInt8}{f:Int}(hF:rdF n s=f)(hf:f≠0)(hle:Ro.le Y Y')(hg:Grow Y' 9 vb xs gb)(hx:x=Xj ln f):Ro.le Y Y'/\(∃g',ObjsO g'/\(r,Res.obj o)::(gb++Z)=g'++Z)/\rdF n s≠0/\x=Xj ln (rdF n s):=by
 subst hF;refine⟨hle,⟨(r,Res.obj o)::gb,fun y hy=>?_,by simp⟩,hf,hx⟩;rcases lZ9.1 hy with rfl|hy
 ·exact⟨_,_,rfl⟩
 ·obtain⟨k,b⟩:=y;obtain⟨z,hz⟩:=hg.1 _ hy;exact⟨k,z,by rw[<-hz]⟩
theorem Bwy{mn:Bool}{X:Frame->List Frame->Ro->Own->Cy->Prop}{Y:Ro}{Z:Own}{r n:Nat}{kd s:List UInt8}{my:Int}{xs:List ByteArray}{vb:Value}{gb:Own}(hb:Grow Y 9 vb xs gb)(hs:s.length<=60000)(hn:n<=59999)(hx:xs.length<=60000)(hm:I64 my):CallsP (CX mn X) 66 #[pV r,.string (bs s)] Y ((r,oC #[iV n,.string (bs kd),iV my,vb] 143)::(gb++Z)) (fun w Y' Z'=>Ro.le Y Y'/\∃(kd':List UInt8) (mn':Int) (xs':List ByteArray) (v':Value) (gr:Own),Z'=(r,oC #[iV (n+1:Nat),.string (bs kd'),.int .i64 mn',v'] 143)::(gr++Z)/\Grow Y' 9 v' xs' gr/\rdS n kd my xs s=(kd',mn',xs')/\rdF n s=0/\w = .tuple #[]) (fun x Y' Z'=>Ro.le Y Y'/\(∃g',ObjsO g'/\Z'=g'++Z)/\rdF n s≠0/\x=Xj ((n+1:Nat):Int) (rdF n s)):=by
 have hln:I64 (((n+1:Nat):Int)):=by unfold I64;omega
 have hcl:=Yh (s:=s);refine Zq (n:=99) (args:=[pV r,.string (bs s)]) [] Tryz.func66 rfl rfl rfl rfl fun Q b1 b0=>?_;refine qA fun K1 k1=>Au (pV r) (l_v (Ck rfl) (l_v (Cb Cek rfl rfl ty3.2 (by decide) rfl rfl) (Arv (Dt (i:=0) (v:=iV n) ty3.1 rfl rfl rfl ?_))));refine l_v (Ek rfl rfl) (Av (.bool ((n:Int)==0)) (qB k1 fun K2 k2=>Au (pV r) (l_v (Ck rfl) (l_v (Cb Cek rfl rfl ty3.2 (by decide) rfl rfl) (Arv (Dt (i:=0) (v:=iV n) ty3.1 rfl rfl rfl ?_))))));refine l_v (Br rfl rfl (z:=(((n+1):Nat):Int)) wrE) (l_v (Ck rfl) (l_v (Cb Cek rfl rfl ty3.2 (by decide) rfl rfl) (Cx rfl (Cz (j:=0) (v:=iV ((n+1):Nat)) ty3.2 rfl rfl rfl rfl nL ?_))));refine qB k2 fun K3 k3=>Au (.string (bs s)) (Arv (Bm (vs:=[.string (bs s),.string (ByteArray.mk #[10])]) (v:=.tuple #[.string (bs (Cf s)),.bool (Uf s)]) (Bkj (p:=s) hs) Tryz.func96 rfl rfl ⟨rfl,rfl,trivial⟩ ?_));refine Au (.tuple #[.string (bs (Cf s)),.bool (Uf s)]) (l_v (Bk (vs:=#[.string (bs (Cf s)),.bool (Uf s)]) rfl (v:=.string (bs (Cf s))) rfl) (l_v (Bk (vs:=#[.string (bs (Cf s)),.bool (Uf s)]) rfl (v:=.bool (Uf s)) rfl) (Av (.string (bs (Cf s))) (Av (.bool (Uf s)) (qB k3 fun K4 k4=>Au (.string (bs (Cf s))) (l_v (Gh Ceb (p:=Cf s) rfl) (l_v (Ou (p:=((((Cf s)).length:Nat):Int)) (q:=4) rfl rfl (z:=((((Cf s)).length:Nat):Int)-4) wrE) (Av (iV (((((Cf s)).length:Nat):Int)-4)) (qB k4 fun K5 k5=>Au (pV r) (Au (.bool (Uf s)) (Au (.bool (Uf s)) (Cn (Uf s) (fun b=>?_) (fun b=>?_)))))))))))))
 ·refine Aa (qF b) (Ah (v:=.string (bs (Cf s))) rfl) (Ae (qF b) (Bm (vs:=[.string (bs (Cf s))]) (v:=.bool (Nq (Cf s))) (Bdg (s:=Cf s) (Tk Yh hs)) Tryz.func62 rfl rfl ⟨rfl,trivial⟩ ?_));refine l_v (Bt rfl b (v:=.bool (Nq (Cf s))) rfl) (Au (.bool (Nq (Cf s))) (Cn (Nq (Cf s)) (fun c=>?_) (fun c=>?_)))
  ·refine Aa (qF c) (Ah (v:=iV (((((Cf s)).length:Nat):Int)-4)) rfl) (Aa (qF c) (Uy (p:=((((Cf s)).length:Nat):Int)-4) (q:=0) rfl rfl) (l_v (Bt rfl c (v:=.bool (decide ((((((Cf s)).length:Nat):Int)-4)>=0))) rfl) (Jc rfl (Lo (vs:=[pV r,.bool (decide ((((((Cf s)).length:Nat):Int)-4)>=0)),iV 3]) (Pr (r:=r) (ln:=(((n+1):Nat):Int)) (ok:=decide ((((((Cf s)).length:Nat):Int)-4)>=0)) (f:=3) hln) Ces rfl rfl ⟨rfl,rfl,rfl,trivial⟩ (fun w8 cu d5 az=>?_) fun x8 cu d5 c4=>⟨rfl,?_⟩))));rotate_left
   ·obtain⟨E,O,am,bf⟩:=c4;replace E:=E.symm;replace O:=O.symm;subst E O;exact Va (Bzf (Bax (.inr (.inr (by have:=lZ1 am;omega))))) (by decide) Cgi hb bf
   obtain⟨E,O,b8,bq⟩:=az;replace E:=E.symm;replace O:=O.symm;subst E O bq;have a1:4<=(Cf s).length:=by have:=lZ2 b8;omega
   have hA:Um s=true:=Bxp b c a1;have a2:(((Cf s).length:Nat):Int)-4=(((Cf s).length-4:Nat):Int):=by omega
   have q8:=lZ2 b8;refine qB k5 fun K9 k9=>Au (.string (bs (Cf s))) (l_v (Ah (v:=iV ((((Cf s).length-4):Nat):Int)) (congrArg (Value.int .i64) a2)) (l_v (Zj (p:=Cf s) (l:=(Cf s).length-4) (h:=((Cf s)).length) Ceb rfl (.inr ⟨_,rfl,rfl⟩) (.inl ⟨rfl,rfl⟩) (by omega) (by omega)) (Arv (Bm (vs:=[.string (bs ((((Cf s)).take (((Cf s)).length)).drop ((Cf s).length-4)))]) (v:=.tuple #[iV (((ckR (rdC s)):Nat):Int),.bool (Ps (rdC s))]) (Bku (s:=rdC s) (Bum a1)) Tryz.func97 rfl rfl ⟨rfl,trivial⟩ ?_))));refine Au (.tuple #[iV (((ckR (rdC s)):Nat):Int),.bool (Ps (rdC s))]) (l_v (Bk (vs:=#[iV (((ckR (rdC s)):Nat):Int),.bool (Ps (rdC s))]) rfl (v:=iV (((ckR (rdC s)):Nat):Int)) rfl) (l_v (Bk (vs:=#[iV (((ckR (rdC s)):Nat):Int),.bool (Ps (rdC s))]) rfl (v:=.bool (Ps (rdC s))) rfl) (Av (iV (((ckR (rdC s)):Nat):Int)) (Av (.bool (Ps (rdC s))) (qB k9 fun d6 c5=>Au (.string (bs (Cf s))) (l_v (Ah (v:=iV ((((Cf s).length-4):Nat):Int)) (congrArg (Value.int .i64) a2)) (l_v (Zj (p:=Cf s) (l:=0) (h:=(Cf s).length-4) Ceb rfl (.inl ⟨rfl,rfl⟩) (.inr ⟨_,rfl,rfl⟩) (by omega) (by omega)) (Av (.string (bs ((((Cf s)).take ((Cf s).length-4)).drop 0))) (qB c5 fun d7 c6=>Au (pV r) (Au (.bool (Ps (rdC s))) (Jc rfl (Lo (vs:=[pV r,.bool (Ps (rdC s)),iV 3]) (Pr (r:=r) (ln:=(((n+1):Nat):Int)) (ok:=Ps (rdC s)) (f:=3) hln) Ces rfl rfl ⟨rfl,rfl,rfl,trivial⟩ (fun du ck cv an=>?_) fun e4 ck cv br=>⟨rfl,?_⟩))))))))))));rotate_left
   ·obtain⟨e,F,ae,b2⟩:=br;replace e:=e.symm;replace F:=F.symm;subst e F;exact Va (Cdk hA ae) (by decide) Cgi hb b2
   obtain⟨e,F,a8,bg⟩:=an;replace e:=e.symm;replace F:=F.symm;subst e F bg;have hB:=a8;refine qE c6 fun d8 d9 a3 c7=>Au (.bool ((n:Int)==0)) (l_k c7 (Bp (t:=(n:Int)==0) rfl (fun d=>?_) (fun d=>?_)))
   ·have a:n=0:=by have:=d;simpa using this
    have ch:=Jr d;refine qC (Au (pV r) (Au (.string (bs ((((Cf s)).take ((Cf s).length-4)).drop 0))) (Jc rfl (Lo (vs:=[pV r,.string (bs ((((Cf s)).take ((Cf s).length-4)).drop 0))]) (Bwx (r:=r) (ln:=(((n+1):Nat):Int)) (t:=rdT s) hln (Tk Aum (Tk Yh hs))) Tryz.func98 rfl rfl ⟨rfl,rfl,trivial⟩ (fun dv cl cw ao=>?_) fun e5 cl cw bt=>⟨rfl,?_⟩))));rotate_left
    ·obtain⟨a0,R,af,b3⟩:=bt;subst R;exact Va (Cdl hA hB a af) (by decide) (Cgj Cgi a0) (hb.mono a0) b3
    obtain⟨P,R,ad,bh⟩:=ao;replace R:=R.symm;subst R bh;replace hb:=Grow.mono P hb;have hC:n=0->Nr (rdT s)=true:=fun _=>ad;have hnb:=Axa (t:=rdT s);have hkl:=Bme (t:=rdT s);refine qB a3 fun da c8=>Au (pV r) (Au (.string (bs ((((Cf s)).take ((Cf s).length-4)).drop 0))) (l_v (Gh Ceb (p:=(((Cf s)).take ((Cf s).length-4)).drop 0) rfl) (l_v (Uz rfl rfl) (Jc rfl (Lo (vs:=[pV r,.bool (decide ((((((((Cf s)).take ((Cf s).length-4)).drop 0)).length:Nat):Int)<=200)),iV 3]) (Pr (r:=r) (ln:=(((n+1):Nat):Int)) (ok:=decide ((((((((Cf s)).take ((Cf s).length-4)).drop 0)).length:Nat):Int)<=200)) (f:=3) hln) Ces rfl rfl ⟨rfl,rfl,rfl,trivial⟩ (fun dw cm cx ap=>?_) fun e6 cm cx bu=>⟨rfl,?_⟩)))));rotate_left
    ·obtain⟨g,G,ag,b4⟩:=bu;replace g:=g.symm;replace G:=G.symm;subst g G;exact Va (Ccg hA hB hC (by have:=lZ1 ag;exact Int.ofNat_lt.1 (Int.not_le.1 this))) (by decide) P hb b4
    obtain⟨g,G,U,bi⟩:=ap;replace g:=g.symm;replace G:=G.symm;subst g G bi;have hD:(rdT s).length<=200:=by have:=lZ2 U;exact Int.ofNat_le.1 this
    have dp:=lZ2 U;refine qB c8 fun db c9=>Au (pV r) (Au (iV (((ckR (rdC s)):Nat):Int)) (Au (pV r) (l_v (Ck rfl) (l_v (Cb Cek rfl rfl ty3.2 (by decide) rfl rfl) (Arv (Dt (i:=0) (v:=iV ((n+1):Nat)) ty3.1 rfl rfl rfl ?_))))));refine l_v (Ou (p:=(((n+1):Nat):Int)) (q:=1) rfl rfl (z:=((((n+1)-1):Nat):Int)) (Bo (by omega) (by omega) (by omega))) (Au (.string (bs ((((Cf s)).take ((Cf s).length-4)).drop 0))) (Arv (Bm (vs:=[iV ((((n+1)-1):Nat):Int),.string (bs ((((Cf s)).take ((Cf s).length-4)).drop 0))]) (v:=iV (((Jp ((n+1)-1) (rdT s)):Nat):Int)) (Akf (n:=(n+1)-1) (s:=rdT s) (by omega) (Tk Aum (Tk Yh hs))) Cgf rfl rfl ⟨rfl,rfl,trivial⟩ ?_)));refine l_v (Ek rfl rfl) (Jc rfl (Lo (vs:=[pV r,.bool ((((ckR (rdC s)):Nat):Int)==(((Jp ((n+1)-1) (rdT s)):Nat):Int)),iV 9]) (Pr (r:=r) (ln:=(((n+1):Nat):Int)) (ok:=(((ckR (rdC s)):Nat):Int)==(((Jp ((n+1)-1) (rdT s)):Nat):Int)) (f:=9) hln) Ces rfl rfl ⟨rfl,rfl,rfl,trivial⟩ (fun dx cn cy aq=>?_) fun e7 cn cy bv=>⟨rfl,?_⟩));rotate_left
    ·obtain⟨k,H,ah,b5⟩:=bv;replace k:=k.symm;replace H:=H.symm;subst k H;exact Va (Cch hA hB hC hD (by have:=ah;simp at this;omega)) (by decide) P hb b5
    obtain⟨k,H,V,bj⟩:=aq;replace k:=k.symm;replace H:=H.symm;subst k H bj;have hE:ckR (rdC s)=Jp n (rdT s):=by have:=V;simp at this;omega
    have dq:=Jr V;refine qE c9 fun dc dd dn ca=>Au (.bool ((n:Int)==0)) (l_k ca (Co rfl d (qA fun de cb=>Au (pV r) (Au (pV r) (l_v (Ck rfl) (l_v (Cb Cek rfl rfl ty9.2 (by decide) rfl rfl) (Arv (Dt (i:=0) (v:=.string (bs (Un (rdT s)))) ty9.1 rfl rfl rfl ?_))))))));refine Arv (Bm (vs:=[.string (bs (Un (rdT s)))]) (v:=.bool (Hg (bs (Un (rdT s))))) (Adb (by first|omega|(rw[Jo];omega))) Cfr rfl rfl ⟨rfl,trivial⟩ ?_);refine Jc rfl (Lo (vs:=[pV r,.bool (Hg (bs (Un (rdT s)))),iV 4]) (Pr (r:=r) (ln:=(((n+1):Nat):Int)) (ok:=Hg (bs (Un (rdT s)))) (f:=4) hln) Ces rfl rfl ⟨rfl,rfl,rfl,trivial⟩ (fun dy co cz ar=>?_) fun e8 co cz bx=>⟨rfl,?_⟩);rotate_left
    ·obtain⟨m,I,ai,b9⟩:=bx;replace m:=m.symm;replace I:=I.symm;subst m I;exact Va (Cdm hA hB hC hD hE a ai) (by decide) P hb b9
    obtain⟨m,I,a9,bk⟩:=ar;replace m:=m.symm;replace I:=I.symm;subst m I bk;have hk:=a9;refine qB cb fun df cc=>Au (pV r) (Au (pV r) (l_v (Ck rfl) (l_v (Cb Cek rfl rfl ty3.2 (by decide) rfl rfl) (Arv (Dt (i:=0) (v:=iV (Vh (rdT s))) ty3.1 rfl rfl rfl ?_)))));refine Arv (Bm (vs:=[iV (Vh (rdT s)),iV 0,iV 90]) (v:=.bool (inR (Vh (rdT s)) 0 90)) Pq Cff rfl rfl ⟨rfl,rfl,rfl,trivial⟩ ?_);refine Jc rfl (Lo (vs:=[pV r,.bool (inR (Vh (rdT s)) 0 90),iV 2]) (Pr (r:=r) (ln:=(((n+1):Nat):Int)) (ok:=inR (Vh (rdT s)) 0 90) (f:=2) hln) Ces rfl rfl ⟨rfl,rfl,rfl,trivial⟩ (fun dz cp d0 au=>?_) fun e9 cp d0 bz=>⟨rfl,?_⟩);rotate_left
    ·obtain⟨u,J,aj,ba⟩:=bz;replace u:=u.symm;replace J:=J.symm;subst u J;exact Va (Cdn hA hB hC hD hE a hk aj) (by decide) P hb ba
    obtain⟨u,J,W,bl⟩:=au;replace u:=u.symm;replace J:=J.symm;subst u J bl;have dr:=Fz.1 W;refine l_k cc (Aq (b1 _ _ _ ⟨P,_,_,_,_,_,rfl,hb,?_,Cdo hA hB hC hD hE a hk W,rfl⟩));unfold rdS;first|(rw[if_pos a];done)|(rw[if_neg a];rfl)
   have a:n≠0:=by have:=d;simpa using this
   have hC:n=0->Nr (rdT s)=true:=fun h=>absurd h a;have ch:=Jq d;refine Al (kk a3 ?_);refine qA fun dg cd=>Au (pV r) (Au (.string (bs ((((Cf s)).take ((Cf s).length-4)).drop 0))) (l_v (Gh Ceb (p:=(((Cf s)).take ((Cf s).length-4)).drop 0) rfl) (l_v (Uz rfl rfl) (Jc rfl (Lo (vs:=[pV r,.bool (decide ((((((((Cf s)).take ((Cf s).length-4)).drop 0)).length:Nat):Int)<=200)),iV 3]) (Pr (r:=r) (ln:=(((n+1):Nat):Int)) (ok:=decide ((((((((Cf s)).take ((Cf s).length-4)).drop 0)).length:Nat):Int)<=200)) (f:=3) hln) Ces rfl rfl ⟨rfl,rfl,rfl,trivial⟩ (fun e0 cq d1 av=>?_) fun ea cq d1 c0=>⟨rfl,?_⟩)))));rotate_left
   ·obtain⟨y,K,ak,bb⟩:=c0;replace y:=y.symm;replace K:=K.symm;subst y K;exact Va (Ccg hA hB hC (by have:=lZ1 ak;exact Int.ofNat_lt.1 (Int.not_le.1 this))) (by decide) Cgi hb bb
   obtain⟨y,K,YQ,bm⟩:=av;replace y:=y.symm;replace K:=K.symm;subst y K bm;have hD:(rdT s).length<=200:=by have:=lZ2 YQ;exact Int.ofNat_le.1 this
   have ds:=lZ2 YQ;refine qB cd fun dh ce=>Au (pV r) (Au (iV (((ckR (rdC s)):Nat):Int)) (Au (pV r) (l_v (Ck rfl) (l_v (Cb Cek rfl rfl ty3.2 (by decide) rfl rfl) (Arv (Dt (i:=0) (v:=iV ((n+1):Nat)) ty3.1 rfl rfl rfl ?_))))));refine l_v (Ou (p:=(((n+1):Nat):Int)) (q:=1) rfl rfl (z:=((((n+1)-1):Nat):Int)) (Bo (by omega) (by omega) (by omega))) (Au (.string (bs ((((Cf s)).take ((Cf s).length-4)).drop 0))) (Arv (Bm (vs:=[iV ((((n+1)-1):Nat):Int),.string (bs ((((Cf s)).take ((Cf s).length-4)).drop 0))]) (v:=iV (((Jp ((n+1)-1) (rdT s)):Nat):Int)) (Akf (n:=(n+1)-1) (s:=rdT s) (by omega) (Tk Aum (Tk Yh hs))) Cgf rfl rfl ⟨rfl,rfl,trivial⟩ ?_)));refine l_v (Ek rfl rfl) (Jc rfl (Lo (vs:=[pV r,.bool ((((ckR (rdC s)):Nat):Int)==(((Jp ((n+1)-1) (rdT s)):Nat):Int)),iV 9]) (Pr (r:=r) (ln:=(((n+1):Nat):Int)) (ok:=(((ckR (rdC s)):Nat):Int)==(((Jp ((n+1)-1) (rdT s)):Nat):Int)) (f:=9) hln) Ces rfl rfl ⟨rfl,rfl,rfl,trivial⟩ (fun e1 cr d2 aw=>?_) fun eb cr d2 c1=>⟨rfl,?_⟩));rotate_left
   ·obtain⟨B,L,al,bc⟩:=c1;replace B:=B.symm;replace L:=L.symm;subst B L;exact Va (Cch hA hB hC hD (by have:=al;simp at this;omega)) (by decide) Cgi hb bc
   obtain⟨B,L,ZQ,bn⟩:=aw;replace B:=B.symm;replace L:=L.symm;subst B L bn;have hE:ckR (rdC s)=Jp n (rdT s):=by have:=ZQ;simp at this;omega
   have dt:=Jr ZQ;refine qE ce fun di dj cf cg=>Au (.bool ((n:Int)==0)) (l_k cg (Cg rfl d (Al (kk cf ?_))));refine qC (Au (pV r) (Au (pV r) (l_v (Ck rfl) (l_v (Cb Cek rfl rfl Hw.2 (by decide) rfl rfl) (Arv (Dt (i:=0) (v:=vb) Hw.1 rfl rfl rfl ?_))))));refine Au (.string (bs ((((Cf s)).take ((Cf s).length-4)).drop 0))) (Arv (Bi (α:=ByteArray) (xs:=[bs ((((Cf s)).take ((Cf s).length-4)).drop 0)]) (vs:=[.string (bs ((((Cf s)).take ((Cf s).length-4)).drop 0))]) Ced ty9 zr9 rfl (by decide) (Dk (os:=[.tmp 94]) ⟨rfl,trivial⟩) ⟨Bcr (l:=(((Cf s)).take ((Cf s).length-4)).drop 0) (by first|omega|(simp only[lZ4,Gk,Pc,Ha,Lp]at *;omega)),trivial⟩ rfl (by decide) fun a4 ac a7=>?_));have a6:Grow Y 9 (.slice (some ⟨a4,0,none⟩) 1 1) ([bs ((((Cf s)).take ((Cf s).length-4)).drop 0)]:List ByteArray) [(a4,oC ac.toArray 9)]:=Bs a7 rfl (by decide);refine Ca a6 fun ee a5 ci=>?_;replace hb:=Grow.mono a5 hb;refine Bj (Cgh Asc) (Arv (Gc (Z:=(r,oC #[iV ((n+1):Nat),.string (bs kd),iV my,vb] 143)::Z) (gr:=gb) (xs:=xs) (ys:=([bs ((((Cf s)).take ((Cf s).length-4)).drop 0)]:List ByteArray)) Ced Ced (Ab Cfg) rfl nL rfl rfl rfl rfl hb ci (by first|omega|(simp only[Gk,Pc];omega)) fun cj dk T=>?_));refine l_v (Ck rfl) (l_v (Cb Cek rfl rfl Hw.2 (by decide) rfl rfl) (Bj (Cgh Asd) (Cx rfl (Cz (j:=0) (v:=cj) Hw.2 rfl rfl (Grow.single T) rfl nL ?_))));apply Ac;refine b0 _ _ _ ⟨a5,_,_,_,_,_,rfl,T,?_,Cdj hA hB hC hD hE a,rfl⟩;unfold rdS;first|(rw[if_pos a];done)|(rw[if_neg a];rfl)
  refine Ap (gN rfl c) (Ap (gN rfl c) (l_v (Bn rfl c (v:=bF) rfl) (Jc rfl (Lo (vs:=[pV r,bF,iV 3]) (Pr (r:=r) (ln:=(((n+1):Nat):Int)) (ok:=false) (f:=3) hln) Ces rfl rfl ⟨rfl,rfl,rfl,trivial⟩ (fun e2 cs d3 ax=>?_) fun ec cs d3 c2=>⟨rfl,?_⟩))));rotate_left
  ·obtain⟨C,M,dl,bd⟩:=c2;replace C:=C.symm;replace M:=M.symm;subst C M;exact Va (Bzf (Bax (.inr (.inl c)))) (by decide) Cgi hb bd
  obtain⟨C,M,aa,bo⟩:=ax;replace C:=C.symm;replace M:=M.symm;subst C M bo;exact absurd aa (by decide)
 refine Ap (gN rfl b) (Ap (gN rfl b) (l_v (Bn rfl b (v:=bF) rfl) (Au bF (Ap (gN rfl rfl) (Ap (gN rfl rfl) (l_v (Bn rfl rfl (v:=bF) rfl) (Jc rfl (Lo (vs:=[pV r,bF,iV 3]) (Pr (r:=r) (ln:=(((n+1):Nat):Int)) (ok:=false) (f:=3) hln) Ces rfl rfl ⟨rfl,rfl,rfl,trivial⟩ (fun e3 ct d4 ay=>?_) fun ed ct d4 c3=>⟨rfl,?_⟩))))))));rotate_left
 ·obtain⟨D,N,dm,be⟩:=c3;replace D:=D.symm;replace N:=N.symm;subst D N;exact Va (Bzf (Bax (.inl b))) (by decide) Cgi hb be
 obtain⟨D,N,ab,bp⟩:=ay;replace D:=D.symm;replace N:=N.symm;subst D N bp;exact absurd ab (by decide)
end
section
theorem Bvg{C:Ctx}{V V':Qt}{b:FB}{n:Nat}{c:Code}{Q:Hu}{e:Env}{ds:List Deferred}{Y:Ro}{Z:Own}(h:WpP C V b n c Q e ds Y Z)(hv:∀x e ds Y Z,V x e ds Y Z->V' x e ds Y Z):WpP C V' b n c Q e ds Y Z :=
 fun tm k cs ht=>(h tm k cs ht).mono fun _ _ _ _ hs=>hs.elim .inl fun⟨a,x,tm',e',ds',i,d,g,f⟩=>.inr ⟨a,x,tm',e',ds',i,d,g,hv _ _ _ _ _ f⟩
section
variable{C:Ctx}{n:Nat}{e:Env}{Y:Ro}{Z:Own}
theorem Ayy{l:Nat}{f:FuncId}{fn:Func}{tm:Array Value}{assign body:Code}{R XP:Value->Ro->Own->Prop}(hf:C.P.funcs[f]?=some fn)(ht:EnvOf n tm e)
  (h:WpC C ⟨f,.normal,some l⟩ n assign (fun ex e1 ds1 Y1 Z1=>ex = .normal/\ds1=[]/\∃i r,Z1[i]?=some (l,.obj (.loop r))/\r.state = .ready /\
   WpP C (fun x _ ds Y2 Z2=>ds=[]/\XP x Y2 Z2) ⟨f,.normal,some l⟩ n body (fun ex _ _ Y2 Z2=>∃i2 r2,Z2[i2]?=some (l,.obj (.loop r2)) /\
    R (.bool (Pf ex).isNone) Y2 (Z2.set i2 (l,.obj (.loop {r2 with state:=if (Pf ex).isNone then .ready else .done,pending:=Pf ex})))) e1 [] Y1 (Z1.set i (l,.obj (.loop {r with state:=.busy})))) e [] Y Z) :
  RoundP C l f tm assign body Y Z R XP:=by
 intro c' cs;have e1:Frame.round l f tm assign body .normal=Fr ⟨f,.normal,some l⟩ tm [] [.code assign,.beginRound,.code body]:=rfl;rw[e1];refine(h.stops tm [.beginRound,.code body] (c'::cs) ht).bind ?_;rintro _ _ Y1 Z1 ⟨rfl,ex,d,e1,ds1,g,p,⟨rfl,rfl,i,r,hi,hr,hb⟩,c,rfl⟩;cases c;refine Lw (f:=fun (_:Unit)=>(Fr ⟨f,.normal,some l⟩ d [] [.code body],c'::cs)) (s:=Instr.beginRound l) (Q:=fun _ Z'=>Z'=Z1.set i (l,.obj (.loop {r with state:=.busy}))) (fun W u W' es a=>?_) (Ut hi hr rfl) ?_
 ·refine⟨seen C.P f es,?_,fun e he=>Lh he⟩;have m:(do (some l).elim (stuck "beginRound: no round") Instr.beginRound;pure Next.skip:Sem Next).runT C.P W #[]=(.ok Next.skip W',es):=by
   show ((Instr.beginRound l).bind fun _=>Sem.pure Next.skip).runT C.P W #[]=_;rw[Sem.runT_bind',a];rfl
  simp only[Conc.G,stepG,stepG.exec,Fr,stepG.apply,if_true,m,GStep.after];simp only[Frame.finish];rfl
 rintro u Z' rfl;refine(hb d [] (c'::cs) p).bind ?_;rintro _ _ Y2 Z2 (⟨rfl,ex,q,t,j,g,w,⟨i2,r2,k,hR⟩,c,rfl⟩|⟨rfl,x,q,_,j,g,_,rfl,rfl,hX⟩);rotate_left
 ·exact Ahk (b:=⟨f,.normal,some l⟩) hf (.stop ⟨rfl,.inr ⟨x,rfl,hX⟩⟩)
 refine Lw (f:=fun v=>(Frame.finish c' v,cs)) (s:=Instr.endRound l (Pf ex)) (Q:=fun v Z'=>R v Y2 Z') (fun W v W' es a=>?_) (Xs k hR) fun v Z' hv=>.stop ⟨rfl,.inl ⟨v,rfl,hv⟩⟩;refine⟨seen C.P f es,?_,fun e he=>Lh he⟩;cases ex with
 | normal =>
  cases c;simp only[Pf]at a;simp[Conc.G,stepG,stepG.exec,Fr,-Sem.runT_eq,a,doReturn,GStep.after]
 | exit id =>
  obtain⟨pre,hp,rfl⟩:=c;have hno:exitTo id (pre++[])=none:=by rw[Mj hp];rfl
  simp only[Pf]at a;simp only[Tf]at hno;simp[Conc.G,stepG,stepG.exec,Fr,-Sem.runT_eq,a,hno,doReturn,GStep.after]
 | ret =>
  obtain⟨pre,rfl⟩:=c;simp only[Pf]at a;simp[Conc.G,stepG,stepG.exec,Fr,-Sem.runT_eq,a,doReturn,GStep.after]
end
def Avj(C:Ctx)(l:Nat)(x:Value)(Y:Ro)(Z:Own)(R XP:Value->Ro->Own->Prop):Prop :=
 ∀ds,wpS C.P Y (Instr.yield l #[x]) Z (NextP C (fun v ds' Y' Z'=>ds'=ds/\R v Y' Z') XP ds Y)
def Bcy(f:Value)(Y9:Ro)(O:Own)(ys:List Value):Prop :=
 ∃(k:FuncId) (fn:Func) (caps:List Value),f = .func (.func k) #[] caps.toArray/\Tryz.prog.funcs[k]?=some fn/\(fn.name == "runtime.NumGoroutine")=false/\fn.body.isNone=false /\
  ∀(mn:Bool) (X:Frame->List Frame->Ro->Own->Cy->Prop) (l:Nat) (I:List Value->Ro->Own->Prop) (XP:Value->Ro->Own->Prop) (Y:Ro) (Z:Own),Ro.le Y9 Y->(∀pre Y Y' Z,Ro.le Y Y'->I pre Y Z->I pre Y' Z)->I [] Y Z ->
   (∀pre x post Y' Z' pfx,ObjsO pfx->ys=pre++x::post->Ro.le Y Y'->I pre Y' Z'->Avj (CX mn X) l x Y' (pfx++Z') (fun v Y'' Z''=>∃τ,Z''=pfx++τ/\Ro.le Y' Y''/\v = .bool true/\I (pre++[x]) Y'' τ) (fun v Y'' Z''=>Ro.le Y' Y''/\∃τ,Z''=pfx++τ/\XP v Y'' τ)) ->
   CallsP (CX mn X) k (.func (.yield l) #[] #[]::caps).toArray Y (O++Z) (fun _ Y' Z'=>Ro.le Y Y'/\I ys Y' Z') (fun v Y' Z'=>Ro.le Y Y'/\∃O' τ,ObjsO O'/\Z'=O'++τ/\XP v Y' τ)
section
variable{mn:Bool}{X:Frame->List Frame->Ro->Own->Cy->Prop}{V:Qt}{b:FB}{n:Nat}{e:Env}{ds:List Deferred}{Y:Ro}{Z:Own}{K:Value->List Deferred->Ro->Own->Prop}{X':Value->Ro->Own->Prop}{dd:Option Tmp}{x y:Operand}{v:Value}{ty:TypeId}{pos:String}{af:Array Edge}{g:Option (Nat×Bool)}
theorem Aok{l:Nat}{tys:Array TypeId}{R XP:Value->Ro->Own->Prop}(hx:Af e x = .func (.yield l) #[] #[])(hy:Af e y=v)(hY:Avj (CX mn X) l v Y Z R XP)(h:∀w Y' Z',R w Y' Z'->K w ds Y' Z')(hp:∀w Y' Z',XP w Y' Z'->X' w Y' Z') :
  wpS (CX mn X).P Y (execOp (Af e) ⟨dd,.call ⟨.value x,#[y],tys⟩,ty,pos,af,g⟩) Z (NextP (CX mn X) K X' ds Y):=by
 have b:(#[y]:Array Operand).map (Af e) = #[v]:=by simp[hy]
 show wpS Tryz.prog Y ((Deferred.ofValue (Af e x) ((#[y]:Array Operand).map (Af e))).bind _) Z _;rw[hx,b];show wpS Tryz.prog Y (Instr.yield l (#[] ++ #[v])) Z _;have a:(#[] ++ #[v]:Array Value) = #[v]:=by simp
 rw[a];exact Eu (fun nx Z' hn=>hn.mono (by rintro w ds' Y' Z' ⟨rfl,hR⟩;exact h w Y' Z' hR) hp) _ _ (hY ds)
theorem ObjsO.cat{a b:Own}(h:ObjsO a)(h':ObjsO b):ObjsO (a++b):=fun x hx=>(Hr.1 hx).elim (h x) (h' x)
theorem Ain{f:Operand}{q:Nat}{fnb:Func}{assign body:Code}{Q:Hu}{fv:Value}{O:Own}{ys:List Value}(J:List Value->Ro->Own->Prop)(XP:Value->Ro->Own->Prop)(hr:b.round=none)(hk:b.kind = .normal)(hfn:Tryz.prog.funcs[b.fn]?=some fnb)(hq:q<n)(hf:Af e f=fv)(hF:Bcy fv Y O ys)
  (hJm:∀pre Y Y' Z,Ro.le Y Y'->J pre Y Z->J pre Y' Z) (hJ:J [] Y Z)
  (hbody:∀l pre x post Y' τ,ys=pre++x::post->Ro.le Y Y'->J pre Y' τ->∀pfx:Own,ObjsO pfx ->
   WpC (CX mn X) ⟨b.fn,.normal,some l⟩ n assign (fun ex e1 ds1 Y1 Z1=>ex = .normal/\ds1=[]/\Ro.le Y' Y1/\∃τ1,Z1=pfx++τ1 /\
    ∀pfx2:Own,ObjsO pfx2->WpP (CX mn X) (fun v _ ds Y2 Z2=>ds=[]/\Ro.le Y1 Y2/\∃τ2,Z2=pfx2++τ2/\XP v Y2 τ2) ⟨b.fn,.normal,some l⟩ n body (fun ex _ _ Y2 Z2=>Ro.le Y1 Y2/\∃τ2,Z2=pfx2++τ2/\ex = .normal/\J (pre++[x]) Y2 τ2) e1 [] Y1 (pfx2++τ1)) (upd e q x) [] Y' (pfx++τ))
  (hend:∀r Y' τ,Ro.le Y Y'->J ys Y' τ->Q .normal e ({target:=.collected r,args:=#[]}::ds) Y' ((r,.obj (.deferred (some [])))::τ))
  (hpan:∀v r Y' O' τ,ObjsO O'->Ro.le Y Y'->XP v Y' τ->V v e ({target:=.collected r,args:=#[]}::ds) Y' (O'++(r,.obj (.deferred (some [])))::τ)) :
  WpP (CX mn X) V b n (.rangeFunc f #[q] assign body) Q e ds Y (O++Z):=by
 intro tm k cs ht;obtain⟨kk,fn,m,rfl,p,u,w,y⟩:=hF;refine Lw (s:=Instr.enterLoop b.fn tm #[q] assign body none)
  (f:=fun lm=>(Frame.enter Tryz.prog kk (Value.func (.yield lm.1) #[] #[]::m).toArray .normal,Fr b tm (lm.2++ds) (.inRangeFunc lm.1::k)::cs))
  (Q:=fun lm Z'=>∃r,lm.2=[{target:=.collected r,args:=#[]}]/\Z'=(lm.1,Res.obj (.loop {state:=.ready,pending:=none,fn:=b.fn,tmps:=tm,params:=#[q],assign,body,defers:=r}))::(r,.obj (.deferred (some [])))::(O++Z))
  (fun W lm W' es g=>?_) (Vj fun r l=>⟨r,rfl,rfl⟩) ?_
 ·exact Abv hr hk (by rw[ht.eval];exact hf) (P:=Tryz.prog) p u w g
 rintro⟨l,E⟩ Z' ⟨r,hm,rfl⟩;simp only at hm;subst hm
 let L:Loop:={state:=.ready,pending:=none,fn:=b.fn,tmps:=tm,params:=#[q],assign,body,defers:=r}
 have B:=y mn X l (fun pre Y' Z'=>∃τ,Z'=(l,Res.obj (.loop L))::(r,.obj (.deferred (some [])))::τ/\J pre Y' τ) (fun v Y' Z'=>∃L' τ,Z'=(l,Res.obj (.loop L'))::(r,.obj (.deferred (some [])))::τ/\XP v Y' τ) Y ((l,Res.obj (.loop L))::(r,.obj (.deferred (some [])))::Z) .refl
  (fun pre Y1 Y2 Z1 hle ⟨τ,e1,c⟩=>⟨τ,e1,hJm _ _ _ _ hle c⟩) ⟨Z,rfl,hJ⟩ (fun pre x post Y' Z' pfx hpo hys hle ⟨τ,e1,c⟩ ds'=>?_)
 ·refine .ghost (Cgh (Z':=O++((l,Res.obj (.loop L))::(r,.obj (.deferred (some [])))::Z)) ?_) ?_
  ·have C:(([(l,Res.obj (.loop L)),(r,.obj (.deferred (some [])))]:Own)++(O++Z)).Perm (O++([(l,Res.obj (.loop L)),(r,.obj (.deferred (some [])))]++Z)):=Bnl _ _ _;exact C
  refine(B (Fr b tm ([{target:=.collected r,args:=#[]}]++ds) (.inRangeFunc l::k)) cs).bind ?_;rintro _ cs' Y' Z' ⟨hcs,⟨v,rfl,hle,τ,rfl,hJ'⟩|⟨v,rfl,hle,O',τ',hO',rfl,L',τ,rfl,hX⟩⟩
  ·subst hcs;have e1:(Fr b tm ([{target:=.collected r,args:=#[]}]++ds) (.inRangeFunc l::k)).finish v=Fr b tm ([{target:=.collected r,args:=#[]}]++ds) (.endRangeFunc l::k):=rfl;rw[e1];refine Lw (s:=Instr.endLoop l) (f:=fun j=>(Fr b tm ([{target:=.collected r,args:=#[]}]++ds) ((j.map Item.code).toList++k),cs')) (Q:=fun j Z''=>j=none/\Z''=(l,Res.obj (.loop {L with state:=.exhausted}))::(r,.obj (.deferred (some [])))::τ) (fun W j W' es g=>?_) (Zz rfl ⟨rfl,rfl⟩) ?_
   ·exact⟨seen Tryz.prog b.fn es ++ #[],by simp[Conc.G,stepG,stepG.exec,Fr,-Sem.runT_eq,g,GStep.after],fun ev he=>Lh (by simpa using he)⟩
   ·rintro j Z'' ⟨rfl,rfl⟩;exact .ghost Ghost.drop (.stop (.inl ⟨rfl,.normal,tm,e,_,k,ht,hend r Y' τ hle hJ',rfl,rfl⟩))
  ·subst hcs;refine .stop (.inr ⟨rfl,v,tm,_,_,_,ht.2,Ani,?_⟩);have:=hpan v r Y' (O'++[(l,Res.obj (.loop L'))]) τ (hO'.cat Aeg) hle hX;rw[Gt]at this;exact this
 ·subst e1;rw[Asw];refine Afw (i:=pfx.length) Bab (by simp[L]) ?_;show RoundP (CX mn X) l b.fn _ assign body Y' _ _ _;have etm:((L.params.zip #[x]).foldl (fun tmps (t,a)=>tmps.setIfInBounds t a) L.tmps)=tm.setIfInBounds q x:=by simp[L]
  rw[etm];refine Ayy (fn:=fnb) hfn (ht.put hq x) ?_;refine Adw (hbody l pre x post Y' τ hys hle c (pfx++[(l,Res.obj (.loop L)),(r,.obj (.deferred (some [])))]) hpo.add) ?_;rintro ex e1 ds1 Y1 Z1 ⟨rfl,rfl,h,τ1,rfl,hb⟩;refine⟨rfl,rfl,pfx.length,L,Bab,rfl,?_⟩;rw[Bfs];have hb':=hb (pfx++[(l,Res.obj (.loop {L with state:=.busy})),(r,.obj (.deferred (some [])))]) hpo.add;refine Bvg (Adw hb' ?_) ?_
  ·rintro ex c D Y2 Z2 ⟨d,τ2,rfl,rfl,z⟩;refine⟨pfx.length,{L with state:=.busy},Bab,rfl,?_⟩;rw[Bfs,<-Asw];exact⟨_,rfl,h.trans d,rfl,τ2,rfl,z⟩
  ·rintro v _ ds Y2 Z2 ⟨rfl,d,τ2,rfl,hX⟩;refine⟨rfl,h.trans d,_,?_,{L with state:=.busy},τ2,rfl,hX⟩;rw[<-Asw]
end
end
section
theorem Bhp{t:List UInt8}{k:Nat}{Y9:Ro}(hb:t.length<=60000):Bcy (.func (.func 94) #[] #[.pointer (some ⟨k,0,none⟩)]) Y9 [(k,Res.obj (.cells #[.string (bs t)] 9 (0,0)))] ((Es [] t).map (fun l:List UInt8=>Value.string (bs l))):=by
 refine⟨_,_,[.pointer (some ⟨k,0,none⟩)],rfl,Tryz.func94,rfl,rfl,?_⟩;intro mn X l I XP Y Z hle a9 hI hy;refine Zq (n:=25) (args:=[.func (.yield l) #[] #[],.pointer (some ⟨k,0,none⟩)]) [] Tryz.func94 rfl rfl rfl rfl fun Q aa H=>?_;refine Ao ?_;refine Cc (fun mm ee dd Y' Z'=>∃(s:List UInt8) (pre:List (List UInt8)) (y:Own),(s.length)=mm/\[]=dd/\Ro.le Y Y'/\((k,Res.obj (Obj.cells #[.string (bs s)] 9 (0,0)))::y)=Z'/\ee 0=(.func (.yield l) #[] #[])/\ee 1=(.pointer (some ⟨k,0,none⟩))/\(Es [] t=pre++Es [] s)/\(s.length<=60000)/\I (pre.map (fun l:List UInt8=>Value.string (bs l))) Y' y/\True) (m:=_) ⟨t,[],Z,rfl,rfl,Cgi,rfl,rfl,rfl,rfl,hb,hI,trivial⟩ ?_;rintro m1 e1 _ ae _ ⟨s,pre,y,rfl,rfl,b,rfl,g,a,f,ab,u,_⟩;refine Ai fun K2 R=>?_;refine Ai fun K3 T=>?_;refine Ag rfl rfl ?_;refine Ae rfl (Dt (i:=0) (v:=.string (bs s)) ⟨_,Ceb,rfl⟩ a rfl rfl ?_);refine Aa rfl (Gh Ceb (p:=s) rfl) ?_;refine Aa rfl (Gl (p:=((s.length:Nat):Int)) (q:=0) rfl rfl) ?_;refine Ac ?_;apply T;refine Bp (t:=decide (((s.length:Nat):Int)>0)) rfl (fun w=>?_) (fun w=>?_)
 ·have q4:=lZ2 w;refine Al ?_;apply R;refine Ao ?_;refine Ai fun K5 U=>?_;refine Ag rfl rfl ?_;refine Aa rfl (Cp (v:=.string (ByteArray.mk #[])) rfl) ?_;refine Ac ?_;apply U;refine Ai fun K6 C=>?_;refine Ai fun K7 V=>?_;refine Ag rfl rfl ?_;refine Ae rfl (Dt (i:=0) (v:=.string (bs s)) ⟨_,Ceb,rfl⟩ a rfl rfl ?_);refine Ae rfl (Bm (vs:=[.string (bs s),.int .u8 10]) (v:=.int .i64 (Rn (10:UInt8) s)) (Bgu (p:=s) (c:=(10:UInt8))) Tryz.func95 rfl rfl ⟨rfl,rfl,trivial⟩ ?_);refine Aa rfl (Cp (v:=.int .i64 (Rn (10:UInt8) s)) rfl) ?_;refine Ac ?_;apply V;refine Ai fun K8 W=>?_;refine Ag rfl rfl ?_;refine Aa rfl (Ah (v:=.int .i64 (Rn (10:UInt8) s)) rfl) ?_;refine Aa rfl (Uy (p:=Rn (10:UInt8) s) (q:=0) rfl rfl) ?_;refine Ac ?_;apply W;refine Bp (t:=decide ((Rn (10:UInt8) s)>=0)) rfl (fun d=>?_) (fun d=>?_)
  ·obtain⟨m,B,a8,e⟩:=Bhx d;have q9:=lZ2 d;refine Ot ((k,Res.obj (Obj.cells #[.string (bs s)] 9 (0,0)))::[]) [0,1,2,3,4,5,6,7,8] (by kernel_rfl) rfl rfl ?_;refine Abd (i:=0) [o1,o0,o0,o0,o0,o0,o0,o0,o0,o0] rfl (by kernel_rfl) rfl ⟨Cgi,(by repeat first|exact Aoe|refine Anp ?_|refine Aoc ?_|refine Ano ?_|refine Aod ?_)⟩ rfl (Eo (v:=.string (bs s)) ⟨_,Ceb,rfl⟩ a mC rfl) ?_;refine Abd (i:=1) [o1,o1,o0,o0,o0,o0,o0,o0,o0,o0] rfl (by kernel_rfl) rfl ⟨Cgi,(by repeat first|exact Aoe|refine Anp ?_|refine Aoc ?_|refine Ano ?_|refine Aod ?_)⟩ rfl (Yld.o (Ah (v:=.int .i64 (m:Int)) (congrArg (Value.int .i64) B))) ?_;refine Abd (i:=2) [o1,o1,o1,o0,o0,o0,o0,o0,o0,o0] rfl (by kernel_rfl) rfl ⟨Cgi,(by repeat first|exact Aoe|refine Anp ?_|refine Aoc ?_|refine Ano ?_|refine Aod ?_)⟩ rfl (Yld.o (Br (p:=(m:Int)) (q:=1) rfl rfl (z:=(((m+1):Nat):Int)) (Bo (by first|rfl|omega|(push_cast;rfl)) (by omega) (by omega)))) ?_;refine Abd (i:=3) [o1,o1,o1,o1,o0,o0,o0,o0,o0,o0] rfl (by kernel_rfl) rfl ⟨Cgi,(by repeat first|exact Aoe|refine Anp ?_|refine Aoc ?_|refine Ano ?_|refine Aod ?_)⟩ rfl (Yld.o (Zj (p:=s) (l:=0) (h:=m+1) Ceb rfl (.inl ⟨rfl,rfl⟩) (.inr ⟨_,rfl,rfl⟩) (by first|omega|(simp only[Ha,Lp]at *;omega)) (by first|omega|(simp only[Ha,Lp]at *;omega)))) ?_;refine Abd (i:=4) [o1,o1,o1,o1,o1,o0,o0,o0,o0,o0] rfl (by kernel_rfl) rfl ⟨Cgi,(by repeat first|exact Aoe|refine Anp ?_|refine Aoc ?_|refine Ano ?_|refine Aod ?_)⟩ rfl (Eo (v:=.string (bs s)) ⟨_,Ceb,rfl⟩ a mC rfl) ?_;refine Abd (i:=5) [o1,o1,o1,o1,o1,o1,o0,o0,o0,o0] rfl (by kernel_rfl) rfl ⟨Cgi,(by repeat first|exact Aoe|refine Anp ?_|refine Aoc ?_|refine Ano ?_|refine Aod ?_)⟩ rfl (Yld.o (Ah (v:=.int .i64 (m:Int)) (congrArg (Value.int .i64) B))) ?_;refine Abd (i:=6) [o1,o1,o1,o1,o1,o1,o1,o0,o0,o0] rfl (by kernel_rfl) rfl ⟨Cgi,(by repeat first|exact Aoe|refine Anp ?_|refine Aoc ?_|refine Ano ?_|refine Aod ?_)⟩ rfl (Yld.o (Br (p:=(m:Int)) (q:=1) rfl rfl (z:=(((m+1):Nat):Int)) (Bo (by first|rfl|omega|(push_cast;rfl)) (by omega) (by omega)))) ?_;refine Abd (i:=7) [o1,o1,o1,o1,o1,o1,o1,o1,o0,o0] rfl (by kernel_rfl) rfl ⟨Cgi,(by repeat first|exact Aoe|refine Anp ?_|refine Aoc ?_|refine Ano ?_|refine Aod ?_)⟩ rfl (Yld.o (Zj (p:=s) (l:=m+1) (h:=s.length) Ceb rfl (.inr ⟨_,rfl,rfl⟩) (.inl ⟨rfl,rfl⟩) (by first|omega|(simp only[Ha,Lp]at *;omega)) (by first|omega|(simp only[Ha,Lp]at *;omega)))) ?_;refine Bby (i:=8) [o1,o1,o1,o1,o1,o1,o1,o1,o1,o0] rfl (by kernel_rfl) rfl ⟨Cgi,(by repeat first|exact Aoe|refine Anp ?_|refine Aoc ?_|refine Ano ?_|refine Aod ?_)⟩ rfl (Yld.o (Cp (v:=.string (bs ((s.take (m+1)).drop 0))) rfl)) ⟨Cgi,(by repeat first|exact Aoe|refine Anp ?_|refine Aoc ?_|refine Ano ?_|refine Aod ?_)⟩ ?_;refine Bfc (i:=9) [o1,o1,o1,o1,o1,o1,o1,o1,o1,o1] rfl (by kernel_rfl) (by kernel_rfl) rfl rfl (Cz (j:=0) (v:=.string (bs ((s.take s.length).drop (m+1)))) ⟨_,Ab Cfg,rfl⟩ a rfl rfl rfl nL ?_);refine Sr rfl ?_;apply C;refine Ai fun a6 O=>?_;refine Ag rfl rfl ?_;refine Aa rfl (Ah (v:=.func (.yield l) #[] #[]) g) ?_;refine Aa rfl (Ah (v:=.string (bs ((s.take (m+1)).drop 0))) rfl) ?_;refine Jc rfl (Aok (v:=.string (bs ((s.take (m+1)).drop 0))) rfl rfl (hy (pre.map (fun l:List UInt8=>Value.string (bs l))) (.string (bs ((s.take (m+1)).drop 0))) ((Es [] ((s.take s.length).drop (m+1))).map (fun l:List UInt8=>Value.string (bs l))) _ _ [(k,Res.obj (Obj.cells #[.string (bs ((s.take s.length).drop (m+1)))] 9 (0,0)))] Aeg (by rw[f,e,Nk,Jg]) b u) (fun ac a0 a2 F=>?_) fun x a0 a2 hx=>⟨rfl,?_⟩);rotate_left
   ·obtain⟨lp,τ,hs,hX⟩:=hx;subst hs;exact⟨b.trans lp,[(k,_)],τ,Aeg,rfl,hX⟩
   obtain⟨a4,K,YQ,M,D⟩:=F;subst K;subst M;refine Aa rfl (Iy (k:=true) rfl) ?_;refine Ac ?_;apply O;refine Cg rfl (not_t rfl) ?_;refine Al ?_;refine⟨_,?_,((s.take s.length).drop (m+1)),(pre++[(s.take (m+1)).drop 0]),a4,rfl,rfl,(Cgj b YQ),rfl,g,a,(by rw[f,e,Gt];rfl),(by simp only[Ha,Lp,Pc]at *;omega),(Yp (by rw[Nk];rfl) D),trivial⟩;simp only[Ha,Lp,Pc]at *;omega
  have e:=Bhw d (by omega);have q9:=lZ1 d;refine Ag rfl rfl ?_;refine Ae rfl (Dt (i:=0) (v:=.string (bs s)) ⟨_,Ceb,rfl⟩ a rfl rfl ?_);refine Aa rfl (Cp (v:=.string (bs s)) rfl) ?_;refine Cx rfl (Cz (j:=0) (v:=.string (ByteArray.mk #[])) ⟨_,Ab Cfg,rfl⟩ a rfl rfl rfl nL ?_);refine Ac ?_;apply C;refine Ai fun a7 P=>?_;refine Ag rfl rfl ?_;refine Aa rfl (Ah (v:=.func (.yield l) #[] #[]) g) ?_;refine Aa rfl (Ah (v:=.string (bs s)) rfl) ?_;refine Jc rfl (Aok (v:=.string (bs s)) rfl rfl (hy (pre.map (fun l:List UInt8=>Value.string (bs l))) (.string (bs s)) ((Es [] ([]:List UInt8)).map (fun l:List UInt8=>Value.string (bs l))) _ _ [(k,Res.obj (Obj.cells #[.string (ByteArray.mk #[])] 9 (0,0)))] Aeg (by rw[f,e,Nk,Jg];rfl) b u) (fun ad a1 a3 G=>?_) fun x a1 a3 hx=>⟨rfl,?_⟩);rotate_left
  ·obtain⟨lp,τ,hs,hX⟩:=hx;subst hs;exact⟨b.trans lp,[(k,_)],τ,Aeg,rfl,hX⟩
  obtain⟨a5,L,ZQ,N,E⟩:=G;subst L;subst N;refine Aa rfl (Iy (k:=true) rfl) ?_;refine Ac ?_;apply P;refine Cg rfl (not_t rfl) ?_;refine Al ?_;refine⟨_,?_,([]:List UInt8),(pre++[s]),a5,rfl,rfl,(Cgj b ZQ),rfl,g,a,(by rw[f,e,Gt];rfl),(by simp only[Ha,Lp,Pc]at *;omega),(Yp (by rw[Nk];rfl) E),trivial⟩;simp only[Ha,Lp,Pc]at *;omega
 have q4:=lZ1 w;refine Aj Ghost.drop ?_;refine Bx ?_;refine H _ _ _ ?_;have J:s=[]:=Amb (by omega);refine⟨b,?_⟩;rw[f,J,show Es [] ([]:List UInt8)=[] from rfl,Tf];exact u
end
section
def RecovP(C:Ctx)(g:FuncId)(args:Array Value)(x:Value)(Y:Ro)(Z:Own)(R:Ro->Own->Prop):Prop :=
 ∀c cs,c.mode = .panicking [⟨x,false,false⟩]->GoesH C (fun fr cs' Y' Z'=>fr={c with mode:=.returning}/\cs'=cs/\R Y' Z') (Frame.enter C.P g args .deferred) (c::cs) Y Z
def DefersP(C:Ctx)(g:FuncId)(args:Array Value)(Y:Ro)(Z:Own)(R:Ro->Own->Prop):Prop :=
 ∀c cs,c.mode = .returning->GoesH C (fun fr cs' Y' Z'=>fr=c/\cs'=cs/\R Y' Z') (Frame.enter C.P g args .deferred) (c::cs) Y Z
theorem Bfz{C:Ctx}{V:Qt}{b:FB}{n:Nat}{c:Code}{Q:Hu}{e:Env}{ds:List Deferred}{Y:Ro}{Z:Own}(h:WpP C (fun x e ds Y Z=>∃Y' Z',Ghost Y Z Y' Z'/\V x e ds Y' Z') b n c Q e ds Y Z):WpP C V b n c Q e ds Y Z :=
 fun tm k cs ht=>(h tm k cs ht).bind fun _ _ _ _ hs=>hs.elim (fun hs=>.stop (.inl hs)) fun⟨a,x,tm',e',ds',g,d,f,Y',Z',hg,hV⟩=>.ghost hg (.stop (.inr ⟨a,x,tm',e',ds',g,d,f,hV⟩))
section
variable{C:Ctx}{n:Nat}{e:Env}{Y:Ro}{Z:Own}
theorem Aqn{P:Program}{f:FuncId}{fn:Func}{args fs:Array Value}(hf:P.funcs[f]?=some fn)(hn:(fn.name == "runtime.NumGoroutine")=false)(hb:fn.body.isNone=false)(W:World) :
  (invoke (.fn (.func f) fs) args).runT P W #[]=(.ok (.enter f (args++fs)) W,#[]):=by show (callFunc f (args++fs)).runT P W #[]=_;show (program.bind _:Sem Next).runT P W #[]=_;rw[Sem.runT_bind'];show Sem.runT P (match P.funcs[f]? with|none=>_|some fn=>_) W #[]=_;rw[hf];simp only[hn,hb];rfl
theorem Aqb{g:FuncId}{fn:Func}{S:Cy}{tm:Array Value}{ex:Ex}{todo:List Item}{c c':Frame}{cs:List Frame}(hf:C.P.funcs[g]?=some fn)(hr:fn.results = #[])(hx:∀id,ex ≠ .exit id)(ht:Pl ex [] todo)
  (hc:∀W,doReturn C.P C.main {Fr ⟨g,.deferred,none⟩ tm [] (match ex with | .normal=>[]|_=>todo) with mode:=.returning} (c::cs) none (.tuple #[]) W = .go (Conc.G c' cs) W) (h:GoesH C S c' cs Y Z):GoesH C S (Fr ⟨g,.deferred,none⟩ tm [] todo) (c::cs) Y Z:=by
 have fin:∀todo,(∀W,doReturn C.P C.main {Fr ⟨g,.deferred,none⟩ tm [] todo with mode:=.returning} (c::cs) none (.tuple #[]) W = .go (Conc.G c' cs) W)->GoesH C S {Fr ⟨g,.deferred,none⟩ tm [] todo with mode:=.returning} (c::cs) Y Z:=by
  intro todo hc;refine Eh (fr':=c') (cs':=cs) (fun W=>?_) h;have hrs:(results fn tm).runT C.P W #[]=(.ok (.tuple #[]) W,#[]):=by
   unfold results;rw[hr,Bbn];rfl
  have:=hc W;simp only[Fr,Conc.G]at this;simp[Conc.G,stepG,Fr,unwind,hf,-Sem.runT_eq,hrs,GStep.after,seen,this]
 cases ex with
 | normal =>
  cases ht;exact Eh (fr':={Fr ⟨g,.deferred,none⟩ tm [] [] with mode:=.returning}) (cs':=c::cs) (fun W=>by simp[Conc.G,stepG,stepG.exec,Fr]) (fin _ hc)
 | exit id=>exact absurd rfl (hx id)
 | ret =>
  obtain⟨pre,rfl⟩:=ht;exact Eh (fr':={Fr ⟨g,.deferred,none⟩ tm [] (.code .ret::(pre++[])) with mode:=.returning}) (cs':=c::cs) (fun W=>by simp[Conc.G,stepG,stepG.exec,Fr]) (fin _ hc)
theorem Aqa{g:FuncId}{fn:Func}{S:Cy}{id d:Nat}{tys:Array TypeId}{ty:TypeId}{pos:String}{af:Array Edge}{rest:Code}{args:List Value}{x:Value}{c c':Frame}{cs:List Frame}(hf:C.P.funcs[g]?=some fn)(hc:fn.body=some (.seq (.region id #[⟨some d,.call ⟨.builtin .recover,#[],tys⟩,ty,pos,af,none⟩] false) rest))(hn:fn.ntmps=n)(ha:Nat.ble args.length n=true)(hd:Nat.blt d n=true)
  (hm:(tryRecover (Fr ⟨g,.deferred,none⟩ #[] [] []) (c::cs)=some (x,c'::cs))∨(tryRecover (Fr ⟨g,.deferred,none⟩ #[] [] []) (c::cs)=none/\x = .nilIface/\c'=c))
  (h:∀tm,EnvOf n tm (upd (Pn args) d x)->GoesH C S (Fr ⟨g,.deferred,none⟩ tm [] [.code rest]) (c'::cs) Y Z):GoesH C S (Frame.enter C.P g args.toArray .deferred) (c::cs) Y Z:=by
 have e:Frame.enter C.P g args.toArray .deferred=Fr ⟨g,.deferred,none⟩ (args.toArray++Array.replicate (n-args.toArray.size) undef) [] [.code (.seq (.region id #[⟨some d,.call ⟨.builtin .recover,#[],tys⟩,ty,pos,af,none⟩] false) rest)]:=by
  simp[Frame.enter,hf,hc,hn,Fr]
 rw[e];have hE:=Tn (args:=args) (n:=n) (lZ7 ha);generalize (args.toArray++Array.replicate (n-args.toArray.size) undef)=tm at hE;generalize hops:#[(⟨some d,.call ⟨.builtin .recover,#[],tys⟩,ty,pos,af,none⟩:Oper)]=ops;have ho:ops[0]?=some ⟨some d,.call ⟨.builtin .recover,#[],tys⟩,ty,pos,af,none⟩:=by subst hops;rfl
 have hsz:ops.size=1:=by subst hops;rfl
 have hs:Fu n ops=true:=by
  subst hops;have:d<n:=by simpa using hd
  simp[Fu,this]
 refine Eh (fr':=Fr ⟨g,.deferred,none⟩ tm [] [.code (.region id ops false),.code rest]) (cs':=c::cs) (fun W=>by simp[Conc.G,stepG,stepG.exec,Fr]) ?_;refine Eh (fr':=Fr ⟨g,.deferred,none⟩ tm [] [.inRegion ops [0],.code rest]) (cs':=c::cs) (fun W=>by simp[Conc.G,stepG,stepG.exec,Fr,hsz,List.range,List.range.loop]) ?_;refine Eh (fr':=Fr ⟨g,.deferred,none⟩ (tm.setIfInBounds d x) [] [.inRegion ops [],.code rest]) (cs':=c'::cs) (fun W=>?_) ?_
 ·have hst:=Np (C:=C) (b:=⟨g,.deferred,none⟩) (ds:=[]) (tm:=tm) (k:=[.code rest]) (cs:=c::cs) (rest:=[]) ho (by rw[Ij hs hE];rfl) (fun c' h'=>by cases h') W;refine hst.trans ?_;have hev:=hE.eval ⟨g,.deferred,none⟩ [] (.inRegion ops [0]::[.code rest]);rw[hev];have hr:(execOp (Af (Pn args)) ⟨some d,.call ⟨.builtin .recover,#[],tys⟩,ty,pos,af,none⟩).runT C.P W #[]=(.ok .recover W,#[]):=rfl;have a:=Ju (b:=⟨g,.deferred,none⟩) (ds:=[]) (rest:=[]) (tm:=tm) (k:=[.code rest]) ho x;rcases hm with hm|⟨hm,rfl,rfl⟩
  ·have hm':tryRecover (Fr ⟨g,.deferred,none⟩ tm [] (.inRegion ops [0]::[.code rest])) (c::cs)=some (x,c'::cs):=hm;simp only[Fr]at hm' a;simp[stepG.apply,-Sem.runT_eq,hr,GStep.after,Conc.G,Fr,seen,hm',a]
  ·have hm':tryRecover (Fr ⟨g,.deferred,none⟩ tm [] (.inRegion ops [0]::[.code rest])) (c'::cs)=none:=hm;simp only[Fr]at hm' a;simp[stepG.apply,-Sem.runT_eq,hr,GStep.after,Conc.G,Fr,seen,hm',a]
 refine Eh (fr':=Fr ⟨g,.deferred,none⟩ (tm.setIfInBounds d x) [] [.code rest]) (cs':=c'::cs) (fun W=>by simp[Conc.G,stepG,stepG.exec,Fr]) ?_;exact h _ (hE.put (by simpa using hd) x)
theorem Bpo{g:FuncId}{fn:Func}{id d:Nat}{tys:Array TypeId}{ty:TypeId}{pos:String}{af:Array Edge}{rest:Code}{args:List Value}{x:Value}{R:Ro->Own->Prop}(hf:C.P.funcs[g]?=some fn)(hc:fn.body=some (.seq (.region id #[⟨some d,.call ⟨.builtin .recover,#[],tys⟩,ty,pos,af,none⟩] false) rest))(hn:fn.ntmps=n)(hr:fn.results = #[])(ha:Nat.ble args.length n=true)(hd:Nat.blt d n=true)
  (h:∀Q:Hu,(∀ex e Y' Z',(∀id,ex ≠ .exit id)->R Y' Z'->Q ex e [] Y' Z')->WpC C ⟨g,.deferred,none⟩ n rest Q (upd (Pn args) d x) [] Y Z):RecovP C g args.toArray x Y Z R:=by
 rintro c cs hm;refine Aqa hf hc hn ha hd (x:=x) (c':={c with mode:=.panicking [⟨x,true,false⟩]}) (.inl ?_) fun tm ht=>?_
 ·simp[tryRecover,Fr,hm]
 refine((h (fun ex _ ds Y' Z'=>(∀id,ex ≠ .exit id)/\ds=[]/\R Y' Z') (fun _ _ _ _ b a=>⟨b,rfl,a⟩)).stops tm [] _ ht).bind ?_;rintro _ _ Y' Z' ⟨rfl,ex,tm',e',ds',j,b,⟨a,rfl,f⟩,i,rfl⟩;refine Aqb hf hr a i (c':={c with mode:=.returning}) (fun W=>?_) (.stop ⟨rfl,rfl,f⟩);simp[doReturn,Fr,Conc.G]
theorem Bhf{g:FuncId}{fn:Func}{id d:Nat}{tys:Array TypeId}{ty:TypeId}{pos:String}{af:Array Edge}{rest:Code}{args:List Value}{R:Ro->Own->Prop}(hf:C.P.funcs[g]?=some fn)(hc:fn.body=some (.seq (.region id #[⟨some d,.call ⟨.builtin .recover,#[],tys⟩,ty,pos,af,none⟩] false) rest))(hn:fn.ntmps=n)(hr:fn.results = #[])(ha:Nat.ble args.length n=true)(hd:Nat.blt d n=true)
  (h:∀Q:Hu,(∀ex e Y' Z',(∀id,ex ≠ .exit id)->R Y' Z'->Q ex e [] Y' Z')->WpC C ⟨g,.deferred,none⟩ n rest Q (upd (Pn args) d .nilIface) [] Y Z):DefersP C g args.toArray Y Z R:=by
 rintro c cs hm;refine Aqa hf hc hn ha hd (x:=.nilIface) (c':=c) (.inr ⟨?_,rfl,rfl⟩) fun tm ht=>?_
 ·simp[tryRecover,Fr,hm]
 refine((h (fun ex _ ds Y' Z'=>(∀id,ex ≠ .exit id)/\ds=[]/\R Y' Z') (fun _ _ _ _ b a=>⟨b,rfl,a⟩)).stops tm [] _ ht).bind ?_;rintro _ _ Y' Z' ⟨rfl,ex,tm',e',ds',j,b,⟨a,rfl,f⟩,i,rfl⟩;refine Aqb hf hr a i (c':=c) (fun W=>?_) (.stop ⟨rfl,rfl,f⟩);simp[doReturn,Fr,Conc.G,hm]
def Aie(C:Ctx)(fn:Func)(R:Value->Ro->Own->Prop)(e:Env):List Deferred->Ro->Own->Prop
 | [],Y,Z=>wpS C.P Y (Hp fn e) Z (fun v Z'=>R v Y Z')
 | d::ds,Y,Z=>(∃r i,d.target = .collected r/\Z[i]?=some (r,.obj (.deferred (some [])))/\Aie C fn R e ds Y (Z.set i (r,.obj (.deferred none)))) ∨
   ∃g fs gn,d.target = .fn (.func g) fs/\C.P.funcs[g]?=some gn/\(gn.name == "runtime.NumGoroutine")=false/\gn.body.isNone=false/\DefersP C g (d.args++fs) Y Z (Aie C fn R e ds)
def Bgh(C:Ctx)(fn:Func)(R:Value->Ro->Own->Prop)(e:Env)(x:Value):List Deferred->Ro->Own->Prop
 | [],_,_=>False
 | d::ds,Y,Z=>(∃r i,d.target = .collected r/\Z[i]?=some (r,.obj (.deferred (some [])))/\Bgh C fn R e x ds Y (Z.set i (r,.obj (.deferred none)))) ∨
   ∃g fs gn,d.target = .fn (.func g) fs/\C.P.funcs[g]?=some gn/\(gn.name == "runtime.NumGoroutine")=false/\gn.body.isNone=false/\RecovP C g (d.args++fs) x Y Z (Aie C fn R e ds)
variable{b:FB}{S:Cy}{fn:Func}{R:Value->Ro->Own->Prop}{tm:Array Value}{todo:List Item}{c:Frame}{cs:List Frame}{ds:List Deferred}
theorem Aql(hf:C.P.funcs[b.fn]?=some fn)(hk:b.kind = .normal)(ht:∀i,tm.getD i undef=e i)(h:Aie C fn R e ds Y Z)(hS:∀v Y' Z',R v Y' Z'->GoesH C S (Frame.finish c v) cs Y' Z') :
  GoesH C S {Fr b tm ds todo with mode:=.returning} (c::cs) Y Z:=by
 induction ds generalizing Y Z with
 | nil =>
  refine Lw (f:=fun v=>(Frame.finish c v,cs)) (s:=Hp fn e) (Q:=fun v Z'=>R v Y Z') (fun W v W' es hr=>?_) h fun v Z' hv=>hS v Y Z' hv;rw[<-Abq (n:=tm.size) ⟨rfl,ht⟩]at hr;exact⟨seen C.P b.fn es,by simp[Conc.G,stepG,Fr,unwind,hf,-Sem.runT_eq,hr,doReturn,hk,GStep.after],fun e he=>Lh he⟩
 | cons d ds ih =>
  obtain⟨tgt,args⟩:=d;rcases h with⟨r,i,hd,hi,h⟩|⟨g,fs,gn,hd,a,j,k,h⟩
  ·simp only at hd;subst hd;refine Lw (f:=fun (l:List Deferred)=>({Fr b tm (l++ds) todo with mode:=.returning},c::cs)) (s:=Instr.takeDeferred r) (Q:=fun l Z'=>l=[]/\Aie C fn R e ds Y Z') (fun W l W' es hr=>?_) (Ajr hi ⟨rfl,h⟩) ?_
   ·exact⟨seen C.P b.fn es,by simp[Conc.G,stepG,Fr,unwind,-Sem.runT_eq,hr,GStep.after],fun e he=>Lh he⟩
   ·rintro l Z' ⟨rfl,h⟩;exact ih h
  ·simp only at hd;subst hd;refine Eh (fr':=Frame.enter C.P g (args++fs) .deferred) (cs':={Fr b tm ds todo with mode:=.returning}::c::cs) (fun W=>?_) ?_
   ·have hr:=Aqn (args:=args) (fs:=fs) a j k W;simp[Conc.G,stepG,Fr,unwind,callDeferred,-Sem.runT_eq,hr,GStep.after,seen]
   ·refine(h _ (c::cs) rfl).bind ?_;rintro _ _ Y' Z' ⟨rfl,rfl,h⟩;exact ih h
theorem Bhl{x:Value}(hf:C.P.funcs[b.fn]?=some fn)(hk:b.kind = .normal)(ht:∀i,tm.getD i undef=e i)(h:Bgh C fn R e x ds Y Z)(hS:∀v Y' Z',R v Y' Z'->GoesH C S (Frame.finish c v) cs Y' Z') :
  GoesH C S (FrP b tm ds todo x) (c::cs) Y Z:=by
 induction ds generalizing Y Z with
 | nil=>exact h.elim
 | cons d ds ih =>
  obtain⟨tgt,args⟩:=d;rcases h with⟨r,i,hd,hi,h⟩|⟨g,fs,gn,hd,a,j,k,h⟩
  ·simp only at hd;subst hd;refine Lw (f:=fun (l:List Deferred)=>(FrP b tm (l++ds) todo x,c::cs)) (s:=Instr.takeDeferred r) (Q:=fun l Z'=>l=[]/\Bgh C fn R e x ds Y Z') (fun W l W' es hr=>?_) (Ajr hi ⟨rfl,h⟩) ?_
   ·exact⟨seen C.P b.fn es,by simp[Conc.G,stepG,Fr,FrP,unwind,-Sem.runT_eq,hr,GStep.after],fun e he=>Lh he⟩
   ·rintro l Z' ⟨rfl,h⟩;exact ih h
  ·simp only at hd;subst hd;refine Eh (fr':=Frame.enter C.P g (args++fs) .deferred) (cs':=FrP b tm ds todo x::c::cs) (fun W=>?_) ?_
   ·have hr:=Aqn (args:=args) (fs:=fs) a j k W;simp[Conc.G,stepG,Fr,FrP,unwind,callDeferred,-Sem.runT_eq,hr,GStep.after,seen]
   ·refine(h _ (c::cs) rfl).bind ?_;rintro _ _ Y' Z' ⟨rfl,rfl,h⟩;exact Aql (b:=b) (tm:=tm) (todo:=todo) hf hk ht h hS
theorem Bhb{f:FuncId}{code:Code}{args:List Value}(hf:C.P.funcs[f]?=some fn)(hc:fn.body=some code)(hn:fn.ntmps=n)(ha:Nat.ble args.length n=true)
  (h:∀Q:Hu,(∀e ds Y' Z',Aie C fn R e ds Y' Z'->Q .ret e ds Y' Z')->(∀e ds Y' Z',Aie C fn R e ds Y' Z'->Q .normal e ds Y' Z')->WpP C (fun x e ds Y' Z'=>Bgh C fn R e x ds Y' Z') ⟨f,.normal,none⟩ n code Q (Pn args) [] Y Z):CallsH C f args.toArray Y Z R:=by
 intro c' cs;have d:Frame.enter C.P f args.toArray .normal=Fr ⟨f,.normal,none⟩ (args.toArray++Array.replicate (n-args.toArray.size) undef) [] [.code code]:=by
  simp[Frame.enter,hf,hc,hn,Fr]
 rw[d];refine(h (fun ex e ds Y' Z'=>(∀id,ex ≠ .exit id)/\Aie C fn R e ds Y' Z') (fun _ _ _ _ h=>⟨fun id h=>(by cases h),h⟩) (fun _ _ _ _ h=>⟨fun id h=>(by cases h),h⟩) _ [] (c'::cs) (Tn (lZ7 ha))).bind ?_;rintro _ _ Y' Z' (⟨rfl,ex,tm',e',ds',a,g,⟨i,j⟩,c,rfl⟩|⟨rfl,x,tm',e',ds',a,ht,rfl,hX⟩)
 ·have fin:∀a,GoesH C (fun fr cs' Y' Z'=>∃v,fr=Frame.finish c' v/\cs'=cs/\R v Y' Z') {Fr ⟨f,.normal,none⟩ tm' ds' a with mode:=.returning} (c'::cs) Y' Z' :=
   fun a=>Aql (b:=⟨f,.normal,none⟩) hf rfl g.2 j fun v Y'' Z'' hv=>.stop ⟨v,rfl,rfl,hv⟩
  cases ex with
  | normal =>
   cases c;exact Eh (fr':={Fr ⟨f,.normal,none⟩ tm' ds' [] with mode:=.returning}) (cs':=c'::cs) (fun W=>by simp[Conc.G,stepG,stepG.exec,Fr]) (fin _)
  | exit id=>exact absurd rfl (i id)
  | ret =>
   obtain⟨pre,rfl⟩:=c;exact Eh (fr':={Fr ⟨f,.normal,none⟩ tm' ds' (.code .ret::(pre++[])) with mode:=.returning}) (cs':=c'::cs) (fun W=>by simp[Conc.G,stepG,stepG.exec,Fr]) (fin _)
 ·exact Bhl (b:=⟨f,.normal,none⟩) hf rfl ht hX fun v Y'' Z'' hv=>.stop ⟨v,rfl,rfl,hv⟩
theorem Bap{f:FuncId}{code:Code}{args:List Value}(hf:C.P.funcs[f]?=some fn)(hc:fn.body=some code)(hn:fn.ntmps=n)(ha:Nat.ble args.length n=true)
  (h:∀Q:Hu,(∀e ds Y' Z',Aie C fn (fun v Y Z=>∃Y' Z',Ghost Y Z Y' Z'/\R v Y' Z') e ds Y' Z'->Q .ret e ds Y' Z')->(∀e ds Y' Z',Aie C fn (fun v Y Z=>∃Y' Z',Ghost Y Z Y' Z'/\R v Y' Z') e ds Y' Z'->Q .normal e ds Y' Z') ->
   WpP C (fun x e ds Y Z=>∃Y' Z',Ghost Y Z Y' Z'/\Bgh C fn (fun v Y Z=>∃Y' Z',Ghost Y Z Y' Z'/\R v Y' Z') e x ds Y' Z') ⟨f,.normal,none⟩ n code Q (Pn args) [] Y Z):CallsH C f args.toArray Y Z R:=by intro c' cs;refine(Bhb (R:=fun v Y Z=>∃Y' Z',Ghost Y Z Y' Z'/\R v Y' Z') hf hc hn ha (fun Q a b=>Bfz (h Q a b)) c' cs).bind ?_;rintro _ _ Y' Z' ⟨v,rfl,rfl,Y'',Z'',hg,hR⟩;exact .ghost hg (.stop ⟨v,rfl,rfl,hR⟩)
end
section
variable{C:Ctx}{V:Qt}{b:FB}{n:Nat}{e:Env}{ds:List Deferred}{Y:Ro}{Z:Own}{K:Value->List Deferred->Ro->Own->Prop}{dd:Option Tmp}{ty:TypeId}{pos:String}{af:Array Edge}{gd:Option (Nat×Bool)}
theorem Bjh{x:Operand}{g:FuncId}{fs:List Value}{tys:Array TypeId}(hx:Af e x = .func (.func g) #[] fs.toArray)(h:K undef ({target:=.fn (.func g) fs.toArray,args:=#[]}::ds) Y Z) :
  wpS C.P Y (execOp (Af e) ⟨dd,.defer ⟨.value x,#[],tys⟩,ty,pos,af,gd⟩) Z (NextH C K none ds Y):=by
 have a:execOp (Af e) ⟨dd,.defer ⟨.value x,#[],tys⟩,ty,pos,af,gd⟩=Sem.pure (Next.defer {target:=.fn (.func g) fs.toArray,args:=#[]}):=by
  show ((Deferred.ofValue (Af e x) ((#[]:Array Operand).map (Af e))).bind fun d=>Sem.pure (Next.defer d))=_;rw[hx];simp[Deferred.ofValue,Sem.bind,pure]
 rw[a];exact⟨rfl,h⟩
theorem Boh{l₀:List Oper}{id:Nat}{Q:Hu}(A:Own)(pz:List Nat)(hm:C.P.follows .mixedOrders=true)(hs:Nm n l₀=true)(hk:b.kind ≠ .early)
  (h:El C b l₀.toArray (fun e ds Y Z=>Q .normal e ds Y Z) pz (leO Y A) l₀.length (List.replicate l₀.length false).toArray e ds Y Z):WpP C V b n (.region id l₀.toArray true) Q e ds Y Z :=
 Vk pz (leO Y A) hm (Ih hs) hk (by simpa using h)
theorem Aix{C:Ctx}{b:FB}{l₀:List Oper}{Q:Env->List Deferred->Ro->Own->Prop}{e:Env}{ds:List Deferred}{Y Y9:Ro}{Z A:Own}{pz:List Nat}{fuel:Nat}
  {i:Nat} {op:Op} {ty:TypeId} {pos:String} {af:Array Edge} {g:Option (Nat×Bool)} {li:List Bool}
  (li':List Bool) (hli:li.set i true=li') (hr:Dl l₀ li=[i]) (hi:l₀[i]?=some ⟨none,op,ty,pos,af,g⟩) (hw:Bz l₀.toArray ⟨none,op,ty,pos,af,g⟩ e=true)
  (h:wpS C.P Y (execOp (Af e) ⟨none,op,ty,pos,af,g⟩) Z (NextH C (fun _ ds' Y' Z'=>leO Y9 A Y' Z'/\El C b l₀.toArray Q pz (leO Y9 A) fuel li'.toArray e ds' Y' Z') b.round ds Y)) :
  El C b l₀.toArray Q pz (leO Y9 A) (fuel+1) li.toArray e ds Y Z:=by refine Mz ((Hh _ _).trans hr) (by simp) fun j hj=>?_;rw[Oj]at hj;subst hj;unfold OpH;simp only[Mi,hi,Mo hli];rw[if_pos hw];exact Eu (fun nx Z' hn=>hn.mono fun v ds Y Z hh=>⟨fun _=>hh.1,hh.2⟩) _ _ h
theorem Boi{l₀:List Oper}{id:Nat}{Q:Hu}(A:Own)(k:Nat)(pz:List Nat)(hm:C.P.follows .mixedOrders=true)(hs:Nm n l₀=true)(hk:b.kind = .normal)(hd:∃oL,l₀.drop k=[oL])(hg:Adh (l₀.take k)=true)(hc:Amp (l₀.take k) l₀=true)
  (h:∀K:Env->List Deferred->Ro->Own->Prop,(∀e ds Y Z,Em C V b n l₀ (l₀.drop k) (fun e ds Y Z=>Q .normal e ds Y Z) e ds Y Z->K e ds Y Z)->El C b (l₀.take k).toArray K pz (leO Y A) (l₀.take k).length (List.replicate (l₀.take k).length false).toArray e ds Y Z):WpP C V b n (.region id l₀.toArray true) Q e ds Y Z:=by
 obtain⟨oL,hd⟩:=hd;have hl:l₀.take k++[oL]=l₀:=by rw[<-hd,Aba]
 have hs':=Ih hs;have hk':b.kind ≠ .early:=by rw[hk];simp
 have c:=h (fun e ds Y Z=>Vb C V b n l₀.toArray [(l₀.take k).length] (fun e ds Y Z=>Q .normal e ds Y Z) e ds Y Z) fun e ds Y Z ho=>by
  have:=ho (l₀.take k) (Aba k l₀).symm hs' hk';rw[hd]at this;exact this
 have g:l₀.toArray.size=(l₀.take k).length+1:=by
  rw[Aik];have:=congrArg List.length hl;simp only[lZ4,Wy]at this;omega
 intro tm ks cs ht;refine .step (fun fr' cs' Z'=>∃t,fr'=Fr b tm ds (.inRegion l₀.toArray (Region.linearise .any l₀.toArray t)::ks)/\cs'=cs/\Z'=Z) (fun W a=>?_) ?_
 ·refine⟨_,cs,{W with drawn:=W.drawn+1},#[],Z,?_,?_,by simp,W.tape W.drawn (.order b.fn id),rfl,rfl,rfl⟩
  ·simp[Conc.G,stepG,stepG.exec,Fr,choose,Sem.run,Question.forced,Question.cut,Region.schedule,hm]
  ·have:=Trans.refl a;exact⟨⟨a.ro,a.own,a.nd,a.dj⟩,this.size,this.keys,this.kept,this.fresh,this.frame,this.ends,this.chans,this.chansKept,this.crowds,this.crowdsKept,rfl,rfl,rfl⟩
 ·rintro _ _ j ⟨t,rfl,hcs,hZ⟩;replace hZ:=hZ.symm;replace hcs:=hcs.symm;subst hZ hcs;have key:=Aap (C:=C) (b:=b) (n:=n) (l':=l₀.take k) (oL:=oL) (Q:=fun e ds Y Z=>Q .normal e ds Y Z) (pz:=pz) (S:=leO Y A) (by rw[hl];exact hs') hk' hg (by rw[hl];exact hc) (fun e ds Y Z h=>by rw[hl];exact h) (l₀.take k).length t (List.replicate (l₀.take k).length false) e ds Y Z (by simp) (by
   unfold Mh;rw[Ny];intro i hi;have:(List.replicate (l₀.take k).length false).getD i false=false:=by
    rw[Wx,Bml];split<;>rfl
   rw[this];rfl) c
  rw[hl]at key;have d:Region.linearise .any l₀.toArray t=Region.linearise.go .any l₀.toArray ((l₀.take k).length+1) t (List.replicate (l₀.take k).length false++[false]).toArray []:=by
   unfold Region.linearise;rw[g];congr 1;rw[<-List.replicate_succ',List.toArray_replicate]
  rw[d];refine(key tm ks cs ht).mono ?_;rintro _ _ Y' Z' (⟨rfl,tm',e',ds',f,c,rfl⟩|hp)
  ·exact .inl ⟨rfl,.normal,tm',e',ds',ks,f,c,rfl,rfl⟩
  ·exact .inr hp
end
end
section
variable{mn:Bool}{X:Frame->List Frame->Ro->Own->Cy->Prop}{Y:Ro}{Z:Own}
theorem Bwz{q2 q3 q4 q5:Nat}{va vb vc vd:Value} :DefersP (CX mn X) 64 #[pV q2,pV q3,pV q4,pV q5] Y ((q2,oC #[va] 9)::((q3,oC #[vb] 22)::((q4,oC #[vc] 3)::((q5,oC #[vd] 30)::Z)))) (fun Y' Z'=>Y'=Y/\Z'=(q2,oC #[va] 9)::(q3,oC #[vb] 22)::(q4,oC #[vc] 3)::(q5,oC #[vd] 30)::Z):=by refine Bhf (n:=17) (args:=[pV q2,pV q3,pV q4,pV q5]) Cgd rfl rfl rfl rfl rfl fun Q hq=>?_;refine Ao (Ai fun c a=>Ge rfl (fun h=>by cases h) (l_v (Ass (w:=.nilIface) (b:=true) Tryz.underlying20 (.inl ⟨rfl,rfl⟩) rfl) (l_k a (Co rfl rfl (Ge rfl (fun h=>by cases h) (Av .nilIface (Ac ?_)))))));refine hq _ _ _ _ (fun _ h=>by cases h) ⟨rfl,rfl⟩
theorem Bxa{q2 q3 q4 q5:Nat}{va vb vc vd:Value}{ln f:Int} :RecovP (CX mn X) 64 #[pV q2,pV q3,pV q4,pV q5] (Xj ln f) Y ((q2,oC #[va] 9)::((q3,oC #[vb] 22)::((q4,oC #[vc] 3)::((q5,oC #[vd] 30)::Z)))) (fun Y' Z'=>Y'=Y/\Z'=(q2,oC #[.string ⟨#[]⟩] 9)::(q3,oC #[nS] 22)::(q4,oC #[.int .i64 ln] 3)::(q5,oC #[.int .i64 f] 30)::Z):=by refine Bpo (n:=17) (args:=[pV q2,pV q3,pV q4,pV q5]) Cgd rfl rfl rfl rfl rfl fun Q hq=>?_;refine Ao (Ai fun g a=>Ge rfl (fun h=>by cases h) (l_v (Ass (w:=Xj ln f) (b:=false) Tryz.underlying20 (.inr ⟨_,_,rfl,rfl⟩) rfl) (l_k a (Cg rfl rfl (Ai fun k c=>Ge rfl (fun h=>by cases h) (l_v (Bjo Cfc rfl rfl) (l_v (Bk (vs:=#[.agg #[.int .i64 ln,.int .i64 f],bT]) rfl (v:=bT) rfl) (l_v (Bk (vs:=#[.agg #[.int .i64 ln,.int .i64 f],bT]) rfl (v:=.agg #[.int .i64 ln,.int .i64 f]) rfl) (l_k c (Co rfl rfl (Ai fun m d=>Ge rfl (fun h=>by cases h) (Arv (Ct Bqu fun e=>?_)))))))))))));refine Cx rfl (Li (i:=0) (vs:=[iV ln,iV f]) (c':=[iV ln,iV f]) ⟨_,Ab Tryz.typeInfo140,rfl⟩ rfl rfl rfl rfl (Zh ⟨rfl,rfl,trivial⟩) rfl nL rfl ?_);refine l_k d (Aab (Boh ((e,oC #[iV ln,iV f] 140)::[]) [0,1,2,3] (by kernel_rfl) rfl (fun h=>by cases h) (Dr 0 (zT 1 7) rfl ⟨Cgi,sB⟩ rfl (Yld.o (Cb Cfc rfl rfl ty3.2 (by decide) rfl rfl)) (Dr 1 (zT 2 6) rfl ⟨Cgi,sB⟩ rfl (Eo (v:=iV ln) ty3.1 rfl mC rfl) (Dr 2 (zT 3 5) rfl ⟨Cgi,sB⟩ rfl (Yld.o (Cb Cfc rfl rfl ⟨_,Ab Cfb,rfl⟩ (by decide) rfl rfl)) (Dr 3 (zT 4 4) rfl ⟨Cgi,sB⟩ rfl (Eo (v:=iV f) ⟨_,Tryz.underlying30,rfl⟩ rfl mC rfl) (Aix (i:=4) (zT 5 3) rfl (by kernel_rfl) rfl rfl (Cz (j:=1) (v:=.string (ByteArray.mk #[])) ty9.2 rfl rfl rfl rfl nL ⟨⟨Cgi,sB⟩,?_⟩))))))));refine Aix (i:=5) (zT 6 2) rfl (by kernel_rfl) rfl rfl (Cz (j:=2) (v:=nS) Hw.2 rfl rfl rfl rfl nL ⟨⟨Cgi,sB⟩,?_⟩);refine Aix (i:=6) (zT 7 1) rfl (by kernel_rfl) rfl rfl (Cz (j:=3) (v:=iV ln) ty3.2 rfl rfl rfl rfl nL ⟨⟨Cgi,sB⟩,?_⟩);refine Yz 7 (zT 8 0) rfl rfl (Cz (j:=4) (v:=iV f) ⟨_,Ab Cfb,rfl⟩ rfl rfl rfl rfl nL ?_);refine Sr rfl ?_;show Vl _ .normal _ _ _ _;refine Yn Ghost.drop (Adc (hq _ _ _ _ (fun _ h=>by cases h) ⟨rfl,rfl⟩))
end
section
def Agz(n:Nat)(kd:List UInt8)(my:Int)(xs:List ByteArray):List (List UInt8)->(Int×Int) ⊕ (Nat×List UInt8×Int×List ByteArray)
 | []=>.inr (n,kd,my,xs)
 | l::ls=>if rdF n l=0 then Agz (n+1) (rdS n kd my xs l).1 (rdS n kd my xs l).2.1 (rdS n kd my xs l).2.2 ls else .inl (((n+1:Nat):Int),rdF n l)
def Rk(s:List UInt8):List UInt8×List ByteArray×Int×Int :=
 if 60000<s.length then ([],[],0,2)
 else match Agz 0 [] 0 [] (Es [] s) with
  | .inl (ln,f)=>([],[],ln,f)
  | .inr (n,kd,my,xs)=>if n=0 then ([],[],0,3) else if (xs.length:Int)≠my then ([],[],0,2) else (kd,xs,0,0)
def Aje(p:List (List UInt8))(n:Nat)(kd:List UInt8)(my:Int)(xs:List ByteArray):Prop:=(∀q,Agz 0 [] 0 [] (p++q)=Agz n kd my xs q)/\n=p.length/\xs.length<=n/\I64 my
theorem Bpl:Aje [] 0 [] 0 []:=⟨fun _=>rfl,rfl,Nat.le.refl,by unfold I64;omega⟩
section
variable{p q:List (List UInt8)}{n:Nat}{kd kd' l s:List UInt8}{my my':Int}{xs xs':List ByteArray}
theorem Bun(hf:rdF n l=0):Agz n kd my xs (l::q)=Agz (n+1) (rdS n kd my xs l).1 (rdS n kd my xs l).2.1 (rdS n kd my xs l).2.2 q:=by rw[Agz,if_pos hf]
theorem Bpm(hf:rdF n l≠0):Agz n kd my xs (l::q) = .inl (((n+1:Nat):Int),rdF n l):=by rw[Agz,if_neg hf]
theorem Bit(h:Aje p n kd my xs)(hf:rdF n l=0)(hs:rdS n kd my xs l=(kd',my',xs')):Aje (p++[l]) (n+1) kd' my' xs':=by
 obtain⟨a,b,d,c⟩:=h;refine⟨fun q=>?_,by simp[b],?_,?_⟩
 ·rw[Gt,Bmq,a];rw[Bun hf,hs]
 ·unfold rdS at hs;split at hs
  ·simp only[Prod.mk.injEq]at hs;rw[<-hs.2.2];omega
  ·simp only[Prod.mk.injEq]at hs;rw[<-hs.2.2,lZ4];simp;omega
 ·unfold rdS at hs;split at hs
  ·simp only[Prod.mk.injEq]at hs;rw[<-hs.2.1];exact Axa
  ·simp only[Prod.mk.injEq]at hs;rw[<-hs.2.1];exact c
theorem Bpk(h:Aje p n kd my xs)(hL:Es [] s=p++l::q)(hf:rdF n l≠0):Agz 0 [] 0 [] (Es [] s) = .inl (((n+1:Nat):Int),rdF n l):=by rw[hL,h.1,Bpm hf]
theorem Xa:∀{s acc:List UInt8},(Es acc s).length<=acc.length+s.length
 | [],acc=>by
  unfold Es;split
  ·simp
  ·rename_i h;have:0<acc.length:=Bef.2 h;simp;omega
 | x::r,acc=>by
  unfold Es;split
  ·have:=Xa (s:=r) (acc:=[]);simp at this ⊢;omega
  ·have:=Xa (s:=r) (acc:=acc++[x]);simp at this ⊢;omega
theorem Bzd(h:Aje p n kd my xs)(hL:Es [] s=p++l::q)(hs:s.length<=60000):n<=59999:=by have a:=Xa (s:=s) (acc:=[]);rw[hL]at a;have:=h.2.1;simp at a;omega
theorem Anj(h:Aje (Es [] s) n kd my xs):Agz 0 [] 0 [] (Es [] s) = .inr (n,kd,my,xs):=by have:=h.1 [];rw[Tf]at this;rw[this];rfl
theorem Bzi(h:60000<s.length):Rk s=([],[],0,2):=by unfold Rk;rw[if_pos h]
theorem Bzj{ln f:Int}(hs:s.length<=60000)(h:Agz 0 [] 0 [] (Es [] s) = .inl (ln,f)):Rk s=([],[],ln,f):=by unfold Rk;rw[if_neg (by omega),h]
theorem Bzk(hs:s.length<=60000)(h:Aje (Es [] s) n kd my xs)(hn:n=0):Rk s=([],[],0,3):=by unfold Rk;rw[if_neg (by omega),Anj h];simp only[];rw[if_pos hn]
theorem Bzl(hs:s.length<=60000)(h:Aje (Es [] s) n kd my xs)(hn:n≠0)(hx:(xs.length:Int)≠my):Rk s=([],[],0,2):=by unfold Rk;rw[if_neg (by omega),Anj h];simp only[];rw[if_neg hn,if_pos hx]
theorem Bzm(hs:s.length<=60000)(h:Aje (Es [] s) n kd my xs)(hn:n≠0)(hx:(xs.length:Int)=my):Rk s=(kd,xs,0,0):=by unfold Rk;rw[if_neg (by omega),Anj h];simp only[];rw[if_neg hn,if_neg (by simp[hx])]
end
theorem DefersP.ghost{C:Ctx}{g:FuncId}{args:Array Value}{Y Y':Ro}{Z Z':Own}{R:Ro->Own->Prop}(hg:Ghost Y Z Y' Z')(h:DefersP C g args Y' Z' R):DefersP C g args Y Z R:=fun c cs hm=>.ghost hg (h c cs hm)
theorem RecovP.ghost{C:Ctx}{g:FuncId}{args:Array Value}{x:Value}{Y Y':Ro}{Z Z':Own}{R:Ro->Own->Prop}(hg:Ghost Y Z Y' Z')(h:RecovP C g args x Y' Z' R):RecovP C g args x Y Z R:=fun c cs hm=>.ghost hg (h c cs hm)
theorem DefersP.mono{C:Ctx}{g:FuncId}{args:Array Value}{Y:Ro}{Z:Own}{R R':Ro->Own->Prop}(h:DefersP C g args Y Z R)(hr:∀Y Z,R Y Z->R' Y Z):DefersP C g args Y Z R':=fun c cs hm=>(h c cs hm).mono fun _ _ _ _ ⟨a,b,d⟩=>⟨a,b,hr _ _ d⟩
theorem RecovP.mono{C:Ctx}{g:FuncId}{args:Array Value}{x:Value}{Y:Ro}{Z:Own}{R R':Ro->Own->Prop}(h:RecovP C g args x Y Z R)(hr:∀Y Z,R Y Z->R' Y Z):RecovP C g args x Y Z R':=fun c cs hm=>(h c cs hm).mono fun _ _ _ _ ⟨a,b,d⟩=>⟨a,b,hr _ _ d⟩
abbrev pt0(k:Nat):Value:=.pointer (some ⟨k,0,none⟩)
abbrev Buo(k2 k3 k4 k5:Nat)(a b c d:Value)(τ:Own):Own:=(k2,Res.obj (.cells #[a] 9 (0,0)))::(k3,Res.obj (.cells #[b] 22 (0,0)))::(k4,Res.obj (.cells #[c] 3 (0,0)))::(k5,Res.obj (.cells #[d] 30 (0,0)))::τ
abbrev Bfo(k2 k3 k4 k5:Nat):Deferred:={target:=.fn (.func 64) [pt0 k2,pt0 k3,pt0 k4,pt0 k5].toArray,args:=#[]}
def Yb(s:List UInt8)(Y9:Ro)(Z9:Own)(w:Value)(Y':Ro)(Z':Own):Prop:=Ro.le Y9 Y'/\∃v gr,Z'=gr++Z9/\Grow Y' 9 v (Rk s).2.1 gr/\w = .tuple #[.string (bs (Rk s).1),v,.int .i64 (Rk s).2.2.1,.int .i64 (Rk s).2.2.2]/\((Rk s).2.2.2≠0->v = .slice none 0 0/\gr=[])
section
variable{mn:Bool}{X:Frame->List Frame->Ro->Own->Cy->Prop}{fn:Func}{R:Value->Ro->Own->Prop}{e:Env}{k2 k3 k4 k5 r:Nat}{a b c d:Value}{Y:Ro}{τ:Own}
theorem Aha(hr:fn.results=[ResultVar.cell 2 9,ResultVar.cell 3 22,ResultVar.cell 4 3,ResultVar.cell 5 30].toArray)(h2:e 2=pt0 k2)(h3:e 3=pt0 k3)(h4:e 4=pt0 k4)(h5:e 5=pt0 k5)(h:∃Y' Z',Ghost Y τ Y' Z'/\R (.tuple #[a,b,c,d]) Y' Z') :
  Aie (CX mn X) fn (fun v Y Z=>∃Y' Z',Ghost Y Z Y' Z'/\R v Y' Z') e [] Y (Buo k2 k3 k4 k5 a b c d τ):=by obtain⟨Y',Z',hg,hR⟩:=h;refine Vf (vs:=[a,b,c,d]) hr ⟨Rj (i:=0) (c:=[a]) ⟨_,Ceb,rfl⟩ h2 rfl rfl,Rj (i:=1) (c:=[b]) ⟨_,Ced,rfl⟩ h3 rfl rfl,Rj (i:=2) (c:=[c]) ⟨_,Ceq,rfl⟩ h4 rfl rfl,Rj (i:=3) (c:=[d]) ⟨_,Tryz.underlying30,rfl⟩ h5 rfl rfl,trivial⟩ ?_;exact⟨Y',Z',.trans .drop (.trans .drop (.trans .drop (.trans .drop hg))),hR⟩
theorem Ayv(hr:fn.results=[ResultVar.cell 2 9,ResultVar.cell 3 22,ResultVar.cell 4 3,ResultVar.cell 5 30].toArray)(h2:e 2=pt0 k2)(h3:e 3=pt0 k3)(h4:e 4=pt0 k4)(h5:e 5=pt0 k5)(h:∃Y' Z',Ghost Y τ Y' Z'/\R (.tuple #[a,b,c,d]) Y' Z') :
  Aie (CX mn X) fn (fun v Y Z=>∃Y' Z',Ghost Y Z Y' Z'/\R v Y' Z') e [{target:=.collected r,args:=#[]},Bfo k2 k3 k4 k5] Y ((r,.obj (.deferred (some [])))::Buo k2 k3 k4 k5 a b c d τ):=by refine .inl ⟨r,0,rfl,rfl,.inr ⟨_,_,_,rfl,Cgd,rfl,rfl,?_⟩⟩;rw[show (Bfo k2 k3 k4 k5).args++[pt0 k2,pt0 k3,pt0 k4,pt0 k5].toArray = #[pt0 k2,pt0 k3,pt0 k4,pt0 k5] from by simp];refine DefersP.ghost .drop (DefersP.mono Bwz ?_);rintro _ _ ⟨rfl,rfl⟩;exact Aha hr h2 h3 h4 h5 h
theorem Ayu{x:Value}{ln f:Int}(hx:x=Xj ln f)(hr:fn.results=[ResultVar.cell 2 9,ResultVar.cell 3 22,ResultVar.cell 4 3,ResultVar.cell 5 30].toArray)(h2:e 2=pt0 k2)(h3:e 3=pt0 k3)(h4:e 4=pt0 k4)(h5:e 5=pt0 k5)(h:∃Y' Z',Ghost Y τ Y' Z'/\R (.tuple #[.string ⟨#[]⟩,.slice none 0 0,.int .i64 ln,.int .i64 f]) Y' Z') :
  Bgh (CX mn X) fn (fun v Y Z=>∃Y' Z',Ghost Y Z Y' Z'/\R v Y' Z') e x [{target:=.collected r,args:=#[]},Bfo k2 k3 k4 k5] Y ((r,.obj (.deferred (some [])))::Buo k2 k3 k4 k5 a b c d τ):=by subst hx;refine .inl ⟨r,0,rfl,rfl,.inr ⟨_,_,_,rfl,Cgd,rfl,rfl,?_⟩⟩;rw[show (Bfo k2 k3 k4 k5).args++[pt0 k2,pt0 k3,pt0 k4,pt0 k5].toArray = #[pt0 k2,pt0 k3,pt0 k4,pt0 k5] from by simp];refine RecovP.ghost .drop (RecovP.mono Bxa ?_);rintro _ _ ⟨rfl,rfl⟩;exact Aha hr h2 h3 h4 h5 h
end
end
section
abbrev Cao:List Value:=[.map none,.map none]
theorem Bsy(l:List ByteArray):Bnd (Jd (Ic l) (List.take 0 ([]:List LLot))) (-1) 1000000000:=by
 have key:∀(l:List ByteArray) (f:Je),Bnd f (-1) 1000000000->Bnd (l.foldl (fun f s=>Rh f s (-1)) f) (-1) 1000000000:=by
  intro l;induction l with
  | nil=>intro f h;exact h
  | cons s l ih=>intro f h;exact ih _ (Zn h ⟨by decide,by decide⟩ _)
 exact key l Amy Avp
theorem Cat:Fw Tryz.prog 110 (.agg #[.map none,.map none]):=⟨_,Ab Tryz.typeInfo110,rfl⟩
variable{mn:Bool}{X:Frame->List Frame->Ro->Own->Cy->Prop}{Y:Ro}{Z:Own}
theorem Bwv{r ra rb ca cb:Nat}{Ea Eb:Array MapEntry}{m t:Je}{s:ByteArray}{z:Int}(hm:Xm Ea m)(ht:Xm Eb t)(hs:s.size<2^60):CallsH (CX mn X) 43 #[pV r,.string s,iV z] Y ((r,oC #[.map (some ra),.map (some rb)] 110)::((ra,Res.obj (Obj.map Ea ca))::((rb,Res.obj (Obj.map Eb cb))::Z))) (fun w Y' Z'=>Y'=Y/\∃(es':Array MapEntry) (ck':Nat) (m':Je),Z'=(r,oC #[.map (some ra),.map (some rb)] 110)::(ra,Res.obj (.map es' ck'))::(rb,Res.obj (.map Eb cb))::Z/\Xm es' m'/\w=iV (Sn m s)/\(Sn m s=0->m'=Rh m s z)):=by
 refine Bq 28 [6] Tryz.func43 rfl fun Q d O=>qA fun C g=>Av (iV 0) (qE g fun H I q u=>Au (.string s) (Arv (Cj (Adb (by first|omega|(rw[Jo];omega))) Cfr ?_)));refine l_v (Iy rfl) (l_k u (Bp (t:=!(Hg s)) rfl (fun b=>?_) (fun b=>?_)))
 ·have e:=not_eq_t b;refine qA fun J x=>Av (iV 4) (l_k x (Aq (d ⟨rfl,Ea,ca,m,rfl,hm,(by rw[Aui e];exact rfl),fun h=>absurd ((Aui e).symm.trans h) (by decide)⟩)))
 have c:=Fs b;refine Al (kk q ?_);refine qD fun K L y B=>Au (pV r) (l_v (Ck rfl) (l_v (Hd Cev rfl (Ab Ceu)) (Arv (Dt (i:=0) (v:=.map (some ra)) ⟨_,Cen,rfl⟩ rfl rfl rfl ?_))));refine Au (.string s) (Bxw ⟨Cgi,fun _ h=>h⟩ rfl (Afc (ok:=true) Cen Ceb zr3 hm rfl rfl (lZ0 _ mC)) (Au (.tuple #[iV ((m s).getD 0),.bool ((m s).isSome)]) (l_v (Dp (iV ((m s).getD 0))) (l_v (Dp (.bool ((m s).isSome))) (Av (iV ((m s).getD 0)) (Av (.bool ((m s).isSome)) (Arx rfl rfl B fun D j=>Au (.bool ((m s).isSome)) (l_k j (Bp (t:=(m s).isSome) rfl (fun a=>?_) (fun a=>?_))))))))))
 ·refine qA fun E k=>Av (iV 5) (l_k k (Aq (d ⟨rfl,Ea,ca,m,rfl,hm,(by rw[Auj c a];exact rfl),fun h=>absurd ((Auj c a).symm.trans h) (by decide)⟩)))
 refine Al (kk y ?_);refine qA fun F n=>Au (pV r) (l_v (Ck rfl) (l_v (Hd Cev rfl (Ab Ceu)) (Arv (Dt (i:=0) (v:=.map (some ra)) ⟨_,Cen,rfl⟩ rfl rfl rfl ?_))));refine Au (.string s) (Au (iV z) (Cx rfl (Auy (i:=1) (z:=z) Cen Ceb hm rfl rfl rfl rfl fun N M f=>?_)));refine qB n fun G p=>Av (iV 0) (l_k p (Aq (d ⟨rfl,_,_,_,rfl,f,(by rw[Bfa c a];exact rfl),fun _=>rfl⟩)))
theorem Bru{r ra rb ca cb:Nat}{Ea Eb:Array MapEntry}{m t:Je}{l:LLot}{vl:Value}(hm:Xm Ea m)(ht:Xm Eb t)(rl:Val Y vl l)(hM:Bnd m (-1) 1000000000)(hT:Bnd t 0 1000000000)(hn:l.parts.length<=6):CallsH (CX mn X) 46 #[pV r,vl] Y ((r,oC #[.map (some ra),.map (some rb)] 110)::((ra,Res.obj (Obj.map Ea ca))::((rb,Res.obj (Obj.map Eb cb))::Z))) (fun w Y' Z'=>Ro.le Y Y'/\∃(es':Array MapEntry) (ck':Nat) (t':Je),Z'=(r,oC #[.map (some ra),.map (some rb)] 110)::(ra,Res.obj (.map Ea ca))::(rb,Res.obj (.map es' ck'))::Z/\Xm es' t'/\w=iV (Ho m t l)/\(Ho m t l=0->t'=tkP t l.parts/\∀p∈l.parts,1<=p.grams/\p.grams<=100000)):=by
 refine Bq 68 [4] Tryz.func46 rfl fun Q E c2=>qA fun K1 k1=>Arv (Ox (v:=vl) rfl fun k2=>?_);refine Bb (a:=l) rl fun b4 F r2=>Av (iV 0) (qB k1 fun K3 k3=>Arv (Oh fun g=>?_));refine Av (.map (some g)) (qE k3 fun K5 K6 k5 k6=>Arw (Ba LLot.f_parts Ceg rfl Fv r2) fun v7 r7=>Arw (Ax Fv rfl r7) fun v8 r8=>?_);have g9:=Val.len r8;refine l_v (Ci (el:=127) Ceh rfl r8) (Au (iV 0) (l_k k6 (Ao (Cc (fun mm ee dd Y' Z'=>∃(i:Nat) (G:Array MapEntry) (O:Nat) (K:Array MapEntry) (V:Nat),(l.parts.length-i)=mm/\[]=dd/\b4=Y'/\((g,Res.obj (Obj.map K V))::((r,oC #[.map (some ra),.map (some rb)] 110)::((ra,Res.obj (Obj.map Ea ca))::((rb,Res.obj (Obj.map G O))::Z))))=Z'/\ee 0=pV r/\ee 12=v8/\ee 13=(iV (l.parts.length:Int))/\ee 5=(.map (some g))/\ee 14=iV i/\(i<=l.parts.length)/\(∀j,j<i->Agv m t l.parts j=0)/\(Bnd (tkP t (l.parts.take i)) 0 (1000000000+100000*(i:Int)))/\(∀p∈l.parts.take i,1<=p.grams/\p.grams<=100000)/\(Xm G (tkP t (l.parts.take i)))/\Mu K (Ib (l.parts.take i))/\True) (m:=_) ⟨0,Eb,cb,#[],0,rfl,rfl,rfl,rfl,rfl,rfl,rfl,rfl,rfl,Hz _,fun j h=>absurd h (Vn _),hT.mono (by omega) (by omega),fun p h=>by simp at h,Amx (rfl) ht,Rl (fun k=>by simp[Ib]) Uh,trivial⟩ ?_))));rintro c4 bm _ _ _ ⟨i,G,O,K,V,rfl,rfl,rfl,rfl,D,ZQ,a0,N,M,c5,u,a1,a2,B,a3,_⟩;have ay:=a1;refine qA fun b5 ah=>l_v (Da M a0) (Asa ah fun b6 ai=>Bp (t:=decide ((i:Int)<(l.parts.length:Int))) rfl (fun P=>?_) (fun P=>?_))
 ·have az:=lZ2 P;refine Al (kk ai ?_);refine Ai fun b7 a6=>Ao (qA fun b8 aj=>?_);obtain⟨b,e⟩:=Ed (xs:=l.parts) (i:=i) (by omega);refine Arw (Ch i Ceh Lu ZQ r8 (q:=(i:Int)) M rfl e) fun c8 b2=>Arw (Ax Lu rfl b2) fun b3 a8=>Arv (Ct Aov fun c3=>?_);refine Cx rfl (Dv (v:=b3) (a:=b) (c:=Aou) Lu rfl rfl a8 rfl ?_);refine Bb (a:=b) a8 fun ci y x=>Asa aj fun b9 ak=>Ot ((g,Res.obj (Obj.map K V))::((r,oC #[.map (some ra),.map (some rb)] 110)::((ra,Res.obj (Obj.map Ea ca))::((rb,Res.obj (Obj.map G O))::[])))) [0,1,2,3,4,5,6,7,8,9,10,11] (by kernel_rfl) rfl rfl (Dr 0 Amg rfl ⟨Cgi,sB⟩ rfl (Yld.o (Ah (v:=pV r) D)) (Dr 1 Anv rfl ⟨Cgi,sB⟩ rfl (Yld.o (Ck rfl)) (Dr 2 (zT 3 9) rfl ⟨Cgi,sB⟩ rfl (Yld.o (Hd Cev rfl (Ab Ceu))) (Dr 3 (zT 4 8) rfl ⟨Cgi,sB⟩ rfl (Eo (v:=.map (some ra)) ⟨_,Cen,rfl⟩ rfl (lZ0 _ mC) rfl) (Amz 4 (zT 5 7) rfl ⟨Cgi,sB⟩ rfl (Aot (Ba LPart.f_of_ Cef rfl ty9 x)) ⟨Cgi,sB⟩ fun c9 a9=>?_)))));have bn:=At.slen a9;refine Dd 5 (zT 6 6) rfl ⟨Cgi,sB⟩ rfl (Yld.o (Pk ty9 rfl a9)) ⟨Cgi,sB⟩ ?_;have bz:=Aiq hM ⟨by decide,by decide⟩ b.of_;refine Dd 6 (zT 7 5) rfl ⟨Cgi,sB⟩ rfl (Afc (ok:=true) Cen Ceb zr3 hm rfl rfl (lZ0 _ (lZ0 _ mC))) ⟨Cgi,sB⟩ (Dd 7 (zT 8 4) rfl ⟨Cgi,sB⟩ rfl (Yld.o (Ah (v:=.tuple #[iV ((m b.of_).getD 0),.bool ((m b.of_).isSome)]) rfl)) ⟨Cgi,sB⟩ (Dr 8 (zT 9 3) rfl ⟨Cgi,sB⟩ rfl (Yld.o (Dp (iV ((m b.of_).getD 0)))) (Dr 9 Ans rfl ⟨Cgi,sB⟩ rfl (Yld.o (Dp (.bool ((m b.of_).isSome)))) (Dd 10 Ant rfl ⟨Cgi,sB⟩ rfl (Yld.o (Cp (v:=iV ((m b.of_).getD 0)) rfl)) ⟨Cgi,sB⟩ (Dd 11 Anu rfl ⟨Cgi,sB⟩ rfl (Yld.o (Cp (v:=.bool ((m b.of_).isSome)) rfl)) ⟨Cgi,sB⟩ (Sr rfl (kk ak ?_)))))));refine Ai fun ba al=>Ao (qA fun bb am=>Au (.bool ((m b.of_).isSome)) (l_v (Iy rfl) (Av (.bool (!((m b.of_).isSome))) (l_k am (Bp (t:=!((m b.of_).isSome)) rfl (fun R=>?_) (fun R=>?_))))))
  ·have ag:=not_eq_t R;refine qA fun bc an=>Av (iV 6) (l_k an (Aj Ghost.drop (Aq (E ?_))));have hF:Ho m t l=6:=by rw[Ho,Db u (by omega) (Ia e (Bev ag)) (by decide)]
   exact⟨(Cgj F y),_,_,_,rfl,B,(by rw[hF];exact rfl),fun h=>absurd (hF.symm.trans h) (by decide)⟩
  have C:=Fs R;refine qA fun bd ao=>l_v (Ah (v:=.map (some g)) N) (Arw (Ba LPart.f_of_ Cef rfl ty9 x) fun cc aa=>?_);have bo:=At.slen aa;refine l_v (Pk ty9 rfl aa) (Arv (Xq (i:=0) (kt:=9) (et:=4) (k:=b.of_) (pr:=Ib (l.parts.take i)) Tryz.underlying199 Ceb zr4 a3 rfl rfl rfl ?_));refine Av (.bool ((Ib (l.parts.take i)) b.of_)) (l_k ao (Bp (t:=(Ib (l.parts.take i)) b.of_) rfl (fun n=>?_) (fun n=>?_)))
  ·refine qA fun be ap=>Av (iV 5) (l_k ap (Aj Ghost.drop (Aq (E ?_))));have hF:Ho m t l=5:=by rw[Ho,Db u (by omega) (Ia e (Auh C n)) (by decide)]
   exact⟨(Cgj F y),_,_,_,rfl,B,(by rw[hF];exact rfl),fun h=>absurd (hF.symm.trans h) (by decide)⟩
  refine qA fun bf aq=>Arw (Ba LPart.f_grams Cef rfl ty3 x) fun cd ab=>?_;have⟨bp,bq⟩:=At.rng ab;refine l_v (Bc ty3 rfl ab) (Arv (Cj Pq Cff ?_));refine l_v (Iy rfl) (Av (.bool (!(inR b.grams 1 100000))) (l_k aq (Bp (t:=!(inR b.grams 1 100000)) rfl (fun T=>?_) (fun T=>?_))))
  ·have a5:=not_eq_t T;have c6:=Abc.1 a5;refine qA fun bg ar=>Av (iV 1) (l_k ar (Aj Ghost.drop (Aq (E ?_))));have hF:Ho m t l=1:=by rw[Ho,Db u (by omega) (Ia e (Aug C n a5)) (by decide)]
   exact⟨(Cgj F y),_,_,_,rfl,B,(by rw[hF];exact rfl),fun h=>absurd (hF.symm.trans h) (by decide)⟩
  have I:=Fs T;have c7:=Fz.1 I;refine Al (kk al ?_);refine qA fun bh au=>l_v (Ah (v:=.map (some g)) N) (Arw (Ba LPart.f_of_ Cef rfl ty9 x) fun ce ac=>?_);have br:=At.slen ac;refine l_v (Pk ty9 rfl ac) (Cx rfl (Afq (i:=0) (kt:=9) (et:=4) (k:=b.of_) (pr:=Ib (l.parts.take i)) Tryz.underlying199 Ceb a3 n rfl rfl rfl rfl fun L J a4=>?_));refine Asa au fun bi av=>Ot ((g,Res.obj (Obj.map L J))::((r,oC #[.map (some ra),.map (some rb)] 110)::((ra,Res.obj (Obj.map Ea ca))::((rb,Res.obj (Obj.map G O))::[])))) [0,1,2,3,4,5,6,7,8,9] (by kernel_rfl) rfl rfl (Dr 0 (zT 1 10) rfl ⟨Cgi,sB⟩ rfl (Yld.o (Ah (v:=pV r) D)) (Dr 1 (zT 2 9) rfl ⟨Cgi,sB⟩ rfl (Yld.o (Ck rfl)) (Dr 2 (zT 3 8) rfl ⟨Cgi,sB⟩ rfl (Yld.o (Hd Cev rfl (Ab Ceu))) (Dr 3 (zT 4 7) rfl ⟨Cgi,sB⟩ rfl (Eo (v:=.map (some rb)) ⟨_,Cen,rfl⟩ rfl (lZ0 _ mC) rfl) (Bfe 4 (zT 5 6) rfl ⟨Cgi,sB⟩ rfl (Aot (Ba LPart.f_of_ Cef rfl ty9 x)) fun cf ad=>?_)))));have bt:=At.slen ad;refine Dr 5 (zT 6 5) rfl ⟨Cgi,sB⟩ rfl (Yld.o (Pk ty9 rfl ad)) ?_;have c0:=Aiq ay ⟨by omega,by omega⟩ b.of_;refine Dr 6 (zT 7 4) rfl ⟨Cgi,sB⟩ rfl (Afc (ok:=false) Cen Ceb zr3 B rfl rfl (lZ0 _ (lZ0 _ (lZ0 _ mC)))) (Amz 7 (zT 8 3) rfl ⟨Cgi,sB⟩ rfl (Aot (Ba LPart.f_grams Cef rfl ty3 x)) ⟨Cgi,sB⟩ fun cg ae=>?_);have⟨bu,bv⟩:=At.rng ae;refine Dd 8 (zT 9 2) rfl ⟨Cgi,sB⟩ rfl (Yld.o (Bc ty3 rfl ae)) ⟨Cgi,sB⟩ (Dd 9 (zT 10 1) rfl ⟨Cgi,sB⟩ rfl (Yld.o (Br rfl rfl (z:=(((tkP t (l.parts.take i)) b.of_).getD 0)+b.grams) (Bo (by rfl) (by omega) (by omega)))) ⟨Cgi,sB⟩ (Yz 10 (zT 11 0) rfl rfl (Auy (i:=3) (z:=(((tkP t (l.parts.take i)) b.of_).getD 0)+b.grams) Cen Ceb B rfl rfl rfl rfl fun YQ W H=>?_)));refine Sr rfl (kk av ?_);refine Ai fun bj a7=>Ot ((g,Res.obj (Obj.map L J))::((r,oC #[.map (some ra),.map (some rb)] 110)::((ra,Res.obj (Obj.map Ea ca))::((rb,Res.obj (Obj.map YQ W))::[])))) [0,1,2,3,4,5,6,7,8,9,10,11,12] (by kernel_rfl) rfl rfl (Dd 0 (zT 1 12) rfl ⟨Cgi,sB⟩ rfl (Yld.o (Ah (v:=iV ((m b.of_).getD 0)) rfl)) ⟨Cgi,sB⟩ (Dd 1 (zT 2 11) rfl ⟨Cgi,sB⟩ rfl (Yld.o (Uy rfl rfl)) ⟨Cgi,sB⟩ (Dd 2 (zT 3 10) rfl ⟨Cgi,sB⟩ rfl (Yld.o (Ah (v:=.bool (decide (((m b.of_).getD 0)>=0))) rfl)) ⟨Cgi,sB⟩ (Bfd (decide (((m b.of_).getD 0)>=0)) (fun d=>?_) (fun d=>?_)))))
  ·have b0:=lZ2 d;refine Dr 3 (zT 4 9) rfl ⟨Cgi,sB⟩ (qF d) (Yld.o (Ah (v:=pV r) D)) (Dr 4 (zT 5 8) rfl ⟨Cgi,sB⟩ (qF d) (Yld.o (Ck rfl)) (Dr 5 (zT 6 7) rfl ⟨Cgi,sB⟩ (qF d) (Yld.o (Hd Cev rfl (Ab Ceu))) (Dr 6 (zT 7 6) rfl ⟨Cgi,sB⟩ (qF d) (Eo (v:=.map (some rb)) ⟨_,Cen,rfl⟩ rfl (lZ0 _ mC) rfl) (Bfe 7 (zT 8 5) rfl ⟨Cgi,sB⟩ (qF d) (Aot (Ba LPart.f_of_ Cef rfl ty9 x)) fun ch af=>?_))));have bx:=At.slen af;refine Dr 8 (zT 9 4) rfl ⟨Cgi,sB⟩ (qF d) (Yld.o (Pk ty9 rfl af)) ?_;have c1:=Bis (f:=tkP t (l.parts.take i)) (k:=b.of_) (z:=((tkP t (l.parts.take i)) b.of_).getD 0+b.grams);refine Dr 9 (zT 10 3) rfl ⟨Cgi,sB⟩ (qF d) (Afc (ok:=false) Cen Ceb zr3 H rfl rfl (lZ0 _ (lZ0 _ (lZ0 _ mC)))) (Dd 10 (zT 11 2) rfl ⟨Cgi,sB⟩ (qF d) (Yld.o (Ah (v:=iV ((m b.of_).getD 0)) rfl)) ⟨Cgi,sB⟩ (Dd 11 (zT 12 1) rfl ⟨Cgi,sB⟩ (qF d) (Yld.o (Gl rfl rfl)) ⟨Cgi,sB⟩ (Dd 12 (zT 13 0) rfl ⟨Cgi,sB⟩ rfl (Yld.o (Bt rfl d (v:=.bool (decide ((((Rh (tkP t (l.parts.take i)) b.of_ ((((tkP t (l.parts.take i)) b.of_).getD 0)+b.grams)) b.of_).getD 0)>((m b.of_).getD 0)))) rfl)) ⟨Cgi,sB⟩ (Sr rfl (kk a7 ?_)))));refine Bp (t:=decide ((((Rh (tkP t (l.parts.take i)) b.of_ ((((tkP t (l.parts.take i)) b.of_).getD 0)+b.grams)) b.of_).getD 0)>((m b.of_).getD 0))) rfl (fun U=>?_) (fun U=>?_)
   ·have b1:=lZ2 U;refine qA fun bk aw=>Av (iV 8) (l_k aw (Aj Ghost.drop (Aq (E ?_))));have hF:Ho m t l=8:=by rw[Ho,Db u (by omega) (Ia e (Bew C n I (by omega) (by omega))) (by decide)]
    exact⟨(Cgj F y),_,_,_,rfl,H,(by rw[hF];exact rfl),fun h=>absurd (hF.symm.trans h) (by decide)⟩
   have b1:=lZ1 U;refine Al (kk a6 ?_);refine qC (l_v (Br M rfl (z:=(((i+1):Nat):Int)) wrE) (Au (iV ((i+1):Nat)) (Bj (Cgg y) (Ac ?_))));refine⟨_,?_,(i+1),YQ,W,L,J,rfl,rfl,rfl,rfl,D,ZQ,a0,N,rfl,(by omega),(Eg u (Ia e (Aiv C n I (by omega)))),(by rw[Aes e];exact Zn (a1.mono (by omega) (by omega)) ⟨by omega,by omega⟩ _),(Alo e a2 (by omega)),(Amx (by rw[Aes e]) H),(Rl (Acl e) a4),trivial⟩;omega
  have b0:=lZ1 d;refine Hn 3 (zT 4 9) rfl ⟨Cgi,sB⟩ (gN rfl d) (Hn 4 (zT 5 8) rfl ⟨Cgi,sB⟩ (gN rfl d) (Hn 5 (zT 6 7) rfl ⟨Cgi,sB⟩ (gN rfl d) (Hn 6 (zT 7 6) rfl ⟨Cgi,sB⟩ (gN rfl d) (Hn 7 (zT 8 5) rfl ⟨Cgi,sB⟩ (gN rfl d) (Hn 8 (zT 9 4) rfl ⟨Cgi,sB⟩ (gN rfl d) (Hn 10 [o1,o1,o1,o1,o1,o1,o1,o1,o1,o0,o1,o0,o0] rfl ⟨Cgi,sB⟩ (gN rfl d) (Hn 9 (zT 11 2) rfl ⟨Cgi,sB⟩ (gN rfl d) (Hn 11 (zT 12 1) rfl ⟨Cgi,sB⟩ (gN rfl d) (Dd 12 (zT 13 0) rfl ⟨Cgi,sB⟩ rfl (Yld.o (Bn rfl d (v:=bF) rfl)) ⟨Cgi,sB⟩ (Sr rfl (kk a7 ?_)))))))))));refine Cg rfl rfl (Al (kk a6 ?_));refine qC (l_v (Br M rfl (z:=(((i+1):Nat):Int)) wrE) (Au (iV ((i+1):Nat)) (Bj (Cgg y) (Ac ?_))));refine⟨_,?_,(i+1),YQ,W,L,J,rfl,rfl,rfl,rfl,D,ZQ,a0,N,rfl,(by omega),(Eg u (Ia e (Aiv C n I (by omega)))),(by rw[Aes e];exact Zn (a1.mono (by omega) (by omega)) ⟨by omega,by omega⟩ _),(Alo e a2 (by omega)),(Amx (by rw[Aes e]) H),(Rl (Acl e) a4),trivial⟩;omega
 have az:=lZ1 P;refine Bx (kk k5 ?_);refine qA fun bl ax=>Av (iV 0) (l_k ax (Aj Ghost.drop (Aq (E ?_))));have hiL:i=l.parts.length:=by omega
 have hF:Ho m t l=0:=by rw[Ho,Fb fun j hj=>u j (by omega)]
 exact⟨F,_,_,_,rfl,B,(by rw[hF];exact rfl),fun _=>⟨by rw[hiL,Ve],fun p hp=>a2 p (by rw[hiL,Ve];exact hp)⟩⟩
theorem Avr{b:LBook}{vb:Value}(rv:Val Y vb b):CallsH (CX mn X) 16 #[vb] Y Z (rP Y Z (iV (Hb b))):=by
 refine Bq 83 [2] Tryz.func16 rfl fun Q x eb=>qA fun K1 k1=>Arv (Ox (v:=vb) rfl fun k2=>?_);refine Bb (a:=b) rv fun az y U=>Av (iV 0) (qE k1 fun K3 K4 k3 k4=>Arw (Ba LBook.f_fields Cec rfl Hw U) fun v5 r5=>Arw (Ax Hw rfl r5) fun v6 r6=>?_);have g7:=Val.len r6;refine l_v (Ci (el:=9) Ced rfl r6) (l_v (Gl rfl rfl) (l_k k4 (Bp (t:=decide ((b.fields.length:Int)>5)) rfl (fun b8=>?_) (fun b8=>?_))))
 ·have q8:=lZ2 b8;refine qA fun K9 k9=>Av (iV 2) (l_k k9 (Aj (Cgg y) (Aq (x (rT (iV 2) ?_)))));rw[Bet (by omega)]
 have q8:=lZ1 b8;refine Al (kk k3 ?_);refine qA fun d2 bl=>Arv (Oh fun g=>?_);refine Arv (Oh fun n=>?_);refine l_v (Dn (ns:=[1,1]) (vs:=[(0,(.map (some g))),(1,(.map (some n)))]) (zc:=Cao) (cs:=[.map (some g),.map (some n)]) Cev Cat rfl ⟨⟨_,Ab Ceu,rfl⟩,⟨_,Ab Ceu,rfl⟩,trivial⟩ (EvB.map ⟨⟨rfl,rfl⟩,⟨rfl,rfl⟩,trivial⟩) ((Be (cs:=[.map (some g)]) rfl rfl nL).trans ((Be (cs:=[.map (some n)]) rfl rfl nL).trans rfl))) (Arv (Ox (v:=.agg #[.map (some g),.map (some n)]) rfl fun k=>?_));refine Av (pV k) (qE bl fun d3 d4 bm bn=>Arw (Ba LBook.f_fields Cec rfl Hw U) fun en cq=>Arw (Ax Hw rfl cq) fun cx ad=>?_);have e2:=Val.len ad;refine l_v (Ci (el:=9) Ced rfl ad) (Au (iV 0) (l_k bn (Ao (Cc (fun mm ee dd Y' Z'=>∃(f:Nat) (O:Array MapEntry) (a8:Nat),(b.fields.length-f)=mm/\[]=dd/\az=Y'/\((k,oC #[.map (some g),.map (some n)] 110)::((n,Res.obj (Obj.map #[] 0))::((g,Res.obj (Obj.map O a8))::Z)))=Z'/\ee 1=pV k2/\ee 3=pV k/\ee 21=cx/\ee 22=(iV (b.fields.length:Int))/\ee 23=iV f/\(f<=b.fields.length)/\(∀j,j<f->Jw b.fields j=0)/\(Xm O (Ic (b.fields.take f)))/\True) (m:=_) ⟨0,#[],0,rfl,rfl,rfl,rfl,rfl,rfl,rfl,rfl,rfl,Hz _,fun j h=>absurd h (Vn _),Amx (rfl) Amo,trivial⟩ ?_))));rintro ed e0 _ _ _ ⟨f,O,a8,rfl,rfl,rfl,rfl,a1,a3,ai,aj,a2,eh,B,an,_⟩;refine qA fun d5 bo=>l_v (Da a2 aj) (Asa bo fun d6 bp=>Bp (t:=decide ((f:Int)<(b.fields.length:Int))) rfl (fun V=>?_) (fun V=>?_))
 ·have cl:=lZ2 V;refine Al (kk bp ?_);refine Ai fun d7 bq=>Ao (qA fun d8 br=>?_);obtain⟨u,M⟩:=Ed (xs:=b.fields) (i:=f) (by omega);refine Arw (Ch f Ced ty9 ai ad (q:=(f:Int)) a2 rfl M) fun eo ap=>?_;have e3:=At.slen ap;refine l_v (Pk ty9 rfl ap) (Av (.string u) (qB br fun d9 bt=>l_v (Ah (v:=pV k) a3) (Au (.string u) (Bj (Cgh Arz) (Bj (Cgh (Me Arz)) (Bj (Cgh (Me Arz)) (Arv (Cm (vs:=[pV k,.string u,iV (-1)]) (Bwv (r:=k) (ra:=g) (rb:=n) (z:=-1) an Amo (by omega)) Tryz.func43 rfl rfl ⟨rfl,rfl,rfl,trivial⟩ fun ey f0 f3 bf=>?_))))))));obtain⟨a6,b6,b3,ef,bh,be,bj,bc⟩:=bf;replace a6:=a6.symm;subst a6 bh bj;refine Av (iV (Sn (Ic (b.fields.take f)) u)) (qB bt fun da bu=>Au (iV (Sn (Ic (b.fields.take f)) u)) (l_v (Dg rfl rfl) (l_k bu (Bp (t:=(Sn (Ic (b.fields.take f)) u) != 0) rfl (fun E=>?_) (fun E=>?_)))))
  ·have cm:=Ls E;refine qA fun db bv=>Au (iV (Sn (Ic (b.fields.take f)) u)) (Av (iV (Sn (Ic (b.fields.take f)) u)) (l_k bv (Aj Ghost.drop (Aj Ghost.drop (Aj Ghost.drop (Aj (Cgg y) (Aq (x (rT (iV (Sn (Ic (b.fields.take f)) u)) ?_)))))))));rw[Bbs (by omega) (Db B (by omega) (Uk M rfl) (Ls E)) (Ls E)]
  have al:=Jh E;have ba:=bc al;subst ba;have cm:=Jh E;refine Al (kk bq ?_);refine qC (l_v (Br a2 rfl (z:=(((f+1):Nat):Int)) wrE) (Au (iV ((f+1):Nat)) (Bj (Cgh (Me Arz)) (Bj (Cgh Arz) (Ac ?_)))));refine⟨_,?_,(f+1),b6,b3,rfl,rfl,rfl,rfl,a1,a3,ai,aj,rfl,(by omega),(Eg B (Uk M al)),(Amx (by rw[Bhj M]) be),trivial⟩;omega
 have cl:=lZ1 V;refine Bx (kk bm ?_);refine qD fun dc de bx bz=>Arw (Ba LBook.f_lots Cec rfl Ee U a1) fun ep cr=>Arw (Ax Ee rfl cr) fun eq aq=>?_;have e4:=Val.len aq;refine l_v (Ci (el:=51) Cee rfl aq) (l_v (Gl rfl rfl) (l_k bz (Bp (t:=decide ((b.lots.length:Int)>8)) rfl (fun W=>?_) (fun W=>?_))))
 ·have cn:=lZ2 W;refine qA fun df c0=>Av (iV 2) (l_k c0 (Aj Ghost.drop (Aj Ghost.drop (Aj Ghost.drop (Aj (Cgg y) (Aq (x (rT (iV 2) ?_))))))));rw[Beu (by omega) (Fb fun j hj=>B j (by omega)) (by omega)]
 have cn:=lZ1 W;refine Al (kk bx ?_);refine qD fun dg dh c1 c2=>Arw (Ba LBook.f_lots Cec rfl Ee U a1) fun er ct=>Arw (Ax Ee rfl ct) fun cy ae=>?_;have e5:=Val.len ae;refine l_v (Ci (el:=51) Cee rfl ae) (Au (iV 0) (l_k c2 (Ao (Cc (fun mm ee dd Y' Z'=>∃(l:Nat) (P:Array MapEntry) (a9:Nat) (R:Array MapEntry) (aa:Nat),(b.lots.length-l)=mm/\[]=dd/\az=Y'/\((k,oC #[.map (some g),.map (some n)] 110)::((n,Res.obj (Obj.map R aa))::((g,Res.obj (Obj.map P a9))::Z)))=Z'/\ee 3=pV k/\ee 39=cy/\ee 40=(iV (b.lots.length:Int))/\ee 41=iV l/\(l<=b.lots.length)/\(∀j,j<l->Nz b j=0)/\(Bnd (Jd (Ic b.fields) (b.lots.take l)) (-1) 1000000000)/\(Bnd (tkM (b.lots.take l)) 0 (600000*(l:Int)))/\(Xm P (Jd (Ic b.fields) (b.lots.take l)))/\(Xm R (tkM (b.lots.take l)))/\True) (m:=_) ⟨0,O,a8,#[],0,rfl,rfl,rfl,rfl,a3,rfl,rfl,rfl,Hz _,fun j h=>absurd h (Vn _),Bsy _,Avp,Amx (by rw[show f=b.fields.length by omega,Ve];rfl) an,Amx (rfl) Amo,trivial⟩ ?_))));rintro eg e1 _ _ _ ⟨l,P,a9,R,aa,rfl,rfl,rfl,rfl,J,a4,a5,L,ei,D,ab,ac,T,cj,_⟩;have ao:=ab;have ck:=ac.mono (Xy _) (show 600000*(l:Int)<=1000000000 by omega);refine qA fun di c3=>l_v (Da L a5) (Asa c3 fun dj c4=>Bp (t:=decide ((l:Int)<(b.lots.length:Int))) rfl (fun YQ=>?_) (fun YQ=>?_))
 ·have co:=lZ2 YQ;refine Al (kk c4 ?_);refine Ai fun dk am=>Ao (qA fun dl c5=>?_);obtain⟨d,e⟩:=Ed (xs:=b.lots) (i:=l) (by omega);refine Arw (Ch l Cee Fm a4 ae (q:=(l:Int)) L rfl e) fun es cu=>Arw (Ax Fm rfl cu) fun cz ar=>Arv (Ct Ave fun ec=>?_);refine Cx rfl (Dv (v:=cz) (a:=d) (c:=Avd) Fm rfl rfl ar rfl ?_);refine Bb (a:=d) ar fun f1 G C=>Asa c5 fun dm c6=>Ot ((k,oC #[.map (some g),.map (some n)] 110)::((n,Res.obj (Obj.map R aa))::((g,Res.obj (Obj.map P a9))::[]))) [0,1,2,3,4,5,6,7,8,9,10,11] (by kernel_rfl) rfl rfl (Dr 0 Amg rfl ⟨Cgi,sB⟩ rfl (Yld.o (Ah (v:=pV k) J)) (Dr 1 Anv rfl ⟨Cgi,sB⟩ rfl (Yld.o (Ck rfl)) (Dr 2 (zT 3 9) rfl ⟨Cgi,sB⟩ rfl (Yld.o (Hd Cev rfl (Ab Ceu))) (Dr 3 (zT 4 8) rfl ⟨Cgi,sB⟩ rfl (Eo (v:=.map (some g)) ⟨_,Cen,rfl⟩ rfl mC rfl) (Amz 4 (zT 5 7) rfl ⟨Cgi,sB⟩ rfl (Aot (Ba LLot.f_name Ceg rfl ty9 C)) ⟨Cgi,sB⟩ fun et au=>?_)))));have e6:=At.slen au;refine Dd 5 (zT 6 6) rfl ⟨Cgi,sB⟩ rfl (Yld.o (Pk ty9 rfl au)) ⟨Cgi,sB⟩ ?_;have ea:=Aiq ao ⟨by decide,by decide⟩ d.name;refine Dd 6 (zT 7 5) rfl ⟨Cgi,sB⟩ rfl (Afc (ok:=true) Cen Ceb zr3 T rfl rfl (lZ0 _ (lZ0 _ mC))) ⟨Cgi,sB⟩ (Dd 7 (zT 8 4) rfl ⟨Cgi,sB⟩ rfl (Yld.o (Ah (v:=.tuple #[iV (((Jd (Ic b.fields) (b.lots.take l)) d.name).getD 0),.bool (((Jd (Ic b.fields) (b.lots.take l)) d.name).isSome)]) rfl)) ⟨Cgi,sB⟩ (Dr 8 (zT 9 3) rfl ⟨Cgi,sB⟩ rfl (Yld.o (Dp (iV (((Jd (Ic b.fields) (b.lots.take l)) d.name).getD 0)))) (Dr 9 Ans rfl ⟨Cgi,sB⟩ rfl (Yld.o (Dp (.bool (((Jd (Ic b.fields) (b.lots.take l)) d.name).isSome)))) (Dd 10 Ant rfl ⟨Cgi,sB⟩ rfl (Yld.o (Cp (v:=iV (((Jd (Ic b.fields) (b.lots.take l)) d.name).getD 0)) rfl)) ⟨Cgi,sB⟩ (Dd 11 Anu rfl ⟨Cgi,sB⟩ rfl (Yld.o (Cp (v:=.bool (((Jd (Ic b.fields) (b.lots.take l)) d.name).isSome)) rfl)) ⟨Cgi,sB⟩ (Sr rfl (kk c6 ?_)))))));refine Ai fun dn c7=>Ao (qA fun dp c8=>Arw (Ba LLot.f_name Ceg rfl ty9 C) fun eu av=>?_);have e7:=At.slen av;refine l_v (Pk ty9 rfl av) (Arv (Cj (Adb (by first|omega|(rw[Jo];omega))) Cfr ?_));refine l_v (Iy rfl) (Av (.bool (!(Hg d.name))) (l_k c8 (Bp (t:=!(Hg d.name)) rfl (fun ZQ=>?_) (fun ZQ=>?_))))
  ·have b2:=not_eq_t ZQ;refine qA fun dq c9=>Av (iV 4) (l_k c9 (Aj Ghost.drop (Aj Ghost.drop (Aj Ghost.drop (Aj (Cgg (Cgj y G)) (Aq (x (rT (iV 4) ?_))))))));rw[Yx (by omega) (Fb fun j hj=>B j (by omega)) (by omega) (Db D (by omega) (Nn e (Bvu b2)) (by decide))]
  have H:=Fs ZQ;refine qA fun dr ca=>Au (.bool (((Jd (Ic b.fields) (b.lots.take l)) d.name).isSome)) (Av (.bool (((Jd (Ic b.fields) (b.lots.take l)) d.name).isSome)) (l_k ca (Bp (t:=((Jd (Ic b.fields) (b.lots.take l)) d.name).isSome) rfl (fun F=>?_) (fun F=>?_))))
  ·refine qA fun ds cb=>Av (iV 5) (l_k cb (Aj Ghost.drop (Aj Ghost.drop (Aj Ghost.drop (Aj (Cgg (Cgj y G)) (Aq (x (rT (iV 5) ?_))))))));rw[Yx (by omega) (Fb fun j hj=>B j (by omega)) (by omega) (Db D (by omega) (Nn e (Bnu H F)) (by decide))]
  refine qA fun dt cc=>Arw (Ba LLot.f_parts Ceg rfl Fv C) fun ev cv=>Arw (Ax Fv rfl cv) fun ew aw=>?_;have e8:=Val.len aw;refine l_v (Ci (el:=127) Ceh rfl aw) (Arv (Cj Pq Cff ?_));refine l_v (Iy rfl) (Av (.bool (!(inR (d.parts.length:Int) 1 6))) (l_k cc (Bp (t:=!(inR (d.parts.length:Int) 1 6)) rfl (fun a0=>?_) (fun a0=>?_))))
  ·have af:=not_eq_t a0;have ej:=Abc.1 af;refine qA fun du cd=>Av (iV 2) (l_k cd (Aj Ghost.drop (Aj Ghost.drop (Aj Ghost.drop (Aj (Cgg (Cgj y G)) (Aq (x (rT (iV 2) ?_))))))));rw[Yx (by omega) (Fb fun j hj=>B j (by omega)) (by omega) (Db D (by omega) (Nn e (Bvt H F af)) (by decide))]
  have K:=Fs a0;have ek:=Fz.1 K;refine Al (kk c7 ?_);refine qD fun dv dw ce cf=>l_v (Ah (v:=pV k) J) (Arw (Ax Fm rfl C) fun d0 cw=>Bj (Cgh Arz) (Bj (Cgh (Me Arz)) (Bj (Cgh (Me Arz)) (Arv (Cm (vs:=[pV k,d0]) (Bru (r:=k) (ra:=g) (rb:=n) T cj cw ao ck (by omega)) Tryz.func46 rfl rfl ⟨rfl,rfl,trivial⟩ fun ez f2 f4 bg=>?_)))));obtain⟨N,ah,ag,em,bi,ak,bk,bd⟩:=bg;subst bi bk;replace C:=At.mono N C;refine Av (iV (Ho (Jd (Ic b.fields) (b.lots.take l)) (tkM (b.lots.take l)) d)) (qB cf fun dx cg=>Au (iV (Ho (Jd (Ic b.fields) (b.lots.take l)) (tkM (b.lots.take l)) d)) (l_v (Dg rfl rfl) (l_k cg (Bp (t:=(Ho (Jd (Ic b.fields) (b.lots.take l)) (tkM (b.lots.take l)) d) != 0) rfl (fun I=>?_) (fun I=>?_)))))
  ·have cp:=Ls I;refine qA fun dy ch=>Au (iV (Ho (Jd (Ic b.fields) (b.lots.take l)) (tkM (b.lots.take l)) d)) (Av (iV (Ho (Jd (Ic b.fields) (b.lots.take l)) (tkM (b.lots.take l)) d)) (l_k ch (Aj Ghost.drop (Aj Ghost.drop (Aj Ghost.drop (Aj (Cgg (Cgj (Cgj y G) N)) (Aq (x (rT (iV (Ho (Jd (Ic b.fields) (b.lots.take l)) (tkM (b.lots.take l)) d)) ?_)))))))));rw[Yx (by omega) (Fb fun j hj=>B j (by omega)) (by omega) (Db D (by omega) (Nn e (Yv H F K)) (Ls I))]
  have a7:=Jh I;obtain⟨bb,w⟩:=bd a7;subst bb;have cp:=Jh I;refine Al (kk ce ?_);refine Xp (Dy 0 zZ9 rfl (Ah (v:=pV k) J) (Dy 1 Ajy rfl (Ck rfl) (Dy 2 Ajz rfl (Hd Cev rfl (Ab Ceu)) (Fd 4 [o1,o1,o1,o0,o1,o0,o0,o0,o0] rfl (Ba LLot.f_name Ceg rfl ty9 C) fun ex ax=>?_))));have e9:=At.slen ax;refine Dy 5 [o1,o1,o1,o0,o1,o1,o0,o0,o0] rfl (Pk ty9 rfl ax) (Fd 6 [o1,o1,o1,o0,o1,o1,o1,o0,o0] rfl (Ax Fm rfl C) fun d1 ay=>Acq (i:=3) (j:=7) Aka [o1,o1,o1,o0,o1,o1,o1,o1,o0] rfl rfl (by kernel_rfl) rfl rfl rfl rfl ?_ ?_)
  ·refine Dt (i:=0) (v:=.map (some g)) ⟨_,Cen,rfl⟩ rfl rfl rfl ⟨Cgi,?_⟩;refine Qw 7 zZ6 rfl (Bm (Ate ay (by omega) (fun p hp=>by have:=w p hp;omega)) Cfy rfl rfl ⟨rfl,trivial⟩ ⟨Cgi,?_⟩);refine Zk 8 zZ7 rfl (Auy (i:=1) (z:=Cw d) Cen Ceb T rfl rfl rfl rfl fun b7 b4 b0=>⟨Cgi,?_⟩);refine Ec rfl (kk am ?_);refine qC (l_v (Br L rfl (z:=(((l+1):Nat):Int)) wrE) (Au (iV ((l+1):Nat)) (Bj (Cgh (Me Arz)) (Bj (Cgh Arz) (Bj (Cgg (Cgj G N)) (Ac ?_))))));refine⟨_,?_,(l+1),b7,b4,ah,ag,rfl,rfl,rfl,rfl,J,a4,a5,rfl,(by omega),(Eg D (Nn e ((Yv H F K).trans a7))),(by rw[Aad e];exact Zn ab ⟨by have:=Wi w;unfold Cw;omega,by have:=Wi w;unfold Cw;omega⟩ _),(by rw[Aeq e];exact(Auu (by omega) w ac).mono (by omega) (by omega)),(Amx (by rw[Aad e]) b0),(Amx (by rw[Aeq e]) ak),trivial⟩;omega
  ·refine Bm (vs:=[d1]) (v:=iV (Cw d)) (Ate ay (by omega) (fun p hp=>by have:=w p hp;omega)) Cfy rfl rfl ⟨rfl,trivial⟩ ⟨Cgi,?_⟩;refine Qw 3 zZ6 rfl (Dt (i:=0) (v:=.map (some g)) ⟨_,Cen,rfl⟩ rfl rfl rfl ⟨Cgi,?_⟩);refine Zk 8 zZ7 rfl (Auy (i:=1) (z:=Cw d) Cen Ceb T rfl rfl rfl rfl fun b9 b5 b1=>⟨Cgi,?_⟩);refine Ec rfl (kk am ?_);refine qC (l_v (Br L rfl (z:=(((l+1):Nat):Int)) wrE) (Au (iV ((l+1):Nat)) (Bj (Cgh (Me Arz)) (Bj (Cgh Arz) (Bj (Cgg (Cgj G N)) (Ac ?_))))));refine⟨_,?_,(l+1),b9,b5,ah,ag,rfl,rfl,rfl,rfl,J,a4,a5,rfl,(by omega),(Eg D (Nn e ((Yv H F K).trans a7))),(by rw[Aad e];exact Zn ab ⟨by have:=Wi w;unfold Cw;omega,by have:=Wi w;unfold Cw;omega⟩ _),(by rw[Aeq e];exact(Auu (by omega) w ac).mono (by omega) (by omega)),(Amx (by rw[Aad e]) b1),(Amx (by rw[Aeq e]) ak),trivial⟩;omega
 have co:=lZ1 YQ;refine Bx (kk c1 ?_);refine qA fun dz ci=>Av (iV 0) (l_k ci (Aj Ghost.drop (Aj Ghost.drop (Aj Ghost.drop (Aj (Cgg y) (Aq (x (rT (iV 0) ?_))))))));rw[Yx (by omega) (Fb fun j hj=>B j (by omega)) (by omega) (Fb fun j hj=>D j (by omega))]
end
section
structure Mv where
 dst:Nat
 fld:Bool
 src:Nat
 g:Int
def Vg(j:Nat):List Mv->Int
 | []=>0
 | m::M=>(if m.dst=j then m.g else 0)+Vg j M
def Rf(j:Nat):List Mv->Int
 | []=>0
 | m::M=>(if m.fld=false/\m.src=j then m.g else 0)+Rf j M
def Akt(F C:Nat->Bool)(m:Mv):Bool:=C m.dst&&(if m.fld then F m.src else !C m.src)
def Nu(F C:Nat->Bool):List Mv->Int
 | []=>0
 | m::M=>(if Akt F C m then m.g else 0)+Nu F C M
theorem Aea{j:Nat}{A B:List Mv}:Vg j (A++B)=Vg j A+Vg j B:=by
 induction A with
 | nil=>simp[Vg]
 | cons m A ih=>rw[Te,Vg,Vg,ih];omega
theorem Wf{j:Nat}{A B:List Mv}:Rf j (A++B)=Rf j A+Rf j B:=by
 induction A with
 | nil=>simp[Rf]
 | cons m A ih=>rw[Te,Rf,Rf,ih];omega
theorem Rb{F C:Nat->Bool}{A B:List Mv}:Nu F C (A++B)=Nu F C A+Nu F C B:=by
 induction A with
 | nil=>simp[Nu]
 | cons m A ih=>rw[Te,Nu,Nu,ih];omega
theorem Yi{F C:Nat->Bool}:∀{A:List Mv},(∀m∈A,0<=m.g)->0<=Nu F C A
 | [],_=>Xy _
 | m::A,h=>by
  have h1:=h m mC;have b:=Yi (F:=F) (C:=C) fun x hx=>h x (lZ0 _ hx);rw[Nu];split<;>omega
def Iq(N:Nat)(F:Nat->Bool)(v:Nat->Int):Int:=Df N fun f=>if F f then v f else 0
structure Thr(n N:Nat)(M:List Mv)(left:Nat->Nat->Int):Prop where
 nn:∀j f,0<=left j f
 tot:∀j,j<n->Df N (left j)=Vg j M-Rf j M
 cut:∀F C:Nat->Bool,Df n (fun j=>if C j then Iq N F (left j) else 0)<=Nu F C M
theorem Ahd:∀{N:Nat} {v:Nat->Int} {g:Int},(∀f,0<=v f)->0<=g->g<=Df N v->∃d:Nat->Int,(∀f,0<=d f)/\(∀f,d f<=v f)/\Df N d=g
 | 0,v,g,hv,h0,h1=>⟨fun _=>0,fun _=>Xy _,hv,by have:Df 0 v=0:=rfl;have:Df 0 (fun _=>(0:Int))=0:=rfl;omega⟩
 | N+1,v,g,hv,h0,h1=>by
  have e:Df (N+1) v=Df N v+v N:=rfl;have hN:=hv N;by_cases hg:g<=Df N v
  ·obtain⟨d,a,b,c⟩:=Ahd (N:=N) hv h0 hg;refine⟨fun f=>if f<N then d f else 0,fun f=>?_,fun f=>?_,?_⟩
   ·show 0<=(if f<N then d f else 0);split;exact a f;omega
   ·show (if f<N then d f else 0)<=v f;split;exact b f;exact hv f
   ·have j:Df (N+1) (fun f=>if f<N then d f else 0)=Df N (fun f=>if f<N then d f else 0)+(if N<N then d N else 0):=rfl;rw[j,Et (g:=d) fun i hi=>if_pos hi,if_neg (by omega),c];omega
  ·obtain⟨d,a,b,c⟩:=Ahd (N:=N) (v:=v) (g:=Df N v) hv (Sa fun i _=>hv i) (Xy _);refine⟨fun f=>if f<N then d f else if f=N then g-Df N v else 0,fun f=>?_,fun f=>?_,?_⟩
   ·show 0<=(if f<N then d f else if f=N then g-Df N v else 0);split;exact a f;split<;>omega
   ·show (if f<N then d f else if f=N then g-Df N v else 0)<=v f;split;exact b f;split
    ·rename_i h;subst h;omega
    ·exact hv f
   ·have j:Df (N+1) (fun f=>if f<N then d f else if f=N then g-Df N v else 0)=Df N (fun f=>if f<N then d f else if f=N then g-Df N v else 0)+(if N<N then d N else if N=N then g-Df N v else 0):=rfl;rw[j,Et (g:=d) fun i hi=>if_pos hi,if_neg (by omega),if_pos rfl,c];omega
theorem Agw{N:Nat}{F:Nat->Bool}{v d:Nat->Int}:Iq N F (fun f=>v f+d f)=Iq N F v+Iq N F d:=by unfold Iq;rw[<-Ajf];exact Et fun i _=>by cases F i<;>simp
theorem Bip{N:Nat}{F:Nat->Bool}{v d:Nat->Int}:Iq N F (fun f=>v f-d f)=Iq N F v-Iq N F d:=by
 have:=Agw (N:=N) (F:=F) (v:=fun f=>v f-d f) (d:=d);have e:(fun f=>v f-d f+d f)=v:=funext fun f=>by omega
 rw[e]at this;omega
theorem Box{N:Nat}{F:Nat->Bool}{d:Nat->Int}(h:∀f,0<=d f):Iq N F d<=Df N d:=Oe fun i _=>by have:=h i;split<;>omega
theorem Aei{N:Nat}{F:Nat->Bool}{d:Nat->Int}(h:∀f,0<=d f):0<=Iq N F d:=Sa fun i _=>by have:=h i;split<;>omega
theorem Bqc{N:Nat}{v d:Nat->Int}:Df N (fun f=>v f-d f)=Df N v-Df N d:=by
 have:=Ajf (n:=N) (f:=fun f=>v f-d f) (g:=d);have e:(fun f=>v f-d f+d f)=v:=funext fun f=>by omega
 rw[e]at this;omega
theorem Aof{N k:Nat}{g:Int}(hk:k<N):Df N (fun f=>if f=k then g else 0)=g:=by have:=Mb (n:=N) (k:=k) (f:=fun _=>0) (g:=fun f=>if f=k then g else 0) hk fun i _ hi=>if_neg hi;rw[this,Ii fun _ _=>rfl,if_pos rfl];omega
theorem Bio{N k:Nat}{F:Nat->Bool}{g:Int}(hk:k<N):Iq N F (fun f=>if f=k then g else 0)=if F k then g else 0:=by
 unfold Iq;have:(fun f=>if F f then (if f=k then g else 0) else 0)=fun f=>if f=k then (if F k then g else 0) else 0:=funext fun f=>by
  by_cases h:f=k
  ·subst h;simp
  ·simp[h]
 rw[this];exact Aof hk
section
variable{n N:Nat}{M:List Mv}{left:Nat->Nat->Int}{m:Mv}
theorem Bvb{left':Nat->Nat->Int}(h:Thr n N M left){d:Nat->Int}(hd:∀f,0<=d f)(hm:m.dst<n)(hs:Df N d=m.g)(hfld:m.fld=true)(hF:∀F:Nat->Bool,Iq N F d=if F m.src then m.g else 0)
  (hD:left' m.dst=fun f=>left m.dst f+d f) (hO:∀j,j≠m.dst->left' j=left j):Thr n N (M++[m]) left':=by
 refine⟨fun j f=>?_,fun j hj=>?_,fun F C=>?_⟩
 ·by_cases hjd:j=m.dst
  ·have b:=h.nn m.dst f;have c:=hd f;rw[hjd,hD];show 0<=left m.dst f+d f;omega
  ·rw[hO j hjd];exact h.nn j f
 ·rw[Aea,Wf];have b:=h.tot j hj;simp only[Vg,Rf,hfld];by_cases hjd:j=m.dst
  ·subst hjd;rw[hD,Ajf,b,hs];simp;omega
  ·rw[hO j hjd,b,if_neg (fun e=>hjd e.symm)];simp
 ·have b:=h.cut F C;rw[Rb,Mb (n:=n) (k:=m.dst) (f:=fun j=>if C j then Iq N F (left j) else 0) (g:=fun j=>if C j then Iq N F (left' j) else 0) hm fun i _ hi=>by simp only[hO i hi]];simp only[hD,Agw,hF F,Nu,Akt,hfld,if_true];cases C m.dst<;>cases F m.src<;>simp<;>omega
theorem Bqd{left':Nat->Nat->Int}(h:Thr n N M left){d:Nat->Int}(hd:∀f,0<=d f)(hle:∀f,d f<=left m.src f)(hm:m.dst<n)(hs:m.src<n)(hne:m.src≠m.dst)(hsum:Df N d=m.g)(hfld:m.fld=false)
  (hD:left' m.dst=fun f=>left m.dst f+d f) (hS:left' m.src=fun f=>left m.src f-d f) (hO:∀j,j≠m.dst->j≠m.src->left' j=left j):Thr n N (M++[m]) left':=by
 refine⟨fun j f=>?_,fun j hj=>?_,fun F C=>?_⟩
 ·by_cases hjd:j=m.dst
  ·have a:=h.nn m.dst f;have b:=hd f;rw[hjd,hD];show 0<=left m.dst f+d f;omega
  ·by_cases hjs:j=m.src
   ·have b:=hle f;rw[hjs,hS];show 0<=left m.src f-d f;omega
   ·rw[hO j hjd hjs];exact h.nn j f
 ·rw[Aea,Wf];have a:=h.tot j hj;simp only[Vg,Rf,hfld];by_cases hjd:j=m.dst
  ·subst hjd;rw[hD,Ajf,a,hsum,if_pos rfl,if_neg (fun e=>hne e.2)];omega
  ·by_cases hjs:j=m.src
   ·subst hjs;rw[hS,Bqc,a,hsum,if_neg (fun e=>hne e.symm),if_pos (by simp)];omega
   ·rw[hO j hjd hjs,a,if_neg (fun e=>hjd e.symm),if_neg (fun e=>hjs e.2.symm)];omega
 ·have a:=h.cut F C;rw[Rb,Afo (n:=n) (k:=m.dst) (l:=m.src) (f:=fun j=>if C j then Iq N F (left j) else 0) (g:=fun j=>if C j then Iq N F (left' j) else 0) hm hs (fun e=>hne e.symm) fun i _ hi hi'=>by simp only[hO i hi hi']];have c:=Aei (N:=N) (F:=F) hd;have p:=Box (N:=N) (F:=F) hd;simp only[hD,hS,Agw,Bip,Nu,Akt,hfld];cases C m.dst<;>cases C m.src<;>simp<;>omega
end
def Byb(n N:Nat)(A:List Mv)(m:Mv):Prop:=m.dst<n/\0<=m.g/\if m.fld then m.src<N else m.src<n/\m.src≠m.dst/\Rf m.src A+m.g<=Vg m.src A
theorem Bfw{n N:Nat}{M:List Mv}(h:∀A m B,M=A++m::B->Byb n N A m):∀i,i<=M.length->∃left,Thr n N (M.take i) left
 | 0,_=>⟨fun _ _=>0,⟨fun _ _=>Xy _,fun j _=>by rw[Ii fun _ _=>rfl];rfl,fun F C=>by
   rw[Ii fun i _=>by
    have:Iq N F (fun _=>(0:Int))=0:=Ii fun _ _=>by split<;>rfl
    simp only[this];split<;>rfl]
   exact Xy _⟩⟩
 | i+1,hi=>by
  obtain⟨left,hl⟩:=Bfw h i (by omega);have hg:M[i]?=some M[i]:=Pw (by omega);have ht:M.take (i+1)=M.take i++[M[i]]:=by rw[Xu,hg];rfl
  have hM:M=M.take i++M[i]::M.drop (i+1):=by rw[<-Aii (by omega),Aba]
  obtain⟨c,t,b⟩:=h _ _ _ hM;rw[ht];cases hf:M[i].fld with
  | true =>
   rw[hf,if_pos rfl]at b;exact⟨fun j f=>if j=M[i].dst then left j f+(if f=M[i].src then M[i].g else 0) else left j f,Bvb hl (d:=fun f=>if f=M[i].src then M[i].g else 0) (fun f=>by split<;>omega) c (Aof b) hf (fun F=>Bio b) (funext fun f=>if_pos rfl) fun j hj=>funext fun f=>if_neg hj⟩
  | false =>
   rw[hf,if_neg (by simp)]at b;obtain⟨b,e,u⟩:=b;obtain⟨d,k,p,q⟩:=Ahd (N:=N) (v:=left M[i].src) (g:=M[i].g) (hl.nn _) t (by rw[hl.tot _ b];omega);exact⟨fun j f=>if j=M[i].dst then left j f+d f else if j=M[i].src then left j f-d f else left j f,Bqd hl k p c b e q hf (funext fun f=>if_pos rfl) (funext fun f=>by rw[if_neg e,if_pos rfl]) fun j hj hj'=>funext fun f=>by rw[if_neg hj,if_neg hj']⟩
theorem Bva{n N k:Nat}{M:List Mv}(h:∀A m B,M=A++m::B->Byb n N A m){i:Nat}(hi:i<=M.length)(hk:k<n)(ho:Rf k (M.take i)=0) :
  ∃v:Nat->Int,(∀f,0<=v f)/\Df N v=Vg k (M.take i)/\∀F C:Nat->Bool,C k=true->Iq N F v<=Nu F C M:=by
 obtain⟨left,hl⟩:=Bfw h i hi;refine⟨left k,hl.nn k,by rw[hl.tot k hk,ho];omega,fun F C hC=>?_⟩;have a:=hl.cut F C;have b:Iq N F (left k)<=Df n (fun j=>if C j then Iq N F (left j) else 0):=by
  have e:=Mb (n:=n) (k:=k) (f:=fun j=>if j=k then 0 else if C j then Iq N F (left j) else 0) (g:=fun j=>if C j then Iq N F (left j) else 0) hk fun i _ hik=>by rw[if_neg hik]
  rw[e,if_pos rfl,hC,if_pos rfl];have:0<=Df n (fun j=>if j=k then 0 else if C j then Iq N F (left j) else 0):=Sa fun j _=>by
   have:=Aei (N:=N) (F:=F) (hl.nn j);split
   ·omega
   ·split<;>omega
  omega
 have c:Nu F C M=Nu F C (M.take i)+Nu F C (M.drop i):=by rw[<-Rb,Aba]
 have d:0<=Nu F C (M.drop i):=Yi fun m hm=>by
  obtain⟨j,hj⟩:=Td (List.mem_of_mem_drop hm);have hlt:=(lZ3.1 hj).1;have hmj:M[j]=m:=(lZ3.1 hj).2;have:=h (M.take j) m (M.drop (j+1)) (by rw[<-hmj,<-Aii hlt,Aba]);exact this.2.1
 omega
end
section
def En(l:List LLot)(s:ByteArray):Int:=Aht (l.map LLot.name) s
def Hs(b:LBook)(i:Nat)(p:LPart):LSrc:=⟨Aht b.fields p.of_,En (b.lots.take i) p.of_⟩
def Oq(b:LBook)(i:Nat)(p:LPart):Mv:=⟨i,decide (0<=(Hs b i p).field),if 0<=(Hs b i p).field then (Hs b i p).field.toNat else (Hs b i p).lot.toNat,p.grams⟩
def Px(b:LBook)(i:Nat)(ps:List LPart):List Mv:=ps.map (Oq b i)
def Tm(b:LBook):Nat->List LLot->List Mv
 | _,[]=>[]
 | i,x::l=>Px b i x.parts++Tm b (i+1) l
def Ack(b:LBook)(i:Nat):List Mv:=Tm b 0 (b.lots.take i)
def mvs(b:LBook):List Mv:=Tm b 0 b.lots
theorem Amt{b:LBook}:∀{l m:List LLot} {i:Nat},Tm b i (l++m)=Tm b i l++Tm b (i+l.length) m
 | [],m,i=>by simp[Tm]
 | x::l,m,i=>by rw[Te,Tm,Tm,Amt,Gt,Gk,show i+1+l.length=i+(l.length+1) by omega]
theorem Ari{b:LBook}{i:Nat}{x:LLot}(h:b.lots[i]?=some x):Ack b (i+1)=Ack b i++Px b i x.parts:=by
 unfold Ack;rw[Xu,h,Amt];have:(b.lots.take i).length=i:=by rw[Ha];have:=(lZ3.1 h).1;omega
 rw[this,Sm];simp[Tm]
theorem Aag{b:LBook}{i k:Nat}{ps:List LPart}{p:LPart}(h:ps[k]?=some p):Px b i (ps.take (k+1))=Px b i (ps.take k)++[Oq b i p]:=by unfold Px;rw[Xu,h,Nk];rfl
def Bu(b:LBook)(F C:Nat):Int:=Nu F.testBit C.testBit (mvs b)
theorem Adf{F C:Nat->Bool}{m:Mv}:Nu F C [m]=if Akt F C m then m.g else 0:=by simp[Nu]
theorem Awa{F C:Nat->Bool}{b:LBook}{i:Nat}(h:C i=false):∀{ps:List LPart},Nu F C (Px b i ps)=0
 | []=>rfl
 | p::ps=>by
  have:=Awa (F:=F) h (b:=b) (ps:=ps);unfold Px at this ⊢;rw[Jg,Nu,this];simp[Akt,Oq,h]
structure Fr8 where
 rows:List (List LSrc)
instance:Dat Fr8 where
 k:=8
 agg:=true
 rep Y cs x:=cs.length=8/\x.rows.length=8/\∀(i:Nat) (v:Value) (l:List LSrc),cs[i]?=some v->x.rows[i]?=some l->Val Y v l
 mono h h':=⟨h'.1,h'.2.1,fun i v l h1 h2=>(h'.2.2 i v l h1 h2).mono h⟩
 len h:=h.1
 sgl h:=by
  intro c hc;obtain⟨i,hi⟩:=Td hc;have hlt:=(lZ3.1 hi).1;have:=h.2.2 i c _ hi (Pw (by have:=h.1;have:=h.2.1;omega));obtain⟨cs',h3,h4⟩:=this;have h5:=Dat.len h3
  match cs',h3,h4,h5 with
  | [z],h3,h4,_=>rw[h4];exact Dat.sgl h3 z (Oj.2 rfl)
 one h:=by cases h
structure Cel where
 b:LBook
 from_:Fr8
instance:Dat Cel:=.iso fun x=>(x.b,x.from_)
theorem Cel.f_b:Fld Cel LBook 0 Cel.b:=⟨fun Y cs x=>(Fld.fst:Fld (LBook×Fr8) LBook 0 _).at_ Y cs (x.b,x.from_)⟩
theorem Cel.f_from_:Fld Cel Fr8 2 Cel.from_:=⟨fun Y cs x=>((.snd Fld.self):Fld (LBook×Fr8) Fr8 2 _).at_ Y cs (x.b,x.from_)⟩
theorem Aux:GoTy Tryz.prog 190 Fr8:=⟨⟨_,Cfd,rfl⟩,⟨_,Ab Tryz.typeInfo190,rfl⟩⟩
theorem Bjq{P:Program}{Y:Ro}{e:Env}{ty t el:TypeId}{x y:Operand}{p:Value}{a:Fr8}{k:IntKind}{q:Int}{l:List LSrc}(i:Nat)(hT:P.underlying t=some (.array 8 el))(hE:∃i,P.info? el=some i/\i.size=1)(hx:Af e x=p)(hp:At Y p a)(hy:Af e y = .int k q)(hq:q=(i:Int))(hl:a.rows[i]?=some l) :
  ∃p',At Y p' l/\Yld P Y e (.indexAddr t x y) ty p':=by
 obtain⟨b,off,c,t',fz,cs,rest,rfl,d,f,g⟩:=hp;obtain⟨j,m,h⟩:=f;have hi:i<8:=by have:=(lZ3.1 hl).1;omega
 have hc:cs[i]?=some cs[i]:=Pw (by omega);refine⟨.pointer (some ⟨b,off+i,none⟩),⟨b,off+i,c,t',fz,[cs[i]],cs.drop (i+1)++rest,rfl,d,⟨cs[i],rfl,Cs.1 (h i _ l hc hl)⟩,?_⟩,Cq (k':=1) i hT hE hx hy hq hi (by omega)⟩;rw[<-Apg,g,Bdy (by omega),Aii (by omega)];rfl
def Ccs(Y:Ro)(r:Nat)(b:LBook)(rows:List (List LSrc))(o:Own):Prop :=
 ∃(vf vl:Value) (vs:List Value) (gs:List Own),o=(r,Res.obj (.cells (vf::vl::vs).toArray 192 (0,0)))::gs.flatten/\Val Y vf b.fields/\Val Y vl b.lots/\vs.length=8/\gs.length=8/\rows.length=8 /\
  ∀(i:Nat) (v:Value) (l:List LSrc) (g:Own),vs[i]?=some v->rows[i]?=some l->gs[i]?=some g->Grow Y 196 v l g
theorem Amm{l:List LLot}{s:ByteArray}:Oi l (fun x=>x.name.toList==s.toList)=En l s:=by
 unfold En Aht Oi;have e:Cl l.length (atP l fun x=>x.name.toList==s.toList)=Cl (l.map LLot.name).length (Xi (l.map LLot.name) s):=by
  rw[Xx];congr 1;funext j;unfold atP Xi;rw[Ol];cases l[j]?<;>rfl
 rw[e]
theorem Baj{mn:Bool}{X:Frame->List Frame->Ro->Own->Cy->Prop}{Y:Ro}{Z:Own}{l:List LLot}{vl f:Value}{p:LLot->Bool}(rl:Val Y vl l)(hf:Bju Y f (fun _:LLot=>True) p):CallsH (CX mn X) 79 #[vl,f] Y Z (rP Y Z (iV (Oi l p))):=by
 refine Bq 19 [4] Tryz.func79 rfl fun Q y a0=>qA fun P B=>Av (iV 0) (Ary rfl rfl B fun W YQ G H=>Au vl ?_);have g4:=Val.len rl;refine l_v (Ci (el:=51) Cee rfl rl) (Au (iV 0) (l_k H (Ao (Cc (fun mm ee dd Y' Z'=>∃(i:Nat),(l.length-i)=mm/\[]=dd/\Y=Y'/\Z=Z'/\ee 0=vl/\ee 1=f/\ee 7=(iV (l.length:Int))/\ee 8=iV i/\(i<=l.length)/\(∀j,j<i->atP l p j=false)/\True) (m:=_) ⟨0,rfl,rfl,rfl,rfl,rfl,rfl,rfl,rfl,Hz _,fun j h=>absurd h (Vn _),trivial⟩ ?_))));rintro m5 e5 _ _ _ ⟨i,rfl,rfl,rfl,rfl,u,w,x,d,a1,g,_⟩;refine qA fun ZQ I=>l_v (Da d x) (Asa I fun K7 J=>Bp (t:=decide ((i:Int)<(l.length:Int))) rfl (fun b=>?_) (fun b=>?_))
 ·have L:=lZ2 b;refine Al (kk J ?_);refine Ai fun K9 K=>Ao (qA fun R C=>l_v (Ah (v:=iV i) d) (Av (iV i) (Arx rfl rfl C fun T D=>l_v (Ah (v:=f) w) (l_v (Ah (v:=vl) u) (Au (iV i) ?_)))));obtain⟨k,e⟩:=Ed (xs:=l) (i:=i) (by omega);refine Arw (Ch i Cee Fm rfl rl (q:=(i:Int)) rfl rfl e) fun a2 M=>Arw (Ax Fm rfl M) fun O N=>Arv (Adv (pr:=p) (a:=k) (v:=O) hf Cgi trivial rfl rfl N ?_);refine l_k D (Bp (t:=p k) rfl (fun c=>?_) (fun c=>?_))
  ·refine qA fun U E=>Au (iV i) (Av (iV i) (l_k E (Aq (y (rT (iV i) ?_)))));have hi:=Fh (n:=l.length) g (by omega) (show atP l _ i=true by simp only[atP,e,b,c]);simp only[Oi,hi]
  refine Al (kk K ?_);refine qC (l_v (Br d rfl (z:=(((i+1):Nat):Int)) wrE) (Au (iV ((i+1):Nat)) (Ac ?_)));refine⟨_,?_,(i+1),rfl,rfl,rfl,rfl,u,w,x,rfl,(by omega),(Eg g (by simp only[atP,e,b,c])),trivial⟩;omega
 have L:=lZ1 b;refine Bx (kk G ?_);refine qA fun V F=>Av (iV (-1)) (l_k F (Aq (y (rT (iV (-1)) ?_))));have hn:=Ep (n:=l.length) fun j hj=>g j (by omega);simp only[Oi,hn]
theorem Bim{y:LPart}{Y9:Ro}{vc:Value}(hc:At Y9 vc y):Bju Y9 (.func (.func 80) #[] #[vc]) (fun _:LLot=>True) (fun x=>x.name.toList==y.of_.toList):=by refine⟨80,_,[vc],rfl,Tryz.func80,rfl,rfl,?_⟩;intro mn X Y Z v x hle _ hv;replace hc:=hc.mono hle;refine Bq 9 [3] Tryz.func80 rfl fun Q e n=>qA fun i f=>Arv (Ox (v:=v) rfl fun t=>?_);refine Bb (a:=x) hv fun z b h=>?_;replace hc:=At.mono b hc;refine Av bF (qB f fun j g=>Arw (Ba LLot.f_name Ceg rfl ty9 h) fun u c=>?_);have k:=At.slen c;refine l_v (Pk ty9 rfl c) (Arw (Ba LPart.f_of_ Cef rfl ty9 hc) fun w d=>?_);have m:=At.slen d;refine l_v (Pk ty9 rfl d) (l_v (Aia (p:=x.name) (q:=y.of_) rfl rfl) (Av (.bool ((x.name).toList==(y.of_).toList)) (l_k g (Aj (Cgg b) (Aq (e (rT (.bool ((x.name).toList==(y.of_).toList)) ?_)))))));rfl
end
section
def Vw(b:LBook)(j:Nat):List LSrc:=((b.lots[j]?.map LLot.parts).getD []).map (Hs b j)
def Qc(b:LBook)(i k:Nat):List (List LSrc):=(List.range 8).map fun j=>if j<i then Vw b j else if j=i then (Vw b j).take k else []
def Aza(b:LBook):List (List LSrc):=(List.range 8).map (Vw b)
def frD(b:LBook):Fr8:=⟨Aza b⟩
section
variable{b:LBook}{i k:Nat}{x:LLot}{p:LPart}
theorem Ale(h:b.lots[i]?=some x):Vw b i=x.parts.map (Hs b i):=by simp[Vw,h]
theorem Blv(h:b.lots.length<=i):Vw b i=[]:=by simp[Vw,Tp h]
theorem Bpr:Qc b 0 0=List.replicate 8 []:=rfl
theorem Aru(hi:i<8):(Qc b i k)[i]?=some ((Vw b i).take k):=by simp[Qc,Ol,Aqq hi]
theorem Ayz(h:b.lots[i]?=some x)(hk:x.parts.length<=k):Qc b i k=Qc b (i+1) 0:=by
 unfold Qc;refine Aqr fun j _=>?_;rcases Bnc j i with hj|hj|hj
 ·rw[if_pos hj,if_pos (by omega)]
 ·subst hj;rw[if_neg (Nat.lt_irrefl _),if_pos rfl,if_pos (by omega),Aua (by rw[Ale h,Xx];exact hk)]
 ·rw[if_neg (by omega),if_neg (by omega),if_neg (by omega)];split<;>rfl
theorem Bci(h:b.lots.length<=i):Qc b i 0=Aza b:=by
 unfold Qc Aza;refine Aqr fun j _=>?_;by_cases hj:j<i
 ·rw[if_pos hj]
 ·rw[if_neg hj,Blv (by omega)];split<;>rfl
theorem Bay(h:b.lots[i]?=some x)(hp:x.parts[k]?=some p):(Vw b i).take (k+1)=(Vw b i).take k++[Hs b i p]:=by rw[Ale h,Xu,Ol,hp];rfl
theorem Ank(h:b.lots[i]?=some x)(hp:x.parts[k]?=some p)(hi:i<8):(Qc b i k).set i ((Vw b i).take k++[Hs b i p])=Qc b i (k+1):=by
 apply Axx;intro j;rw[Vi];by_cases hj:i=j
 ·subst hj;rw[if_pos rfl,Aru hi,Bay h hp];rw[if_pos (by simpa[Qc]using hi)]
 ·rw[if_neg hj];unfold Qc;rw[Ol,Ol];cases hr:(List.range 8)[j]? with
  | none=>rfl
  | some z =>
   have hz:z=j:=by
    have:=lZ3.1 hr;obtain⟨c,a⟩:=this;rw[<-a,Bmz]
   subst hz;simp[show ¬z=i from fun e=>hj e.symm]
theorem Bps(h:b.lots[i]?=some x)(hi:i<8):(Aza b)[i]?=some (x.parts.map (Hs b i)):=by simp[Aza,Aqq hi,Ale h]
end
def CelG(Y:Ro)(r:Nat)(L:LBook×List (List LSrc))(o:Own):Prop:=Ccs Y r L.1 L.2 o
theorem CelG.mono{Y Y':Ro}(hle:Ro.le Y Y'){r:Nat}{L:LBook×List (List LSrc)}{o:Own}(h:CelG Y r L o):CelG Y' r L o :=
 let ⟨vf,vl,vs,gs,h1,h2,h3,h4,h5,h6,h7⟩:=h
 ⟨vf,vl,vs,gs,h1,h2.mono hle,h3.mono hle,h4,h5,h6,fun i v l g a b c=>(h7 i v l g a b c).mono hle⟩
theorem Avy{Y:Ro}{r:Nat}{L L':LBook×List (List LSrc)}{o:Own}(e:L=L')(h:CelG Y r L o):CelG Y r L' o:=e ▸ h
theorem Aun{α:Type}{n i:Nat}{a z:α}(h:(List.replicate n a)[i]?=some z):z=a:=by
 rw[Bml]at h;split at h
 ·exact(Option.some.inj h).symm
 ·cases h
theorem Brx{Y:Ro}{r:Nat}{b:LBook}{vf vl:Value}(h1:Val Y vf b.fields)(h2:Val Y vl b.lots) :
  CelG Y r (b,List.replicate 8 []) [(r,Res.obj (.cells #[vf,vl,.slice none 0 0,.slice none 0 0,.slice none 0 0,.slice none 0 0,.slice none 0 0,.slice none 0 0,.slice none 0 0,.slice none 0 0] 192 (0,0)))]:=by refine⟨vf,vl,List.replicate 8 (.slice none 0 0),List.replicate 8 [],rfl,h1,h2,rfl,rfl,rfl,fun i v l g a b c=>?_⟩;obtain rfl:=Aun a;obtain rfl:=Aun b;obtain rfl:=Aun c;exact Hm
theorem Bds{gs:List Own}{i:Nat}{g:Own}(h:gs[i]?=some g):gs.flatten.Perm (g++((gs.take i).flatten++(gs.drop (i+1)).flatten)):=by
 have hi:=(lZ3.1 h).1;have e:gs=gs.take i++g::gs.drop (i+1):=by
  have:=(lZ3.1 h).2;rw[<-this,<-Aii hi,Aba]
 have a:gs.flatten=(gs.take i).flatten++(g++(gs.drop (i+1)).flatten):=by
  conv=>lhs;rw[e]
  rw[List.flatten_append,Bel]
 rw[a,<-Gt,<-Gt];exact List.perm_append_comm.append_right _
theorem Bkv{Y:Ro}{r:Nat}{b:LBook}{rows:List (List LSrc)}{o:Own}{i:Nat}{l:List LSrc}(h:CelG Y r (b,rows) o)(hi:i<8)(hl:rows[i]?=some l) :
  ∃(vf vl:Value) (vs:List Value) (v:Value) (g R:Own),(∀Z:Own,(o++Z).Perm ((r,Res.obj (.cells (vf::vl::vs).toArray 192 (0,0)))::(g++(R++Z))))/\vs.length=8/\vs[i]?=some v/\Grow Y 196 v l g /\
   ∀(Y':Ro) (v':Value) (l':List LSrc) (g':Own),Ro.le Y Y'->Grow Y' 196 v' l' g'->∃o',CelG Y' r (b,rows.set i l') o'/\∀Z:Own,((r,Res.obj (.cells (vf::vl::vs.set i v').toArray 192 (0,0)))::(g'++(R++Z))).Perm (o'++Z):=by
 obtain⟨vf,vl,vs,gs,rfl,m,n,e,p,f,k⟩:=h;have hv:vs[i]?=some vs[i]:=Pw (by omega);have hg:gs[i]?=some gs[i]:=Pw (by omega);refine⟨vf,vl,vs,vs[i],gs[i],(gs.take i).flatten++(gs.drop (i+1)).flatten,fun Z=>?_,e,hv,k i _ _ _ hv hl hg,fun Y' v' l' g' hle hG=>?_⟩
 ·rw[Te];refine .cons _ ?_;rw[<-Gt];exact(Bds hg).append_right _
 ·refine⟨_,⟨vf,vl,vs.set i v',gs.set i g',rfl,m.mono hle,n.mono hle,by rw[Vy];exact e,by rw[Vy];exact p,by show (rows.set i l').length=8;rw[Vy];exact f,fun j v l g a c d=>?_⟩,fun Z=>?_⟩
  ·replace c:(rows.set i l')[j]?=some l:=c;rw[Vi]at a c d;by_cases hj:i=j
   ·subst hj;rw[if_pos rfl]at a c d;rw[if_pos (by omega)]at a d;rw[if_pos (by show i<rows.length;have:rows.length=8:=f;omega)]at c;cases a;cases c;cases d;exact hG
   ·rw[if_neg hj]at a c d;exact(k j v l g a c d).mono hle
  ·rw[Te];refine .cons _ ?_;rw[<-Gt];have hg':(gs.set i g')[i]?=some g':=by rw[Vi,if_pos rfl,if_pos (by omega)]
   have:=(Bds hg').append_right Z;rw[List.take_set,Bmk (l:=gs.take i) (by rw[Ha];omega),List.drop_set,if_pos (by omega)]at this;exact this.symm
section
variable{C:Ctx}{V:Qt}{n:Nat}{b:FB}{e:Env}{ds:List Deferred}{Y:Ro}{Z:Own}{Q':Hu}{c:Code}
theorem Aoo:∀{gs:List Own} {vs:List Value} {rows:List (List LSrc)} {Y:Ro},vs.length=gs.length->rows.length=gs.length ->
  (∀(i:Nat) (v:Value) (l:List LSrc) (g:Own),vs[i]?=some v->rows[i]?=some l->gs[i]?=some g->Grow Y 196 v l g) ->
  (∀Y',Ro.le Y Y'->(∀(i:Nat) (v:Value) (l:List LSrc),vs[i]?=some v->rows[i]?=some l->Val Y' v l)->WpP C V b n c Q' e ds Y' Z)->WpP C V b n c Q' e ds Y (gs.flatten++Z)
 | [],[],[],Y,_,_,_,K=>K Y .refl fun i v l h=>by cases h
 | g::gs,v::vs,l::rows,Y,h1,h2,h3,K=>by
  rw[Bel,Gt];refine Hc (h3 0 v l g rfl rfl rfl) fun Y1 le1 hv=>?_;refine Aoo (gs:=gs) (vs:=vs) (rows:=rows) (by simpa using h1) (by simpa using h2) (fun i v l g a c d=>(h3 (i+1) v l g a c d).mono le1) fun Y2 le2 hV=>?_;refine K Y2 (le1.trans le2) fun i w m a c=>?_;cases i with
  | zero=>cases a;cases c;exact hv.mono le2
  | succ i=>exact hV i w m a c
theorem Avb{r:Nat}{bk:LBook}{rows:List (List LSrc)}{o:Own}(h:CelG Y r (bk,rows) o)(K:∀Y',Ro.le Y Y'->At Y' (.pointer (some ⟨r,0,none⟩)) (⟨bk,⟨rows⟩⟩:Cel)->WpP C V b n c Q' e ds Y' Z):WpP C V b n c Q' e ds Y (o++Z):=by obtain⟨vf,vl,vs,gs,rfl,g,i,j,q,f,k⟩:=h;refine Aj (Z':=gs.flatten++((r,Res.obj (.cells (vf::vl::vs).toArray 192 (0,0)))::Z)) (Cgh (by rw[Te];exact List.perm_middle.symm)) ?_;refine Aoo (vs:=vs) (rows:=rows) (by omega) (by have:rows.length=8:=f;omega) k fun t d hV=>?_;refine Nt (v:=.agg (vf::vl::vs).toArray) (a:=(⟨bk,⟨rows⟩⟩:Cel)) ⟨vf::vl::vs,⟨[vf,vl],vs,rfl,⟨[vf],[vl],rfl,⟨vf,rfl,Cs.1 (g.mono d)⟩,⟨vl,rfl,Cs.1 (i.mono d)⟩⟩,⟨j,f,hV⟩⟩,rfl⟩ fun p m hA=>?_;exact K p (d.trans m) hA
end
abbrev Can:List Value:=[.slice none 0 0,.slice none 0 0,.slice none 0 0,.slice none 0 0,.slice none 0 0,.slice none 0 0,.slice none 0 0,.slice none 0 0,.slice none 0 0,.slice none 0 0]
theorem Cas:Fw Tryz.prog 192 (.agg #[.slice none 0 0,.slice none 0 0,.slice none 0 0,.slice none 0 0,.slice none 0 0,.slice none 0 0,.slice none 0 0,.slice none 0 0,.slice none 0 0,.slice none 0 0]):=⟨_,Ab Tryz.typeInfo192,rfl⟩
end
section
theorem Azj(s a:ByteArray):(a.toList==s.toList)=(s.toList==a.toList):=Bool.beq_comm
theorem Ahi{n i:Nat}{p:Nat->Bool}(h:Cl n p=some i):i<n/\p i=true:=by
 rcases Ft (n:=n) (p:=p) with⟨j,hj,hp,_,he⟩|⟨_,he⟩
 ·rw[he]at h;cases h;exact⟨hj,hp⟩
 ·rw[he]at h;cases h
theorem Blp{l:List ByteArray}{s:ByteArray}(h:l.length<2^60):-1<=Aht l s/\Aht l s<2^60:=by
 unfold Aht;split
 ·rename_i i hi;have:=(Ahi hi).1;omega
 ·omega
theorem Bhz{l:List LLot}{s:ByteArray}(h:l.length<=8):-1<=En l s/\En l s<8:=by
 unfold En Aht;split
 ·rename_i i hi;have:=(Ahi hi).1;rw[Xx]at this;omega
 ·omega
variable{mn:Bool}{X:Frame->List Frame->Ro->Own->Cy->Prop}{Y:Ro}{Z:Own}
theorem Bkl{l:List ByteArray}{vl:Value}{s:ByteArray}(rl:Val Y vl l):CallsH (CX mn X) 78 #[vl,.string s] Y Z (rP Y Z (iV (Aht l s))):=by
 refine Bq 19 [4] Tryz.func78 rfl fun Q w a1=>qA fun M y=>Av (iV 0) (qE y fun T U F G=>Au vl ?_);have g4:=Val.len rl;refine l_v (Ci (el:=9) Ced rfl rl) (Au (iV 0) (l_k G (Ao (Cc (fun mm ee dd Y' Z'=>∃(i:Nat),(l.length-i)=mm/\[]=dd/\Y=Y'/\Z=Z'/\ee 0=vl/\ee 1=(.string s)/\ee 7=(iV (l.length:Int))/\ee 8=iV i/\(i<=l.length)/\(∀j,j<i->Xi l s j=false)/\True) (m:=_) ⟨0,rfl,rfl,rfl,rfl,rfl,rfl,rfl,rfl,Hz _,fun j h=>absurd h (Vn _),trivial⟩ ?_))));rintro m5 ZQ _ _ _ ⟨i,rfl,rfl,rfl,rfl,g,k,u,d,a2,f,_⟩;refine qA fun V H=>l_v (Da d u) (Asa H fun W I=>Bp (t:=decide ((i:Int)<(l.length:Int))) rfl (fun c=>?_) (fun c=>?_))
 ·have L:=lZ2 c;refine Al (kk I ?_);refine Ai fun YQ J=>Ao (qA fun N B=>l_v (Ah (v:=iV i) d) (Av (iV i) (Arx rfl rfl B fun O C=>l_v (Ah (v:=.string s) k) (l_v (Ah (v:=vl) g) (Au (iV i) ?_)))));obtain⟨b,e⟩:=Ed (xs:=l) (i:=i) (by omega);refine Arw (Ch i Ced ty9 rfl rl (q:=(i:Int)) rfl rfl e) fun a3 x=>?_;have a0:=At.slen x;refine l_v (Pk ty9 rfl x) (l_v (Aia (p:=s) (q:=b) rfl rfl) (l_k C (Bp (t:=(s).toList==(b).toList) rfl (fun a=>?_) (fun a=>?_))))
  ·have K:=Jr a;refine qA fun P D=>Au (iV i) (Av (iV i) (l_k D (Aq (w (rT (iV i) ?_)))));have hi:=Fh (n:=l.length) f (by omega) (show Xi l s i=true by simp only[Xi,e];exact(Azj s b).trans a);simp only[Aht,hi]
  have K:=Jq a;refine Al (kk J ?_);refine qC (l_v (Br d rfl (z:=(((i+1):Nat):Int)) wrE) (Au (iV ((i+1):Nat)) (Ac ?_)));refine⟨_,?_,(i+1),rfl,rfl,rfl,rfl,g,k,u,rfl,(by omega),(Eg f (by simp only[Xi,e];exact(Azj s b).trans a)),trivial⟩;omega
 have L:=lZ1 c;refine Bx (kk F ?_);refine qA fun R E=>Av (iV (-1)) (l_k E (Aq (w (rT (iV (-1)) ?_))));have hn:=Ep (n:=l.length) fun j hj=>f j (by omega);simp only[Aht,hn]
theorem Brp{b:LBook}{vb:Value}(rv:Val Y vb b)(hn8:b.lots.length<=8)(hp6:∀x∈b.lots,x.parts.length<=6):CallsH (CX mn X) 41 #[vb] Y Z (fun w Y' Z'=>Ro.le Y Y'/\Z'=Z/\At Y' w (⟨b,frD b⟩:Cel)):=by
 refine Bq 58 [2] Tryz.func41 rfl fun Q ba d1=>qA fun K1 k1=>Arv (Ox (v:=vb) rfl fun k2=>?_);refine Bb (a:=b) rv fun cb l2 f=>Av (.pointer none) (qB k1 fun K3 k3=>Arw (Ax Mk rfl f) fun v4 r4=>?_);obtain⟨y,B,b4,bb,bc⟩:=LBook.open_ r4;have b5:v4.cells=[y,B].toArray:=by rw[b4];rfl
 refine l_v (Dn (ns:=[2,8]) (vs:=[(0,v4)]) (zc:=Can) (cs:=[y,B,nS,nS,nS,nS,nS,nS,nS,nS]) Cet Cas rfl ⟨Mk.2,Aux.2,trivial⟩ (EvB.map ⟨⟨rfl,rfl⟩,trivial⟩) ((Be (cs:=[y,B]) b5 rfl nL).trans rfl)) (Arv (Ox (v:=.agg #[y,B,nS,nS,nS,nS,nS,nS,nS,nS]) rfl fun e=>?_));refine Av (pV e) (qE k3 fun K7 K8 k7 k8=>Arw (Ba LBook.f_lots Cec rfl Ee f) fun v9 r9=>Arw (Ax Ee rfl r9) fun ar H=>?_);have cr:=Val.len H;refine l_v (Ci (el:=51) Cee rfl H) (Au (iV 0) (l_k k8 (Ao ?_)));have av:=Brx (r:=e) (b:=b) bb bc;refine Cc (fun mm ee dd Y' Z'=>∃(i:Nat) (P:Own),(b.lots.length-i)=mm/\[]=dd/\Ro.le cb Y'/\(P++Z)=Z'/\ee 1=pV k2/\ee 3=pV e/\ee 14=ar/\ee 15=(iV (b.lots.length:Int))/\ee 16=iV i/\(i<=b.lots.length)/\CelG Y' e (b,Qc b i 0) P/\True) (m:=_) ⟨0,[(e,oC #[y,B,nS,nS,nS,nS,nS,nS,nS,nS] 192)],rfl,rfl,Cgi,rfl,rfl,rfl,rfl,rfl,rfl,Hz _,Avy (by rw[Bpr]) av,trivial⟩ ?_;rintro d3 cp _ dh _ ⟨i,P,rfl,rfl,N,rfl,b6,ad,ab,ac,L,d5,J,_⟩;replace f:=At.mono N f;replace H:=Val.mono N H;refine qA fun cd bd=>l_v (Da L ac) (Asa bd fun ce be=>Bp (t:=decide ((i:Int)<(b.lots.length:Int))) rfl (fun U=>?_) (fun U=>?_))
 ·have bq:=lZ2 U;refine Al (kk be ?_);refine Ai fun cf bf=>Ao (qA fun cg bg=>l_v (Ah (v:=iV i) L) ?_);obtain⟨g,F⟩:=Ed (xs:=b.lots) (i:=i) (by omega);have cx:=hp6 _ (lZ5 F);refine Arw (Ch i Cee Fm ab H (q:=(i:Int)) L rfl F) fun d7 bt=>Arw (Ax Fm rfl bt) fun c6 al=>Arv (Ct Ave fun d2=>?_);refine Av (iV i) (Cx rfl (Dv (v:=c6) (a:=g) (c:=Avd) Fm rfl rfl al rfl ?_));refine Bb (a:=g) al fun cc a4 bu=>?_;replace f:=At.mono a4 f;replace J:=CelG.mono a4 J;refine qB bg fun ch bh=>Arw (Ba LLot.f_parts Ceg rfl Fv bu) fun d8 bv=>Arw (Ax Fv rfl bv) fun c7 I=>?_;have ct:=Val.len I;refine l_v (Ci (el:=127) Ceh rfl I) (Au (iV 0) (l_k bh (Ao (Cc (fun mm ee dd Y' Z'=>∃(k:Nat) (R:Own),(g.parts.length-k)=mm/\[]=dd/\Ro.le cc Y'/\(R++Z)=Z'/\ee 1=pV k2/\ee 3=pV e/\ee 4=iV i/\ee 14=ar/\ee 15=(iV (b.lots.length:Int))/\ee 16=iV i/\ee 22=c7/\ee 23=(iV (g.parts.length:Int))/\ee 24=iV k/\(k<=g.parts.length)/\CelG Y' e (b,Qc b i k) R/\True) (m:=_) ⟨0,P,rfl,rfl,Cgi,rfl,b6,ad,rfl,ab,ac,L,rfl,rfl,rfl,Hz _,Avy (rfl) J,trivial⟩ ?_))));rintro d4 cq _ di _ ⟨k,R,rfl,rfl,G,rfl,C,D,E,YQ,ZQ,a0,a1,a2,M,d6,K,_⟩;replace f:=At.mono G f;replace I:=Val.mono G I;refine qA fun ci bi=>l_v (Da M a2) (Asa bi fun cj bj=>Bp (t:=decide ((k:Int)<(g.parts.length:Int))) rfl (fun V=>?_) (fun V=>?_))
  ·have br:=lZ2 V;refine Al (kk bj ?_);refine Ai fun ck ag=>Ao (qA fun cl bk=>?_);obtain⟨d,a3⟩:=Ed (xs:=g.parts) (i:=k) (by omega);refine Arw (Ch k Ceh Lu a1 I (q:=(k:Int)) M rfl a3) fun d9 bx=>Arw (Ax Lu rfl bx) fun c8 am=>Arv (Ct Aov fun bl=>?_);refine Cx rfl (Dv (v:=c8) (a:=d) (c:=Aou) Lu rfl rfl am rfl ?_);refine Bb (a:=d) am fun a8 O an=>?_;replace f:=At.mono O f;replace K:=CelG.mono O K;refine qB bk fun cm bm=>Arw (Ba LBook.f_fields Cec rfl Hw f C) fun da bz=>Arw (Ax Hw rfl bz) fun db ao=>Arw (Ba LPart.f_of_ Cef rfl ty9 an) fun dc ap=>?_;have cu:=At.slen ap;refine l_v (Pk ty9 rfl ap) ?_;have cy:=Blp (s:=d.of_) (Val.len ao);refine Arv (Cj (Bkl ao) Tryz.func78 ?_);refine Av (iV (Aht b.fields d.of_)) (qB bm fun cn bn=>Arw (Ba LBook.f_lots Cec rfl Ee f C) fun de c0=>Arw (Ax Ee rfl c0) fun df c1=>l_v (Ah (v:=iV i) E) (Arw (Sc i Cee Fm rfl c1 (q:=(i:Int)) rfl rfl (by omega)) fun dg c2=>l_v (Il (fn:=.func 80) (caps:=[.tmp 7]) (vs:=[pV bl]) ⟨rfl,trivial⟩) ?_));have cz:=Bhz (l:=b.lots.take i) (s:=d.of_) (by rw[Ha];omega);refine Arv (Cj (Amm ▸ Baj c2 (Bim an)) Tryz.func79 ?_);refine Av (iV (En (b.lots.take i) d.of_)) (l_k bn ?_);obtain⟨a5,a6,a7,au,W,T,b7,d0,af,h,ae⟩:=Bkv K (i:=i) (by omega) (Aru (by omega));refine Aj (Z':=(e,oC ((a5::a6::a7)).toArray 192)::(W++(T++Z))) (Cgh (b7 _)) (Xp (Dy 0 (zT 1 16) rfl (Ah (v:=pV e) D) (Dy 1 (zT 2 15) rfl (Ah (v:=iV i) E) (Dy 2 (zT 3 14) rfl (Ah (v:=pV e) D) (Dy 3 (zT 4 13) rfl (Ah (v:=iV i) E) (Dy 4 (zT 5 12) rfl (Ck rfl) (Dy 5 (zT 6 11) rfl (Cb Cet rfl rfl Aux.2 (by decide) rfl rfl) (Dy 6 (zT 7 10) rfl (Cq (k':=1) i Cfd Xe.2 rfl (q:=(i:Int)) rfl rfl (by omega) (off':=i+2) (by show 2+i*1=i+2;omega)) (Dy 8 [o1,o1,o1,o1,o1,o1,o1,o0,o1,o0,o0,o0,o0,o0,o0,o0,o0] rfl (Ah (v:=iV (Aht b.fields d.of_)) rfl) (Dy 9 [o1,o1,o1,o1,o1,o1,o1,o0,o1,o1,o0,o0,o0,o0,o0,o0,o0] rfl (Ah (v:=iV (En (b.lots.take i) d.of_)) rfl) ?_))))))))));have aq:Val a8 (.agg #[iV (Aht b.fields d.of_),iV (En (b.lots.take i) d.of_)]) (⟨Aht b.fields d.of_,En (b.lots.take i) d.of_⟩:LSrc):=LSrc.shut (x:=(⟨Aht b.fields d.of_,En (b.lots.take i) d.of_⟩:LSrc)) (iC (Aht b.fields d.of_)) (iC (En (b.lots.take i) d.of_));refine Dy 10 [o1,o1,o1,o1,o1,o1,o1,o0,o1,o1,o1,o0,o0,o0,o0,o0,o0] rfl (Dn (ns:=[1,1]) (vs:=[(0,(iV (Aht b.fields d.of_))),(1,(iV (En (b.lots.take i) d.of_)))]) (zc:=Bqs) (cs:=[iV (Aht b.fields d.of_),iV (En (b.lots.take i) d.of_)]) Cfa Avf rfl ⟨ty3.2,ty3.2,trivial⟩ (EvB.map ⟨⟨rfl,rfl⟩,⟨rfl,rfl⟩,trivial⟩) ((Be (cs:=[iV (Aht b.fields d.of_)]) rfl rfl nL).trans ((Be (cs:=[iV (En (b.lots.take i) d.of_)]) rfl rfl nL).trans rfl))) (Dy 13 [o1,o1,o1,o1,o1,o1,o1,o0,o1,o1,o1,o0,o0,o1,o0,o0,o0] rfl (Ck rfl) (Dy 14 [o1,o1,o1,o1,o1,o1,o1,o0,o1,o1,o1,o0,o0,o1,o1,o0,o0] rfl (Cb Cet rfl rfl Aux.2 (by decide) rfl rfl) (Acq (i:=7) (j:=11) [o1,o1,o1,o1,o1,o1,o1,o1,o1,o1,o1,o0,o0,o1,o1,o0,o0] [o1,o1,o1,o1,o1,o1,o1,o0,o1,o1,o1,o1,o0,o1,o1,o0,o0] rfl rfl (by kernel_rfl) rfl rfl rfl rfl ?_ ?_)))
   ·refine Dt (i:=0) (v:=au) Xe.1 rfl rfl af ⟨Cgi,?_⟩;refine Qw 11 [o1,o1,o1,o1,o1,o1,o1,o1,o1,o1,o1,o1,o0,o1,o1,o0,o0] rfl (Bi (α:=LSrc) (xs:=[(⟨Aht b.fields d.of_,En (b.lots.take i) d.of_⟩:LSrc)]) (vs:=[.agg #[iV (Aht b.fields d.of_),iV (En (b.lots.take i) d.of_)]]) Cex Aoh Avf rfl (by decide) (Dk (os:=[.tmp 49]) ⟨rfl,trivial⟩) ⟨aq,trivial⟩ rfl (by decide) fun ah b2 b0=>⟨Cgi,?_⟩);have ay:Grow a8 196 (.slice (some ⟨ah,0,none⟩) 1 1) ([(⟨Aht b.fields d.of_,En (b.lots.take i) d.of_⟩:LSrc)]:List LSrc) [(ah,oC b2.toArray 196)]:=Bs b0 rfl (by decide);refine Lr ay fun dj n c3=>?_;replace h:=Grow.mono n h;refine Ej (Cgh Asc) id (Qw 12 (zT 15 2) rfl (Gc (Z:=(e,oC ((a5::a6::a7)).toArray 192)::(T++Z)) (gr:=W) (xs:=(Vw b i).take k) (ys:=([(⟨Aht b.fields d.of_,En (b.lots.take i) d.of_⟩:LSrc)]:List LSrc)) Cex Cex (Ab Cfm) rfl nL rfl rfl rfl rfl h c3 (by simp only[lZ4,Gk,Pc,Ha];omega) fun c9 cv a9=>⟨n,?_⟩));refine Js 15 (zT 16 1) rfl n rfl (Cq (k':=1) i Cfd Xe.2 rfl (q:=(i:Int)) rfl rfl (by omega) (off':=i+2) (by show 2+i*1=i+2;omega)) (Ej (Cgh Asd) id (Zk 16 (zT 17 0) rfl (Cz (j:=0) (v:=c9) Xe.2 rfl rfl (Grow.single a9) rfl (by simp only[Gk];omega) ⟨n,?_⟩)));refine Ec rfl (kk ag ?_);refine Aj (Cgh (Bcd Ase)) (Aj (Cgh (Cby Asc)) (Aj (Cgh (Ayp Asd)) ?_));obtain⟨aj,aw,b8⟩:=ae _ _ _ _ n a9;refine Aj (Z':=aj++Z) (Cgh (b8 _)) (qC (l_v (Br M rfl (z:=(((k+1):Nat):Int)) wrE) (Au (iV ((k+1):Nat)) (Ac ?_))));refine⟨_,?_,(k+1),aj,rfl,rfl,(Cgj (Cgj G O) n),rfl,C,D,E,YQ,ZQ,a0,a1,a2,rfl,(by omega),(Avy (congrArg (Prod.mk b) (Ank F a3 (by omega))) aw),trivial⟩;omega
   ·refine Bi (α:=LSrc) (xs:=[(⟨Aht b.fields d.of_,En (b.lots.take i) d.of_⟩:LSrc)]) (vs:=[.agg #[iV (Aht b.fields d.of_),iV (En (b.lots.take i) d.of_)]]) Cex Aoh Avf rfl (by decide) (Dk (os:=[.tmp 49]) ⟨rfl,trivial⟩) ⟨aq,trivial⟩ rfl (by decide) fun ai b3 b1=>⟨Cgi,?_⟩;have az:Grow a8 196 (.slice (some ⟨ai,0,none⟩) 1 1) ([(⟨Aht b.fields d.of_,En (b.lots.take i) d.of_⟩:LSrc)]:List LSrc) [(ai,oC b3.toArray 196)]:=Bs b1 rfl (by decide);refine Ej (Cgh Arz) id (Qw 7 [o1,o1,o1,o1,o1,o1,o1,o1,o1,o1,o1,o1,o0,o1,o1,o0,o0] rfl (Dt (i:=0) (v:=au) Xe.1 rfl rfl af ⟨Cgi,?_⟩));refine Ej (Cgh Arz) id (Lr az fun dk u c4=>?_);replace h:=Grow.mono u h;refine Ej (Cgh Asc) id (Qw 12 (zT 15 2) rfl (Gc (Z:=(e,oC ((a5::a6::a7)).toArray 192)::(T++Z)) (gr:=W) (xs:=(Vw b i).take k) (ys:=([(⟨Aht b.fields d.of_,En (b.lots.take i) d.of_⟩:LSrc)]:List LSrc)) Cex Cex (Ab Cfm) rfl nL rfl rfl rfl rfl h c4 (by simp only[lZ4,Gk,Pc,Ha];omega) fun ca cw aa=>⟨u,?_⟩));refine Js 15 (zT 16 1) rfl u rfl (Cq (k':=1) i Cfd Xe.2 rfl (q:=(i:Int)) rfl rfl (by omega) (off':=i+2) (by show 2+i*1=i+2;omega)) (Ej (Cgh Asd) id (Zk 16 (zT 17 0) rfl (Cz (j:=0) (v:=ca) Xe.2 rfl rfl (Grow.single aa) rfl (by simp only[Gk];omega) ⟨u,?_⟩)));refine Ec rfl (kk ag ?_);refine Aj (Cgh (Bcd Ase)) (Aj (Cgh (Cby Asc)) (Aj (Cgh (Ayp Asd)) ?_));obtain⟨ak,ax,b9⟩:=ae _ _ _ _ u aa;refine Aj (Z':=ak++Z) (Cgh (b9 _)) (qC (l_v (Br M rfl (z:=(((k+1):Nat):Int)) wrE) (Au (iV ((k+1):Nat)) (Ac ?_))));refine⟨_,?_,(k+1),ak,rfl,rfl,(Cgj (Cgj G O) u),rfl,C,D,E,YQ,ZQ,a0,a1,a2,rfl,(by omega),(Avy (congrArg (Prod.mk b) (Ank F a3 (by omega))) ax),trivial⟩;omega
  have br:=lZ1 V;refine Bx (kk bf ?_);refine qC (l_v (Br a0 rfl (z:=(((i+1):Nat):Int)) wrE) (Au (iV ((i+1):Nat)) (Ac ?_)));refine⟨_,?_,(i+1),R,rfl,rfl,(Cgj (Cgj N a4) G),rfl,C,D,YQ,ZQ,rfl,(by omega),(Avy (by rw[Ayz F (by omega)]) K),trivial⟩;omega
 have bq:=lZ1 U;refine Bx (kk k7 ?_);refine Ai fun co bo=>Avb J fun dl bp c5=>qC (l_v (Ah (v:=pV e) ad) (Av (pV e) (l_k bo (Aq (ba ⟨Cgj (Cgj l2 N) bp,rfl,atE (p:=pV e) rfl (by rw[show frD b=⟨Qc b i 0⟩ from congrArg Fr8.mk (Bci (by omega)).symm];exact c5)⟩)))))
end
section
def Fj(l:List LLot):List ByteArray:=l.map LLot.name
def Tc(s:ByteArray):List LPart->Int
 | []=>0
 | p::l=>(if s=p.of_ then p.grams else 0)+Tc s l
def tkO(s:ByteArray):List LLot->Int
 | []=>0
 | x::l=>Tc s x.parts+tkO s l
theorem Aiy{f:Je}{k:ByteArray}{z:Int}:Rh f k z k=some z:=by simp[Rh]
theorem Ael{f:Je}{k s:ByteArray}{z:Int}(h:s≠k):Rh f k z s=f s:=by simp[Rh,h]
theorem Ait:∀{l:List ByteArray} {f:Je} {s:ByteArray},s∉l->(l.foldl (fun f s=>Rh f s (-1)) f) s=f s
 | [],f,s,_=>rfl
 | a::l,f,s,h=>by
  simp only[lZ9,not_or]at h;rw[Ahn,Ait h.2,Ael h.1]
theorem Ado:∀{l:List ByteArray} {f:Je} {s:ByteArray},s∈l->(l.foldl (fun f s=>Rh f s (-1)) f) s=some (-1)
 | a::l,f,s,h=>by
  rw[Ahn];by_cases hl:s∈l
  ·exact Ado hl
  ·have ha:s=a:=(lZ9.1 h).resolve_right hl;rw[Ait hl,ha,Aiy]
theorem Aiu:∀{l:List LLot} {f:Je} {s:ByteArray},s∉Fj l->Jd f l s=f s
 | [],f,s,_=>rfl
 | x::l,f,s,h=>by
  simp only[Fj,Jg,lZ9,not_or]at h;show Jd (Rh f x.name (Cw x)) l s=f s;rw[Aiu h.2,Ael h.1]
theorem Bnt{f:Je}{A B:List LLot}:Jd f (A++B)=Jd (Jd f A) B:=by unfold Jd;rw[Alq]
theorem Ayd{A B:List LLot}{x:LLot}{f:Je}(h:x.name∉Fj B):Jd f (A++x::B) x.name=some (Cw x):=by rw[Bnt];show Jd (Rh (Jd f A) x.name (Cw x)) B x.name=_;rw[Aiu h,Aiy]
theorem Agq:∀{l:List LLot} {f:Je} {s:ByteArray},(Jd f l s).isSome=true->(f s).isSome=true∨s∈Fj l
 | [],f,s,h=>.inl h
 | x::l,f,s,h=>by
  by_cases hx:s=x.name
  ·exact .inr (by simp[Fj,hx])
  ·rcases Agq (l:=l) (f:=Rh f x.name (Cw x)) h with h1|h1
   ·rw[Ael hx]at h1;exact .inl h1
   ·exact .inr (by simp only[Fj,Jg,lZ9];exact .inr h1)
theorem Arg{l:List LLot}{f:Je}{s:ByteArray}(h:(Jd f l s).isSome=false):s∉Fj l/\(f s).isSome=false:=by
 have a:s∉Fj l:=fun hm=>by
  have key:∀{l:List LLot} {f:Je},(s∈Fj l∨(f s).isSome=true)->(Jd f l s).isSome=true:=by
   intro l;induction l with
   | nil=>intro f h;exact h.resolve_left (by simp[Fj])
   | cons x l ih =>
    intro f h;show (Jd (Rh f x.name (Cw x)) l s).isSome=true;apply ih;by_cases hx:s=x.name
    ·right;rw[hx,Aiy];rfl
    ·rw[Ael hx];rcases h with h|h
     ·left;simp only[Fj,Jg,lZ9]at h;exact h.resolve_left hx
     ·exact .inr h
  rw[key (.inl hm)]at h;cases h
 exact⟨a,by rw[Aiu a]at h;exact h⟩
theorem Ajb:∀{l:List LPart} {t:Je} {s:ByteArray},(tkP t l s).getD 0=(t s).getD 0+Tc s l
 | [],t,s=>by simp[tkP,Tc]
 | p::l,t,s=>by
  show (tkP (Rh t p.of_ ((t p.of_).getD 0+p.grams)) l s).getD 0=_;rw[Ajb,Tc];by_cases h:s=p.of_
  ·rw[if_pos h,h,Aiy];simp;omega
  ·rw[Ael h,if_neg h];omega
theorem Aut:∀{l:List LLot} {t:Je} {s:ByteArray},((l.foldl (fun f x=>tkP f x.parts) t) s).getD 0=(t s).getD 0+tkO s l
 | [],t,s=>by simp[tkO]
 | x::l,t,s=>by rw[Ahn,Aut,Ajb,tkO];omega
theorem Bfr{l:List LPart}{s:ByteArray}(h:Ib l s=false):∀q∈l,q.of_≠s:=fun q hq e=>by
 unfold Ib at h;rw[Bek]at h;exact h q hq (by rw[e];simp)
structure LotsOk(b:LBook):Prop where
 nf:b.fields.length<=5
 nl:b.lots.length<=8
 fnm:∀i s,b.fields[i]?=some s->Hg s=true/\s∉b.fields.take i
 lnm:∀i x,b.lots[i]?=some x->Hg x.name=true/\x.name∉b.fields/\x.name∉Fj (b.lots.take i)/\1<=x.parts.length/\x.parts.length<=6
 prt:∀i x k p,b.lots[i]?=some x->x.parts[k]?=some p->(p.of_∈b.fields∨p.of_∈Fj (b.lots.take i))/\(∀q∈x.parts.take k,q.of_≠p.of_)/\1<=p.grams/\p.grams<=100000 /\
  ∀A y B,b.lots.take i=A++y::B->y.name∉Fj B->y.name=p.of_->0<=Cw y->tkO p.of_ (b.lots.take i)+Tc p.of_ (x.parts.take k)+p.grams<=Cw y
theorem Bua{m t:Je}{ps:List LPart}{p:LPart}(h:Sz m t ps p=0):(m p.of_).isSome=true/\Ib ps p.of_=false/\inR p.grams 1 100000=true/\¬(0<=(m p.of_).getD 0/\(m p.of_).getD 0<(tkP t ps p.of_).getD 0+p.grams):=by
 unfold Sz at h;split at h
 ·cases h
 ·split at h
  ·cases h
  ·split at h
   ·cases h
   ·split at h
    ·cases h
    ·rename_i h1 h2 h3 h4;refine⟨?_,by simpa using h2,by simpa using h3,h4⟩;cases hm:m p.of_ with
     | none=>rw[hm]at h1;exact absurd rfl h1
     | some z=>rfl
theorem Bns{m t:Je}{x:LLot}(h:Agp m t x=0):Hg x.name=true/\(m x.name).isSome=false/\inR x.parts.length 1 6=true/\Ho m t x=0:=by
 unfold Agp at h;split at h
 ·cases h
 ·split at h
  ·cases h
  ·split at h
   ·cases h
   ·rename_i h1 h2 h3;exact⟨by simpa using h1,by simpa using h2,by simpa using h3,h⟩
theorem Tq{b:LBook}(h:Hb b=0):LotsOk b:=by
 unfold Hb at h;split at h
 ·cases h
 ·rename_i h5;have hf:Hl b.fields.length (Jw b.fields)=0:=by
   unfold orF at h;split at h
   ·assumption
   ·rename_i hn;exact absurd h hn
  rw[Gr hf]at h;split at h
  ·cases h
  ·rename_i h8;have hF:=Fx.1 hf;have hL:=Fx.1 h;refine⟨by omega,by omega,fun i s hs=>?_,fun i x hx=>?_,fun i x k p hx hp=>?_⟩
   ·have a:=hF i (lZ3.1 hs).1;unfold Jw at a;rw[hs]at a;simp only at a;unfold Sn at a;split at a
    ·rename_i hn;split at a
     ·cases a
     ·rename_i hi;refine⟨hn,fun hm=>hi ?_⟩;unfold Ic;rw[Ado hm];rfl
    ·cases a
   ·have a:=hL i (lZ3.1 hx).1;unfold Nz at a;rw[hx]at a;obtain⟨g,j,m,_⟩:=Bns a;obtain⟨n,c⟩:=Arg j;have e:=Fz.1 m;refine⟨g,fun hm=>?_,n,by omega,by omega⟩;unfold Ic at c;rw[Ado hm]at c;cases c
   ·have a:=hL i (lZ3.1 hx).1;unfold Nz at a;rw[hx]at a;obtain⟨_,_,_,e⟩:=Bns a;have d:=Fx.1 e k (lZ3.1 hp).1;unfold Agv at d;rw[hp]at d;obtain⟨q,t,u,f⟩:=Bua d;have z:=Fz.1 u;refine⟨?_,Bfr t,by omega,by omega,fun A y B hA hB hy hm=>?_⟩
    ·rcases Agq q with h3|h3
     ·left;unfold Ic at h3;by_cases hm:p.of_∈b.fields
      ·exact hm
      ·rw[Ait hm]at h3;cases h3
     ·exact .inr h3
    ·have v:Jd (Ic b.fields) (b.lots.take i) p.of_=some (Cw y):=by rw[hA,<-hy];exact Ayd hB
     have w:(tkP (tkM (b.lots.take i)) (x.parts.take k) p.of_).getD 0=tkO p.of_ (b.lots.take i)+Tc p.of_ (x.parts.take k):=by
      rw[Ajb];unfold tkM;rw[Aut];simp[Amy]
     rw[v,w]at f;simp only[Ame]at f;omega
end
section
theorem toList_eq{a b:ByteArray}(h:a.toList=b.toList):a=b:=by rw[ByteArray.toList_eq,ByteArray.toList_eq]at h;exact ByteArray.ext (Bne.1 h)
theorem Rd{l:List ByteArray}{s:ByteArray}:0<=Aht l s↔s∈l:=by
 have h:=Yl (l:=l) (s:=s);unfold inL at h;rw[Aqs]at h;constructor
 ·intro b;obtain⟨x,hx,hs⟩:=h.1 b;rw[toList_eq (eq_of_beq hs)];exact hx
 ·intro b;exact h.2 ⟨s,b,by simp⟩
theorem Blq{l:List ByteArray}{s:ByteArray}{j:Nat}(h:l[j]?=some s)(hd:s∉l.take j):Aht l s=(j:Int):=by have hl:j<l.length:=(lZ3.1 h).1;unfold Aht;rw[Fh (i:=j) (fun i hi=>?_) hl (by unfold Xi;rw[h];simp)];unfold Xi;have hi':l[i]?=some l[i]:=Pw (by omega);rw[hi'];refine beq_eq_false_iff_ne.2 fun e=>hd ?_;rw[<-toList_eq e];exact lZ5 (i:=i) (by rw[Adr hi,hi'])
theorem Adl{l:List ByteArray}{s:ByteArray}(h:0<=Aht l s):l[(Aht l s).toNat]?=some s:=by
 unfold Aht at h ⊢;rcases Ft (n:=l.length) (p:=Xi l s) with⟨i,hi,hp,_,he⟩|⟨b,he⟩
 ·rw[he];simp only[Yr];unfold Xi at hp;cases hx:l[i]? with
  | none=>rw[hx]at hp;cases hp
  | some x=>rw[hx]at hp;rw[toList_eq (eq_of_beq hp)]
 ·rw[he]at h;simp at h
theorem Acj{b:LBook}:∀{l:List LLot} {i:Nat} {A B:List Mv} {m:Mv},Tm b i l=A++m::B ->
  ∃j x k p,l[j]?=some x/\x.parts[k]?=some p/\A=Tm b i (l.take j)++Px b (i+j) (x.parts.take k)/\m=Oq b (i+j) p
 | [],i,A,B,m,h=>by simp[Tm]at h
 | x::l,i,A,B,m,h=>by
  rw[Tm]at h;have first:∀C,Px b i x.parts=A++m::C->∃j y k p,(x::l)[j]?=some y/\y.parts[k]?=some p/\A=Tm b i ((x::l).take j)++Px b (i+j) (y.parts.take k)/\m=Oq b (i+j) p:=fun C hC=>by
   have hk:(Px b i x.parts)[A.length]?=some m:=by rw[hC];simp
   unfold Px at hk hC;rw[Ol]at hk;cases hp:x.parts[A.length]? with
   | none=>rw[hp]at hk;cases hk
   | some p =>
    rw[hp]at hk;refine⟨0,x,A.length,p,rfl,hp,?_,(Option.some.inj hk).symm⟩;have:=congrArg (List.take A.length) hC;rw[<-List.map_take,Alv]at this;show A=[]++Px b (i+0) (x.parts.take A.length);rw[Aca];exact this.symm
  rcases List.append_eq_append_iff.1 h with⟨C,d,a⟩|⟨C,d,a⟩
  ·obtain⟨j,y,k,p,e,f,g,n⟩:=Acj a;refine⟨j+1,y,k,p,e,f,?_,by rw[n,show i+1+j=i+(j+1) by omega]⟩;rw[d,g,List.take_succ_cons,Tm,Gt,show i+1+j=i+(j+1) by omega]
  ·cases C with
   | nil =>
    simp only[Tf]at d;simp only[Aca]at a;obtain⟨j,y,k,p,e,f,g,n⟩:=Acj (A:=[]) a.symm;refine⟨j+1,y,k,p,e,f,?_,by rw[n,show i+1+j=i+(j+1) by omega]⟩;rw[List.take_succ_cons,Tm,Gt,show i+(j+1)=i+1+j by omega,<-g,Tf,d]
   | cons c C =>
    simp only[Te,List.cons.injEq]at a;exact first C (by rw[d,a.1])
theorem Bxr{b:LBook}{i j:Nat}:∀{ps:List LPart},Vg j (Px b i ps)=if i=j then Xd ps else 0
 | []=>by simp[Px,Vg,Xd]
 | p::ps=>by
  have:=Bxr (b:=b) (i:=i) (j:=j) (ps:=ps);unfold Px at this ⊢;rw[Jg,Vg,this];by_cases h:i=j
  ·simp[h,Oq,Xd]
  ·simp[h,Oq]
theorem Bte{b:LBook}{j:Nat}:∀{l:List LLot} {i:Nat},Vg j (Tm b i l)=if i<=j then (match l[j-i]? with|some x=>Cw x|none=>0) else 0
 | [],i=>by simp[Tm,Vg]
 | x::l,i=>by
  rw[Tm,Aea,Bxr,Bte];rcases Bnc i j with h|h|h
  ·rw[if_neg (by omega),if_pos (by omega),if_pos (by omega),show j-i=(j-(i+1))+1 by omega,Xr];omega
  ·subst h;rw[if_pos rfl,if_neg (by omega),if_pos (Ig _),Alz];simp[Cw]
  ·rw[if_neg (by omega),if_neg (by omega),if_neg (by omega)];rfl
section
variable{b:LBook}(ok:LotsOk b)
theorem Tz{i:Nat}{p:LPart}:0<=(Hs b i p).field↔p.of_∈b.fields:=Rd
theorem Buw(ok:LotsOk b){i j:Nat}{p:LPart}{y:LLot}(hy:b.lots[j]?=some y)(hji:j<i)(hs:(p.of_∈b.fields∨p.of_∈Fj (b.lots.take i))) :
  ((Oq b i p).fld=false/\(Oq b i p).src=j)↔p.of_=y.name:=by
 obtain⟨_,m,g,_⟩:=ok.lnm j y hy;have hti:(b.lots.take i)[j]?=some y:=by rw[Adr hji];exact hy
 have hnj:(Fj (b.lots.take i))[j]?=some y.name:=by unfold Fj;rw[Ol,hti];rfl
 have hnt:y.name∉(Fj (b.lots.take i)).take j:=by
  unfold Fj at g ⊢;rw[<-List.map_take,List.take_take,Aud (by omega)];exact g
 constructor
 ·rintro⟨d,e⟩;have f:p.of_∉b.fields:=fun hm=>by
   unfold Oq at d;simp only[decide_eq_false_iff_not]at d;exact d (Tz.2 hm)
  have k:p.of_∈Fj (b.lots.take i):=hs.resolve_left f;have a:¬0<=(Hs b i p).field:=fun h=>f (Tz.1 h);unfold Oq at e;simp only[if_neg a]at e;have c:(Fj (b.lots.take i))[(Hs b i p).lot.toNat]?=some p.of_:=Adl (Rd.2 k);rw[e,hnj]at c;exact(Option.some.inj c).symm
 ·intro he;have a:¬0<=(Hs b i p).field:=fun h=>m (he ▸ Tz.1 h);have c:(Hs b i p).lot=(j:Int):=by
   show Aht (Fj (b.lots.take i)) p.of_=_;rw[he];exact Blq hnj hnt
  unfold Oq;simp only[decide_eq_false_iff_not,if_neg a,c,Yr];exact⟨a,trivial⟩
end
end
section
theorem Awf{α:Type}{l:List α}{i:Nat}{x:α}(h:l[i]?=some x):l.drop i=x::l.drop (i+1):=by have hl:=(lZ3.1 h).1;rw[Aii hl];congr 1;exact(lZ3.1 h).2
section
variable{b:LBook}
theorem Bcn{i:Nat}{p:LPart}(h:(Oq b i p).fld=false)(hs:p.of_∈b.fields∨p.of_∈Fj (b.lots.take i)):(Oq b i p).src<i/\(Oq b i p).src<b.lots.length:=by
 have c:¬0<=(Hs b i p).field:=fun hh=>by
  unfold Oq at h;simp only[decide_eq_false_iff_not]at h;exact h hh
 have e:p.of_∉b.fields:=fun hm=>c (Tz.2 hm);have f:(Fj (b.lots.take i))[(Hs b i p).lot.toNat]?=some p.of_:=Adl (Rd.2 (hs.resolve_left e));have d:=(lZ3.1 f).1;unfold Fj at d;rw[Xx,Ha]at d;unfold Oq;simp only[if_neg c];omega
theorem Azi(ok:LotsOk b){i j:Nat}{p:LPart}{y:LLot}(hy:b.lots[j]?=some y)(hs:p.of_∈b.fields∨p.of_∈Fj (b.lots.take i)):((Oq b i p).fld=false/\(Oq b i p).src=j)↔p.of_=y.name:=by
 rcases Uo j i with h|h
 ·exact Buw ok hy h hs
 ·constructor
  ·rintro⟨a,f⟩;have:=(Bcn a hs).1;omega
  ·intro he;exfalso;obtain⟨_,c,d,_⟩:=ok.lnm j y hy;rcases hs with hs|hs
   ·exact c (he ▸ hs)
   ·rw[he]at hs;refine d ?_;unfold Fj at hs ⊢;have e:(b.lots.take i)=(b.lots.take j).take i:=by rw[List.take_take,Aud h]
    rw[e,List.map_take]at hs;exact Aqo hs
theorem Bov(ok:LotsOk b){i j:Nat}{y:LLot}(hy:b.lots[j]?=some y):∀{ps:List LPart},(∀p∈ps,p.of_∈b.fields∨p.of_∈Fj (b.lots.take i))->Rf j (Px b i ps)=Tc y.name ps
 | [],_=>rfl
 | p::ps,h=>by
  have ih:=Bov ok hy (ps:=ps) fun q hq=>h q (lZ0 _ hq);have hn:=Azi ok hy (h p mC);unfold Px at ih ⊢;rw[Jg,Rf,Tc,ih];by_cases hc:p.of_=y.name
  ·rw[if_pos (hn.2 hc),if_pos hc.symm];rfl
  ·rw[if_neg (fun hh=>hc (hn.1 hh)),if_neg (fun hh=>hc hh.symm)]
theorem Aej(ok:LotsOk b){i:Nat}{x:LLot}(hx:b.lots[i]?=some x):∀p∈x.parts,p.of_∈b.fields∨p.of_∈Fj (b.lots.take i):=fun p hp=>by
 obtain⟨k,hk⟩:=Td hp;exact(ok.prt i x k p hx hk).1
theorem Bwb(ok:LotsOk b){j:Nat}{y:LLot}(hy:b.lots[j]?=some y):∀{l:List LLot} {i:Nat},(∀(t:Nat) (x:LLot),l[t]?=some x->b.lots[i+t]?=some x)->Rf j (Tm b i l)=tkO y.name l
 | [],i,_=>rfl
 | x::l,i,h=>by
  rw[Tm,Wf,tkO,Bov ok hy (Aej ok (show b.lots[i]?=some x from h 0 x rfl)),Bwb ok hy fun t z hz=>by rw[show i+1+t=i+(t+1) by omega];exact h (t+1) z hz]
theorem Qn(ok:LotsOk b){i:Nat}{x:LLot}(hx:b.lots[i]?=some x):0<=Cw x/\Cw x<=600000:=by
 have:=Wi (l:=x.parts) fun p hp=>by
  obtain⟨k,hk⟩:=Td hp;have:=ok.prt i x k p hx hk;exact⟨this.2.2.1,this.2.2.2.1⟩
 have a:=(ok.lnm i x hx).2.2.2.2;unfold Cw;omega
theorem Boc(ok:LotsOk b)(A:List Mv)(m:Mv)(B:List Mv)(h:mvs b=A++m::B):Byb b.lots.length b.fields.length A m:=by
 obtain⟨j,x,k,p,c,w,e,f⟩:=Acj h;rw[Sm]at e f;have hj:=(lZ3.1 c).1;obtain⟨d,G,H,I,v⟩:=ok.prt j x k p c w;have htk:∀q∈x.parts.take k,q.of_∈b.fields∨q.of_∈Fj (b.lots.take j):=fun q hq=>Aej ok c q (Aqo hq);subst f;refine⟨hj,by show 0<=p.grams;omega,?_⟩;cases hf:(Oq b j p).fld with
 | true =>
  rw[if_pos rfl];have g:0<=(Hs b j p).field:=by unfold Oq at hf;simpa using hf
  have C:b.fields[(Hs b j p).field.toNat]?=some p.of_:=Adl g;have D:=(lZ3.1 C).1;unfold Oq;simp only[if_pos g];exact D
 | false =>
  rw[if_neg (by simp)];obtain⟨n,u⟩:=Bcn hf d;have hy:b.lots[(Oq b j p).src]?=some b.lots[(Oq b j p).src]:=Pw u;generalize hyy:b.lots[(Oq b j p).src]=y at hy;have hn:=(Azi ok hy d).1 ⟨hf,rfl⟩;refine⟨u,by show _≠j;omega,?_⟩;have ht:∀(t:Nat) (z:LLot),(b.lots.take j)[t]?=some z->b.lots[0+t]?=some z:=fun t z hz=>by
   rw[Sm];have:=(lZ3.1 hz).1;rw[Ha]at this;rw[Adr (by omega)]at hz;exact hz
  rw[e,Wf,Aea,Bwb ok hy ht,Bov ok hy htk,Bxr,Bte,if_neg (by omega:¬j=(Oq b j p).src),if_pos (Hz _),Axs,Adr n,hy];have hty:(b.lots.take j)[(Oq b j p).src]?=some y:=by rw[Adr n];exact hy
  have E:b.lots.take j=(b.lots.take j).take (Oq b j p).src++y::(b.lots.take j).drop ((Oq b j p).src+1):=by rw[<-Awf hty,Aba]
  have:=v _ y _ E (fun hm=>?_) hn.symm (Qn ok hy).1
  ·rw[hn]at this;show tkO y.name (b.lots.take j)+Tc y.name (x.parts.take k)+p.grams<=Cw y+0;omega
  ·unfold Fj at hm;obtain⟨z,hz,hzn⟩:=Jy.1 hm;obtain⟨t,ht'⟩:=Td hz;rw[Agl]at ht';have hlt:=(lZ3.1 ht').1;rw[Ha]at hlt;rw[Adr (by omega)]at ht';have F:=(ok.lnm _ z ht').2.2.1;refine F ?_;rw[hzn];unfold Fj;exact Jy.2 ⟨y,lZ5 (i:=(Oq b j p).src) (by rw[Adr (by omega)];exact hy),rfl⟩
theorem Bnv(ok:LotsOk b){k:Nat}{x:LLot}(hx:b.lots[k]?=some x) :
  ∃v:Nat->Int,(∀f,0<=v f)/\Df b.fields.length v=Cw x/\∀F C:Nat,C.testBit k=true->Iq b.fields.length F.testBit v<=Bu b F C:=by
 have hk:=(lZ3.1 hx).1;have hsp:mvs b=Ack b (k+1)++Tm b (k+1) (b.lots.drop (k+1)):=by
  unfold mvs Ack
  conv=>lhs;rw[<-Aba (k+1) b.lots]
  rw[Amt];congr 2;rw[Ha];omega
 have c:(mvs b).take (Ack b (k+1)).length=Ack b (k+1):=by rw[hsp];exact Alv
 have ho:Rf k (Ack b (k+1))=0:=by
  have key:∀(l:List LLot) (i:Nat),i+l.length<=k+1->(∀(t:Nat) (z:LLot),l[t]?=some z->b.lots[i+t]?=some z)->Rf k (Tm b i l)=0:=by
   intro l;induction l with
   | nil=>intro i _ _;rfl
   | cons z l ih =>
    intro i hi h;rw[Gk]at hi;rw[Tm,Wf,ih (i+1) (by omega) fun t y hy=>by rw[show i+1+t=i+(t+1) by omega];exact h (t+1) y hy];have hz:=Aej ok (h 0 z rfl);rw[Abb]at hz;have:∀ps:List LPart,(∀p∈ps,p.of_∈b.fields∨p.of_∈Fj (b.lots.take i))->Rf k (Px b i ps)=0:=by
     intro ps;induction ps with
     | nil=>intro _;rfl
     | cons p ps ihp =>
      intro hp;have a:=ihp fun q hq=>hp q (lZ0 _ hq);unfold Px at a ⊢;rw[Jg,Rf,a,if_neg]
      ·rfl
      ·rintro⟨e,m⟩;have:=(Bcn e (hp p mC)).1;omega
    rw[this z.parts hz];rfl
  refine key _ 0 (by rw[Ha];omega) fun t z hz=>?_;have:=(lZ3.1 hz).1;rw[Ha]at this;rw[Adr (by omega)]at hz;rw[Sm];exact hz
 have hin:Vg k (Ack b (k+1))=Cw x:=by
  unfold Ack;rw[Bte,if_pos (Hz _),Axs,Adr (by omega),hx]
 obtain⟨v,g,d,j⟩:=Bva (n:=b.lots.length) (N:=b.fields.length) (k:=k) (M:=mvs b) (Boc ok) (i:=(Ack b (k+1)).length) (by rw[hsp,lZ4];omega) hk (by rw[c];exact ho);rw[c,hin]at d;exact⟨v,g,d,fun F C hC=>j F.testBit C.testBit hC⟩
end
end
section
def Ma(b:LBook)(F k:Nat):Nat:=Bhd (Bu b F) b.lots.length k
def Dm(b:LBook)(F k:Nat):Int:=Bu b F (Ma b F k)
def Po(N F:Nat):Nat:=(2^N-1) ^^^ ((2^N-1) &&& F)
def Auf(b:LBook)(m:Int)(F k:Nat):Int:=m-Dm b (Po b.fields.length F) k
theorem Btz{N F j:Nat}:(Po N F).testBit j=(decide (j<N) && !F.testBit j):=by unfold Po;rw[Nat.testBit_xor,Nat.testBit_and,Nat.testBit_two_pow_sub_one];cases F.testBit j<;>by_cases h:j<N<;>simp[h]
theorem Boy{N F:Nat}{v:Nat->Int}:Iq N (Po N F).testBit v+Iq N F.testBit v=Df N v:=by unfold Iq;rw[<-Ajf];exact Et fun i hi=>by rw[Btz];cases F.testBit i<;>simp[hi]
theorem Bkz{F C:Nat->Bool}{k:Nat}(hC:∀j,C j=true->j=k):∀{M:List Mv},(∀m∈M,0<=m.g)->Nu F C M<=Vg k M
 | [],_=>Xy _
 | m::M,h=>by
  have ih:=Bkz (F:=F) hC (M:=M) fun x hx=>h x (lZ0 _ hx);have a:=h m mC;rw[Nu,Vg];cases he:Akt F C m with
  | false=>simp only[Agh,if_false];split<;>omega
  | true =>
   have:C m.dst=true:=by unfold Akt at he;simp only[Pb]at he;exact he.1
   rw[if_pos (hC _ this)];simp only[if_true];omega
section
variable{b:LBook}{k:Nat}{x:LLot}
theorem Amu(ok:LotsOk b):∀m∈mvs b,0<=m.g:=fun m hm=>by
 obtain⟨A,B,h⟩:=Bmy hm;exact(Boc ok A m B h).2.1
theorem Atv(ok:LotsOk b)(F C:Nat):0<=Bu b F C:=Yi (Amu ok)
theorem Aae(hx:b.lots[k]?=some x)(F:Nat):(Ma b F k).testBit k=true/\Ma b F k<2^b.lots.length :=
 let h:=(Apy (g:=Bu b F) (lZ3.1 hx).1).1
 ⟨h.2,h.1⟩
theorem Ams(hx:b.lots[k]?=some x){F D:Nat}(hD:D<2^b.lots.length)(hk:D.testBit k=true) :
  Dm b F k<=Bu b F D/\(Bu b F D=Dm b F k->(elems (Ma b F k)).length<=(elems D).length):=by have h:=Apq.1 ((Apy (g:=Bu b F) (lZ3.1 hx).1).2 D hD hk);exact⟨h.1,fun e=>(h.2 e).1⟩
theorem We(ok:LotsOk b)(hx:b.lots[k]?=some x)(F:Nat):0<=Dm b F k/\Dm b F k<=Cw x:=by
 have hk:=(lZ3.1 hx).1;refine⟨Atv ok F _,?_⟩;have a:=(Ams hx (F:=F) (D:=1 <<< k) (by rw[Ape];exact Bee (by omega) hk) (by rw[Wl];simp)).1;have c:Bu b F (1 <<< k)<=Vg k (mvs b):=Bkz (fun j hj=>by rw[Wl]at hj;exact(lZ2 hj).symm) (Amu ok);have d:Vg k (mvs b)=Cw x:=by
  unfold mvs;rw[Bte,if_pos (Hz _),Axs,hx]
 omega
theorem Arq(ok:LotsOk b)(hx:b.lots[k]?=some x):∃v:Nat->Int,(∀f,0<=v f)/\Df b.fields.length v=Cw x/\(∀F:Nat,Iq b.fields.length F.testBit v<=Dm b F k)/\∀F:Nat,Auf b (Cw x) F k<=Iq b.fields.length F.testBit v:=by obtain⟨v,a,c,d⟩:=Bnv ok hx;have h:∀F:Nat,Iq b.fields.length F.testBit v<=Dm b F k:=fun F=>d F _ (Aae hx F).1;refine⟨v,a,c,h,fun F=>?_⟩;have e:=h (Po b.fields.length F);have g:=Boy (N:=b.fields.length) (F:=F) (v:=v);unfold Auf;omega
theorem Bso(ok:LotsOk b)(hx:b.lots[k]?=some x)(F:Nat):0<=Auf b (Cw x) F k/\Auf b (Cw x) F k<=Dm b F k/\Dm b F k<=Cw x:=by have e:=We ok hx F;have f:=We ok hx (Po b.fields.length F);obtain⟨v,_,_,c,d⟩:=Arq ok hx;have g:=c F;have a:=d F;unfold Auf at a ⊢;omega
theorem Blg(ok:LotsOk b)(hx:b.lots[k]?=some x):Df b.fields.length (fun i=>Auf b (Cw x) (1 <<< i) k)<=Cw x/\Cw x<=Df b.fields.length (fun i=>Dm b (1 <<< i) k):=by
 obtain⟨v,_,a,d,j⟩:=Arq ok hx;have e:∀i,i<b.fields.length->Iq b.fields.length (1 <<< i).testBit v=v i:=fun i hi=>by
  have c:Iq b.fields.length (1 <<< i).testBit v=Df b.fields.length (fun f=>if f=i then v i else 0):=by
   unfold Iq;refine Et fun f _=>?_;rw[Wl];by_cases h:i=f
   ·subst h;simp
   ·simp only[h,decide_false,Agh,if_false];rw[if_neg (fun e=>h e.symm)]
  rw[c,Aof hi]
 constructor
 ·exact Int.le_trans (Oe (g:=v) fun i hi=>by have:=j (1 <<< i);rw[e i hi]at this;exact this) (Int.le_of_eq a)
 ·exact Int.le_trans (Int.le_of_eq a.symm) (Oe (f:=v) fun i hi=>by have:=d (1 <<< i);rw[e i hi]at this;exact this)
end
end
section
theorem bt1{x i:Nat}:((((x>>>i) &&& 1:Nat):Int)==1)=x.testBit i:=Pz x i
theorem bt0{x i:Nat}:((((x>>>i) &&& 1:Nat):Int)==0) = !x.testBit i:=by rw[<-bt1];have h:x>>>i &&& 1<2:=Bbp Nat.and_le_right (by omega);rcases (show x>>>i &&& 1=0∨x>>>i &&& 1=1 by omega) with h|h<;>rw[h]<;>rfl
theorem Bzu{α β:Type}{l:List α}{k:Nat}{a:α}{f:α->β}{z:β}(h:l[k]?=some a)(hz:(l.map f)[k]?=some z):f a=z:=by rw[Ol,h]at hz;exact Option.some.inj hz
theorem Bsv{l:List ByteArray}{s:ByteArray}:-1<=Aht l s:=by unfold Aht;split<;>omega
section
variable{b:LBook}{i k F C:Nat}{x:LLot}{p:LPart}
theorem Bwd(ok:LotsOk b)(h:0<=(Hs b i p).field):(Hs b i p).lot = -1:=by
 have a:=Tz.1 h;have d:-1<=(Hs b i p).lot:=Bsv;rcases (show (Hs b i p).lot = -1∨0<=(Hs b i p).lot by omega) with h3|h3
 ·exact h3
 ·exfalso;have c:p.of_∈(b.lots.take i).map LLot.name:=Rd.1 h3;obtain⟨y,hy,he⟩:=Jy.1 c;obtain⟨j,hj⟩:=Td (Aqo hy);exact(ok.lnm j y hj).2.1 (he ▸ a)
theorem Bwc(ok:LotsOk b)(hx:b.lots[i]?=some x)(hp:x.parts[k]?=some p)(h:¬(Hs b i p).field>=0):0<=(Hs b i p).lot:=by
 rcases Aej ok hx p (lZ5 hp) with h1|h1
 ·exact absurd (Tz.2 h1) h
 ·exact Rd.2 h1
theorem Cbo(hp:x.parts[k]?=some p)(hC:C.testBit i=true)(h:(Hs b i p).field>=0)(hF:F.testBit (Hs b i p).field.toNat=true) :
  Nu F.testBit C.testBit (Px b i (x.parts.take (k+1)))=Nu F.testBit C.testBit (Px b i (x.parts.take k))+p.grams:=by rw[Aag hp,Rb,Adf,if_pos (by simp[Akt,Oq,hC,h,hF])];rfl
theorem Cbm(hp:x.parts[k]?=some p)(h:(Hs b i p).field>=0)(hF:F.testBit (Hs b i p).field.toNat=false) :
  Nu F.testBit C.testBit (Px b i (x.parts.take (k+1)))=Nu F.testBit C.testBit (Px b i (x.parts.take k)):=by rw[Aag hp,Rb,Adf,if_neg (by simp[Akt,Oq,h,hF])];omega
theorem Cbp(hp:x.parts[k]?=some p)(hC:C.testBit i=true)(h:¬(Hs b i p).field>=0)(hF:C.testBit (Hs b i p).lot.toNat=false) :
  Nu F.testBit C.testBit (Px b i (x.parts.take (k+1)))=Nu F.testBit C.testBit (Px b i (x.parts.take k))+p.grams:=by have h':¬0<=(Hs b i p).field:=h;rw[Aag hp,Rb,Adf,if_pos (by simp only[Akt,Oq,hC,lZ6 h',if_neg h',hF];rfl)];rfl
theorem Cbn(hp:x.parts[k]?=some p)(h:¬(Hs b i p).field>=0)(hF:C.testBit (Hs b i p).lot.toNat=true) :
  Nu F.testBit C.testBit (Px b i (x.parts.take (k+1)))=Nu F.testBit C.testBit (Px b i (x.parts.take k)):=by have h':¬0<=(Hs b i p).field:=h;rw[Aag hp,Rb,Adf,if_neg (by simp[Akt,Oq,h',hF])];omega
theorem Btq{n:Nat}(h:b.lots.length<=n):Ack b n=mvs b:=by unfold Ack mvs;rw[Aua h]
theorem Bob{n:Nat}(h:x.parts.length<=n):Px b i (x.parts.take n)=Px b i x.parts:=by rw[Aua h]
end
theorem Asx{p q:Nat}(hp:p<2^63):Op.intBits .andNot .u64 p q=pure (.int .u64 ((p ^^^ (p &&& q):Nat):Int)):=by
 simp only[Op.intBits];congr 2;have c:p ^^^ (p &&& q)<2^63:=Nat.xor_lt_two_pow hp (Bbp Amf hp);have:(BitVec.ofInt IntKind.u64.bits p &&& ~~~ BitVec.ofInt IntKind.u64.bits q).toNat=p ^^^ (p &&& q):=by
  show (BitVec.ofInt 64 p &&& ~~~ BitVec.ofInt 64 q).toNat=_;apply Bed;intro i;rw[BitVec.testBit_toNat,BitVec.getLsbD_and,BitVec.getLsbD_not,Nat.testBit_xor,Nat.testBit_and];by_cases hi:i<64
  ·have a:(BitVec.ofInt 64 (p:Int)).getLsbD i=p.testBit i:=by
    rw[<-BitVec.testBit_toNat,BitVec.toNat_ofInt];have a:((p:Int)%(2^64:Nat)).toNat=p:=by omega
    rw[a]
   have b:(BitVec.ofInt 64 (q:Int)).getLsbD i=q.testBit i:=by
    rw[<-BitVec.testBit_toNat,BitVec.toNat_ofInt];have a:((q:Int)%(2^64:Nat)).toNat=q%2^64:=by omega
    rw[a,Bmm];simp[hi]
   rw[a,b];cases p.testBit i<;>cases q.testBit i<;>simp[hi]
  ·have:p.testBit i=false:=Bmn (Nx hp (Apd (by omega) (by omega)));rw[this];simp[hi]
 rw[this];show ((p ^^^ (p &&& q):Nat):Int)%_=_;simp only[IntKind.bits];omega
theorem Bjn{P:Program}{Y:Ro}{e:Env}{ty t t':TypeId}{x y:Operand}{p q:Nat}(hx:Af e x = .int .u64 p)(hy:Af e y = .int .u64 q)(hp:p<2^63):Yld P Y e (.binOp .andNot t x y t') ty (.int .u64 ((p ^^^ (p &&& q):Nat):Int)) :=
 La hx hy Dh (by simp only[binOp];rw[if_neg (by simp)];exact Asx hp)
end
section
variable{mn:Bool}{X:Frame->List Frame->Ro->Own->Cy->Prop}{Y:Ro}{Z:Own}
theorem Acy{b:LBook}{F C:Nat}{vc:Value}(ok:LotsOk b)(hc:At Y vc (⟨b,frD b⟩:Cel))(hF:F<2^63)(hC:C<2^63):CallsH (CX mn X) 55 #[vc,.int .u64 (F:Int),.int .u64 (C:Int)] Y Z (rP Y Z (iV (Bu b F C))):=by
 have hnl:=ok.nl;refine Bq 77 [6] Cfs rfl fun Q av co=>qA fun K1 k1=>Av (iV 0) (qB k1 fun K2 k2=>Av (iV 0) (qE k2 fun K3 K4 k3 k4=>Au vc (l_v (Hj rfl hc) (Arw (Ba Cel.f_b Cet rfl Mk hc) fun v5 r5=>Arw (Ba LBook.f_lots Cec rfl Ee r5) fun v6 r6=>Arw (Ax Ee rfl r6) fun v7 r7=>?_))));have g8:=Val.len r7;refine l_v (Ci (el:=51) Cee rfl r7) (Au (iV 0) (l_k k4 (Ao (Cc (fun mm ee dd Y' Z'=>∃(i:Nat) (g:Int),(b.lots.length-i)=mm/\[]=dd/\Y=Y'/\Z=Z'/\ee 0=vc/\ee 1=(.int .u64 (F:Int))/\ee 2=(.int .u64 (C:Int))/\ee 17=v7/\ee 18=(iV (b.lots.length:Int))/\ee 7=iV g/\ee 19=iV i/\(i<=b.lots.length)/\(g=Nu F.testBit C.testBit (Ack b i))/\(0<=g/\g<=600000*(i:Int))/\True) (m:=_) ⟨0,0,rfl,rfl,rfl,rfl,rfl,rfl,rfl,rfl,rfl,rfl,rfl,Hz _,rfl,⟨by omega,by omega⟩,trivial⟩ ?_))));rintro m9 e9 _ _ _ ⟨i,g,rfl,rfl,rfl,rfl,a8,a9,a2,a0,a1,a3,O,d1,a6,d2,_⟩;refine qA fun bp aw=>l_v (Da O a1) (Asa aw fun bq ax=>Bp (t:=decide ((i:Int)<(b.lots.length:Int))) rfl (fun YQ=>?_) (fun YQ=>?_))
 ·have b7:=lZ2 YQ;refine Al (kk ax ?_);refine Ai fun br ac=>Ao (qA fun bt ay=>l_v (Ah (v:=iV i) O) ?_);obtain⟨h,u⟩:=Ed (xs:=b.lots) (i:=i) (by first|omega|(rw[Xx];omega));have cn:=(ok.lnm _ _ u).2.2.2.2;refine Arw (Ch i Cee Fm a0 r7 (q:=(i:Int)) O rfl u) fun d3 bc=>Arw (Ax Fm rfl bc) fun bk ad=>Arv (Ct Ave fun cu=>?_);refine Av (iV i) (Cx rfl (Dv (v:=bk) (a:=h) (c:=Avd) Fm rfl rfl ad rfl ?_));refine Bb (a:=h) ad fun bo a5 bd=>?_;replace hc:=At.mono a5 hc;refine qE ay fun bu bv az b0=>l_v (Ah (v:=.int .u64 (C:Int)) a2) (Au (iV i) (l_v (Lc (p:=C) (q:=i) rfl rfl rfl (by omega)) (l_v (Nv (p:=C>>>i) (q:=1) rfl rfl (Nl (by omega))) (l_v (Ek rfl rfl) (l_k b0 (Bp (t:=((((C>>>i) &&& 1):Nat):Int)==0) rfl (fun E=>?_) (fun E=>?_)))))))
  ·have an:=not_eq_t (bt0.symm.trans E);have b8:=Jr E;refine Bx (kk ac ?_);refine qC (l_v (Br O rfl (z:=(((i+1):Nat):Int)) wrE) (Au (iV ((i+1):Nat)) (Bj (Cgg a5) (Ac ?_))));refine⟨_,?_,(i+1),g,rfl,rfl,rfl,rfl,a8,a9,a2,a0,a1,a3,rfl,(by omega),(by rw[Ari u,Rb,Awa an,a6];omega),⟨by omega,by omega⟩,trivial⟩;omega
  have ab:=Fs (bt0.symm.trans E);have b8:=Jq E;refine Al (kk az ?_);refine qA fun bx b1=>Arw (Ba LLot.f_parts Ceg rfl Fv bd) fun d4 be=>Arw (Ax Fv rfl be) fun bl a7=>?_;have c8:=Val.len a7;refine l_v (Ci (el:=127) Ceh rfl a7) (Au (iV 0) (l_k b1 (Ao (Cc (fun mm ee dd Y' Z'=>∃(k:Nat) (c:Int),(h.parts.length-k)=mm/\[]=dd/\bo=Y'/\Z=Z'/\ee 0=vc/\ee 1=(.int .u64 (F:Int))/\ee 2=(.int .u64 (C:Int))/\ee 8=iV i/\ee 17=v7/\ee 18=(iV (b.lots.length:Int))/\ee 19=iV i/\ee 30=bl/\ee 31=(iV (h.parts.length:Int))/\ee 7=iV c/\ee 32=iV k/\(k<=h.parts.length)/\(c=c)/\(c=Nu F.testBit C.testBit (Ack b i)+Nu F.testBit C.testBit (Px b i (h.parts.take k)))/\(0<=c/\c<=600000*(i:Int)+100000*(k:Int))/\True) (m:=_) ⟨0,g,rfl,rfl,rfl,rfl,a8,a9,a2,rfl,a0,a1,O,rfl,rfl,a3,rfl,Hz _,rfl,(by rw[a6];exact(Int.add_zero _).symm),⟨by omega,by omega⟩,trivial⟩ ?_))));rintro cx c7 _ _ _ ⟨k,c,rfl,rfl,rfl,rfl,y,B,D,N,H,I,J,K,L,M,w,cy,cz,T,d0,_⟩;refine qA fun bz b2=>l_v (Da w L) (Asa b2 fun c0 b3=>Bp (t:=decide ((k:Int)<(h.parts.length:Int))) rfl (fun ZQ=>?_) (fun ZQ=>?_))
  ·have b9:=lZ2 ZQ;refine Al (kk b3 ?_);refine Ai fun c1 V=>Ao (qA fun c2 b4=>l_v (Ah (v:=iV k) w) ?_);obtain⟨d,j⟩:=Ed (xs:=h.parts) (i:=k) (by first|omega|(rw[Xx];omega));have au:=ok.prt _ _ _ _ u j;obtain⟨_,_,cp,cq,_⟩:=au;refine Arw (Ch k Ceh Lu K a7 (q:=(k:Int)) w rfl j) fun d5 bf=>Arw (Ax Lu rfl bf) fun bm ae=>Arv (Ct Aov fun cv=>?_);refine Av (iV k) (Cx rfl (Dv (v:=bm) (a:=d) (c:=Aou) Lu rfl rfl ae rfl ?_));refine Bb (a:=d) ae fun di P W=>?_;replace hc:=At.mono P hc;refine qB b4 fun c3 b5=>l_v (Ah (v:=vc) y) (l_v (Ah (v:=iV i) N) (l_v (Hj rfl hc) (Arw (Ba Cel.f_from_ Cet rfl Aux hc) fun d6 bg=>Arw (Bjq i Cfd Xe.2 rfl bg (q:=(i:Int)) rfl rfl (Bps u (by have:=ok.nl;omega))) fun d7 bh=>Arw (Ax Xe rfl bh) fun d8 bi=>Au (iV k) ?_)));obtain⟨c6,aa⟩:=Ed (xs:=h.parts.map (Hs b i)) (i:=k) (by first|omega|(rw[Xx];omega));obtain rfl:=Bzu j aa;refine Arw (Ch k Cex Aoh rfl bi (q:=(k:Int)) rfl rfl aa) fun d9 bj=>Arw (Ax Aoh rfl bj) fun bn af=>Arv (Ct Avf fun cw=>?_);refine Cx rfl (Dv (v:=bn) (a:=Hs b i d) (c:=Bqs) Aoh rfl rfl af rfl ?_);refine Bb (a:=Hs b i d) af fun dj R U=>?_;replace W:=At.mono R W;refine qB b5 fun c4 a4=>Arw (Ba LSrc.f_field Cfa rfl ty3 U) fun da ag=>?_;have⟨c9,ca⟩:=At.rng ag;refine l_v (Bc ty3 rfl ag) (l_v (Uy rfl rfl) (Au (.bool (decide (((Hs b i d)).field>=0))) (Cn (decide (((Hs b i d)).field>=0)) (fun e=>?_) (fun e=>?_))))
   ·have n:=lZ2 e;refine Aa (qF e) (Ah (v:=.int .u64 (F:Int)) B) (Ak (qF e) (Ba LSrc.f_field Cfa rfl ty3 U) fun db ah=>?_);have⟨cb,cc⟩:=At.rng ah;refine Aa (qF e) (Bc ty3 rfl ah) (Aa (qF e) (Lc (p:=F) (q:=(((Hs b i d)).field).toNat) rfl (Eq.trans (b:=iV (((Hs b i d)).field)) rfl (by rw[Bmu (a:=((Hs b i d)).field) (by omega)])) rfl (by omega)) (Aa (qF e) (Nv (p:=F>>>(((Hs b i d)).field).toNat) (q:=1) rfl rfl (Nl (by omega))) (Aa (qF e) (Ek rfl rfl) (l_v (Bt rfl e (v:=.bool (((((F>>>(((Hs b i d)).field).toNat) &&& 1):Nat):Int)==1)) rfl) (Au (.bool (((((F>>>(((Hs b i d)).field).toNat) &&& 1):Nat):Int)==1)) (Cn (((((F>>>(((Hs b i d)).field).toNat) &&& 1):Nat):Int)==1) (fun f=>?_) (fun f=>?_)))))))
    ·have ao:=bt1.symm.trans f;have ba:=Jr f;refine Ap (gN rfl f) (Ap (gN rfl f) (Ap (gN rfl f) (Ap (gN rfl f) (Ap (Jf rfl rfl rfl) (Ap (Jf rfl rfl rfl) (Ap (Jf rfl rfl rfl) (Ap (Jf rfl rfl rfl) (Ap (Jf rfl rfl rfl) (Ap (Jf rfl rfl rfl) (Ap (gN rfl f) (l_v (Bt rfl f (v:=bT) rfl) (l_k a4 (Co rfl rfl (qC (l_v (Ah (v:=iV c) M) (Arw (Ba LPart.f_grams Cef rfl ty3 W) fun dc ai=>?_))))))))))))))));have⟨cd,ce⟩:=At.rng ai;refine l_v (Bc ty3 rfl ai) (l_v (Br rfl rfl (z:=c+d.grams) (Bo (by rfl) (by omega) (by omega))) (Av (iV (c+d.grams)) (l_k V (qC (l_v (Br w rfl (z:=(((k+1):Nat):Int)) wrE) (Au (iV ((k+1):Nat)) (Bj (Cgg (Cgj P R)) (Ac ?_))))))));refine⟨_,?_,(k+1),(c+d.grams),rfl,rfl,rfl,rfl,y,B,D,N,H,I,J,K,L,rfl,rfl,(by omega),rfl,(by rw[Cbo (F:=F) j ab n ao,T];omega),⟨by omega,by omega⟩,trivial⟩;omega
    have ap:=bt1.symm.trans f;have ba:=Jq f;refine Ak (qF f) (Ba LSrc.f_lot Cfa rfl ty3 U) fun de aj=>?_;have⟨cf,cg⟩:=At.rng aj;refine Aa (qF f) (Bc ty3 rfl aj) (Aa (qF f) (Uy rfl rfl) ?_);have cr:=Bwd ok n;refine l_M (.bool (decide (((Hs b i d)).lot>=0))) (qF f) rfl ?_;have cs:=Bwd ok n;refine Ap (gN rfl (lZ6 (by omega))) (Ap (gN rfl (lZ6 (by omega))) (Ap (gN rfl (lZ6 (by omega))) (Ap (gN rfl (lZ6 (by omega))) (Ap (gN rfl (lZ6 (by omega))) (Ap (gN rfl (lZ6 (by omega))) (Aa (qF f) (Bn rfl (lZ6 (by omega)) (v:=bF) rfl) (l_v (Bn rfl f (v:=bF) rfl) (l_k a4 (Cg rfl rfl (Al (kk V ?_)))))))))));refine qC (l_v (Br w rfl (z:=(((k+1):Nat):Int)) wrE) (Au (iV ((k+1):Nat)) (Bj (Cgg (Cgj P R)) (Ac ?_))));refine⟨_,?_,(k+1),c,rfl,rfl,rfl,rfl,y,B,D,N,H,I,J,K,L,M,rfl,(by omega),rfl,(by rw[Cbm (F:=F) (C:=C) j n ap,T]),⟨by omega,by omega⟩,trivial⟩;omega
   have n:=lZ1 e;refine Ap (gN rfl e) (Ap (gN rfl e) (Ap (gN rfl e) (Ap (gN rfl e) (Ap (gN rfl e) (Ap (gN rfl e) (l_v (Bn rfl e (v:=bF) rfl) (Au bF (Ak (gY rfl rfl) (Ba LSrc.f_lot Cfa rfl ty3 U) fun df ak=>?_))))))));have⟨ch,ci⟩:=At.rng ak;refine Aa (gY rfl rfl) (Bc ty3 rfl ak) (Aa (gY rfl rfl) (Uy rfl rfl) ?_);have ct:=Bwc ok u j n;refine l_M (.bool (decide (((Hs b i d)).lot>=0))) (gY rfl rfl) rfl ?_;have x:=Bwc ok u j n;refine Aa (gY rfl (Mm x)) (Ah (v:=.int .u64 (C:Int)) D) (Ak (gY rfl (Mm x)) (Ba LSrc.f_lot Cfa rfl ty3 U) fun dg al=>?_);have⟨cj,ck⟩:=At.rng al;refine Aa (gY rfl (Mm x)) (Bc ty3 rfl al) (Aa (gY rfl (Mm x)) (Lc (p:=C) (q:=(((Hs b i d)).lot).toNat) rfl (Eq.trans (b:=iV (((Hs b i d)).lot)) rfl (by rw[Bmu (a:=((Hs b i d)).lot) (by omega)])) rfl (by omega)) (Aa (gY rfl (Mm x)) (Nv (p:=C>>>(((Hs b i d)).lot).toNat) (q:=1) rfl rfl (Nl (by omega))) (Aa (gY rfl (Mm x)) (Ek rfl rfl) (Aa (gY rfl rfl) (Bt rfl (Mm x) (v:=.bool (((((C>>>(((Hs b i d)).lot).toNat) &&& 1):Nat):Int)==0)) rfl) (l_v (Bn rfl rfl (v:=.bool (((((C>>>(((Hs b i d)).lot).toNat) &&& 1):Nat):Int)==0)) rfl) (l_k a4 (Bp (t:=((((C>>>(((Hs b i d)).lot).toNat) &&& 1):Nat):Int)==0) rfl (fun G=>?_) (fun G=>?_))))))))
   ·have aq:=not_eq_t (bt0.symm.trans G);have bb:=Jr G;refine qC (l_v (Ah (v:=iV c) M) (Arw (Ba LPart.f_grams Cef rfl ty3 W) fun dh am=>?_));have⟨cl,cm⟩:=At.rng am;refine l_v (Bc ty3 rfl am) (l_v (Br rfl rfl (z:=c+d.grams) (Bo (by rfl) (by omega) (by omega))) (Av (iV (c+d.grams)) (l_k V (qC (l_v (Br w rfl (z:=(((k+1):Nat):Int)) wrE) (Au (iV ((k+1):Nat)) (Bj (Cgg (Cgj P R)) (Ac ?_))))))));refine⟨_,?_,(k+1),(c+d.grams),rfl,rfl,rfl,rfl,y,B,D,N,H,I,J,K,L,rfl,rfl,(by omega),rfl,(by rw[Cbp (F:=F) j ab n aq,T];omega),⟨by omega,by omega⟩,trivial⟩;omega
   have ar:=Fs (bt0.symm.trans G);have bb:=Jq G;refine Al (kk V ?_);refine qC (l_v (Br w rfl (z:=(((k+1):Nat):Int)) wrE) (Au (iV ((k+1):Nat)) (Bj (Cgg (Cgj P R)) (Ac ?_))));refine⟨_,?_,(k+1),c,rfl,rfl,rfl,rfl,y,B,D,N,H,I,J,K,L,M,rfl,(by omega),rfl,(by rw[Cbn (F:=F) (C:=C) j n ar,T]),⟨by omega,by omega⟩,trivial⟩;omega
  have b9:=lZ1 ZQ;refine Bx (kk ac ?_);refine qC (l_v (Br J rfl (z:=(((i+1):Nat):Int)) wrE) (Au (iV ((i+1):Nat)) (Bj (Cgg a5) (Ac ?_))));refine⟨_,?_,(i+1),c,rfl,rfl,rfl,rfl,y,B,D,H,I,M,rfl,(by omega),(by rw[Ari u,Rb,T,Bob (by omega)]),⟨by omega,by omega⟩,trivial⟩;omega
 have b7:=lZ1 YQ;refine Bx (kk k3 ?_);refine qA fun c5 b6=>l_v (Ah (v:=iV g) a3) (Av (iV g) (l_k b6 (Aq (av (rT (iV g) ?_)))));rw[a6,Btq (by omega)];rfl
theorem Bww{b:LBook}{vc:Value}(ok:LotsOk b)(hc:At Y vc (⟨b,frD b⟩:Cel)):CallsH (CX mn X) 35 #[vc] Y Z (rP Y Z (.int .u64 (((2^b.fields.length-1):Nat):Int))):=by
 have hnf:=ok.nf;have hsh:=Zc (n:=b.fields.length) (by omega);have k:1<=1 <<< b.fields.length:=by rw[Ape];exact Nat.one_le_two_pow
 refine Bq 11 [2] Tryz.func35 rfl fun Q c m=>qA fun h d=>Av (.int .u64 0) (qB d fun i e=>Au vc (l_v (Hj rfl hc) (Arw (Ba Cel.f_b Cet rfl Mk hc) fun t f=>Arw (Ba LBook.f_fields Cec rfl Hw f) fun u g=>Arw (Ax Hw rfl g) fun v a=>?_)));have j:=Val.len a;refine l_v (Ci (el:=9) Ced rfl a) (l_v (Md (p:=1) (q:=b.fields.length) rfl rfl rfl (by omega) (z:=(((1 <<< b.fields.length):Nat):Int)) hsh.1) (l_v (Ou rfl rfl (z:=((((1 <<< b.fields.length)-1):Nat):Int)) ((Ev (by omega) (by omega)).trans (by omega))) (Av (.int .u64 ((((1 <<< b.fields.length)-1):Nat):Int)) (l_k e (Aq (c ⟨rfl,rfl,eT (.int .u64 ((((1 <<< b.fields.length)-1):Nat):Int)) ?_⟩))))));rw[Ape]
end
section
theorem Rx{x:Nat}(h:x<256):elems x=Bv x:=by
 have key:(List.range 256).all (fun x=>elems x==Bv x)=true:=by decide +kernel
 have:=Ny.1 key x (by simpa using h);simpa using this
theorem Ql{x:Nat}(h:x<256):(elems x).length=De x:=by
 have key:(List.range 256).all (fun x=>(elems x).length==De x)=true:=by decide +kernel
 have:=Ny.1 key x (by simpa using h);simpa using this
theorem Bfn{x:Nat}(h:x<256):De x<=8:=by
 have key:(List.range 256).all (fun x=>decide (De x<=8))=true:=by decide +kernel
 have:=Ny.1 key x (by simpa using h);simpa using this
theorem Aue:∀{a b:List Nat},Ow a b=true↔a<b
 | [],[]=>by simp[Ow]
 | a::l,[]=>by simp[Ow]
 | [],b::m=>by simp[Ow]
 | a::l,b::m=>by
  rw[Ow,List.cons_lt_cons_iff];simp only[Axq,Pb,decide_eq_true_eq,beq_iff_eq];rw[Aue]
section
variable{g:Nat->Int}{S C:Nat}
theorem Cax(h:g S>g C):bet g S C=false:=Apq.2 ⟨by omega,fun e=>by omega⟩
theorem Cay(hS:S<256)(hC:C<256)(h:(g S==g C)=true)(hm:(De S:Int)-(De C:Int)>0):bet g S C=false:=by refine Apq.2 ⟨by have:=eq_of_beq h;omega,fun _=>?_⟩;rw[Ql hS,Ql hC];exact⟨by omega,fun e=>by omega⟩
theorem Caz(hS:S<256)(hC:C<256)(h:(g S==g C)=true)(hm:((De S:Int)-(De C:Int)==0)=true)(hc:Gz (Bw (Bv S)) (Bw (Bv C))>=0):bet g S C=false:=by refine Apq.2 ⟨by have:=eq_of_beq h;omega,fun _=>?_⟩;have hm:=eq_of_beq hm;rw[Ql hS,Ql hC];refine⟨by omega,fun _=>?_⟩;rw[Rx hS,Rx hC];refine Alp.2 fun hl=>?_;have:=Ce.2 (Aue.1 hl);omega
theorem Cba(h:¬g S>g C)(h':(g S==g C)=false):bet g S C=true:=by
 have:g S≠g C:=fun e=>by rw[e]at h';simp at h'
 unfold bet;rw[Mm (by omega)];rfl
theorem Cbb(hS:S<256)(hC:C<256)(h:(g S==g C)=true)(h1:¬(De S:Int)-(De C:Int)>0)(h2:((De S:Int)-(De C:Int)==0)=false):bet g S C=true:=by
 have:(De S:Int)-(De C:Int)≠0:=fun e=>by rw[e]at h2;simp at h2
 unfold bet;rw[Ql hS,Ql hC,Mm (eq_of_beq h),Mm (show De S<De C by omega)];simp
theorem Cbc(hS:S<256)(hC:C<256)(h:(g S==g C)=true)(hm:((De S:Int)-(De C:Int)==0)=true)(hc:¬Gz (Bw (Bv S)) (Bw (Bv C))>=0):bet g S C=true:=by
 have hm:=eq_of_beq hm;have hl:Ow (elems S) (elems C)=true:=by rw[Rx hS,Rx hC];exact Aue.2 (Ce.1 (by omega))
 unfold bet;rw[hl,Ql hS,Ql hC,Mm (eq_of_beq h),Mm (show De S=De C by omega)];simp
end
theorem Bcq{g:Nat->Int}{lot:Nat}:∀{k S C:Nat},k<=8->S<256->C<256->Gv g lot k S C<256
 | 0,S,C,_,hS,hC=>by unfold Gv;split<;>assumption
 | k+1,S,C,hk,hS,hC=>by
  unfold Gv;refine Bcq (by omega) (Axo (n:=8) hS (by rw[Ape];exact Bee (by omega) hk)) ?_;split
  ·exact hC
  ·exact Bcq (by omega) hS hC
theorem Aul{S k:Nat}(hS:S<256)(hk:k<8):(S ||| 1 <<< k)<256:=Axo (n:=8) hS (by rw[Ape];exact Bee (by omega) hk)
theorem Bij:(List.range 256).all (fun x=>(let a:=((x>>>1) &&& 6148914691236517205)+(x &&& 6148914691236517205);let b:=((a>>>2) &&& 3689348814741910323)+(a &&& 3689348814741910323);let c:=((b>>>4)+b) &&& 1085102592571150095;let d:=c+(c>>>8);let e:=d+(d>>>16);let f:=e+(e>>>32);f &&& 127)==De x)=true:=by decide +kernel
theorem Bor{x a b c d e f:Nat}(hx:x<256)(ha:a=((x>>>1) &&& 6148914691236517205)+(x &&& 6148914691236517205))(hb:b=((a>>>2) &&& 3689348814741910323)+(a &&& 3689348814741910323))(hc:c=((b>>>4)+b) &&& 1085102592571150095)(hd:d=c+(c>>>8))(he:e=d+(d>>>16))(hf:f=e+(e>>>32)):f &&& 127=De x:=by have:=Ny.1 Bij x (Aqw.2 hx);subst ha hb hc hd he hf;simpa using this
end
end Go.Proofs.YtfeahfjambednaaGreatDoor
