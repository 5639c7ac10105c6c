/- Part 6 of what all laws of layer 8 need: a logic of programs that start goroutines, and what the functions yield. -/
import Derived.Test.YtjdkajkimeainaaGreatDoorB5
set_option linter.unusedVariables false
set_option linter.unusedSimpArgs false
set_option maxRecDepth 100000
set_option maxHeartbeats 4000000
namespace Go.Proofs.YtjdkajkimeainaaGreatDoor
section
open Go
theorem Bec(c:UInt8)(i:Nat):(i%96+1)*c.toNat≤24480:=by rw[Nat.mul_comm];exact Awn c i
variable{mn:Bool}{X:Frame→List Frame→Ro→Own→Cy→Prop}{ρ:Ro}{σ:Own}
theorem Rx{n:Nat}{s:List UInt8}(hn:n≤60000)(hb:s.length≤60000):CallsH (CX mn X) 41 #[.string (bs s),iV n] ρ σ (rP ρ σ (.string (bs (Gh (Dr n s))))):=by
 refine Bf 37 [4] Bsn rfl fun Q x Z=>w_q rfl rfl fun M y=>Av (.string (ByteArray.mk #[])) (Arx rfl rfl y fun P D=>Ay (iV n) (l_v (Wq rfl rfl (z:=(((7*n):Nat):Int)) wrE) (Av (iV ((7*n):Nat)) (Ary rfl rfl D fun R T E F=>Av (iV 0) (l_k F (Ao (Cc (fun mm ee dd ρ' σ'=>∃(i:Nat) (a:Nat),(s.length-i)=mm∧[]=dd∧ρ=ρ'∧σ=σ'∧ee 0=(.string (bs s))∧ee 5=iV a∧ee 6=iV i∧(i≤s.length)∧(a=7*n+Jd (s.take i) 0)∧(a≤420000+24480*i)∧True) (m:=_) ⟨0,7*n,rfl,rfl,rfl,rfl,rfl,rfl,rfl,Mq _,rfl,(by omega),trivial⟩ ?_)))))))
 rintro m5 Y _ _ _ ⟨i,a,rfl,rfl,rfl,rfl,e,f,c,a1,j,a2,_⟩
 refine Asb rfl rfl fun U V G H=>l_v (Ah (v:=iV i) c) (l_v (Ah (v:=.string (bs s)) e) (l_v (Ce Brs (p:=s) rfl) (l_v (Da rfl rfl) (l_k H (Bb (t:=decide ((i:Int)<(s.length:Int))) rfl (fun d=>?_) (fun d=>?_))))))
 ·have K:=lZ3 d
  refine Al (kk G ?_)
  refine Ai fun W I=>Ao (Ag rfl rfl (l_v (Ah (v:=iV a) f) (l_v (Ah (v:=iV i) c) (l_v (Aah (p:=(i:Int)) (q:=96) rfl rfl (by omega) (z:=(((i%96):Nat):Int)) rfl) (l_v (Br rfl rfl (z:=((((i%96)+1):Nat):Int)) wrE) (l_v (Ah (v:=.string (bs s)) e) (l_v (Ah (v:=iV i) c) ?_)))))))
  obtain⟨b,g⟩:=Nd (p:=s) (i:=i) (by omega)
  have a0:=b.toNat_lt
  have hm:=Bec b i
  refine l_v (Cr (p:=s) i b Brs rfl (q:=(i:Int)) rfl rfl g) (l_v (Acf (p:=(b.toNat:Int)) (z:=(b.toNat:Int)) Brv Brw rfl wrR) (l_v (Wq rfl rfl (z:=(((((i%96)+1)*b.toNat):Nat):Int)) wrE) (l_v (Br rfl rfl (z:=(((a+(((i%96)+1)*b.toNat)):Nat):Int)) wrE) (Av (iV (((a+(((i%96)+1)*b.toNat)):Nat):Int)) (l_k I (Ag rfl rfl (l_v (Ah (v:=iV i) c) (l_v (Br rfl rfl (z:=(((i+1):Nat):Int)) wrE) (Av (iV ((i+1):Nat)) (Ac ?_))))))))))
  refine⟨_,?_,(i+1),(a+(((i%96)+1)*b.toNat)),rfl,rfl,rfl,rfl,e,rfl,rfl,(by omega),(by rw[Ajo g,Nat.mul_comm (i%96+1),j,Aqb]),(by omega),trivial⟩
  omega
 have K:=lZ4 d
 refine Bx (kk E ?_)
 refine w_q rfl rfl fun N B=>l_v (Ah (v:=iV a) f) (l_v (Aah (p:=(a:Int)) (q:=97) rfl rfl (by omega) (z:=(((a%97):Nat):Int)) rfl) (Av (iV ((a%97):Nat)) (Arx rfl rfl B fun O C=>Ay (iV ((a%97):Nat)) (l_v (Bgi (p:=(((a%97):Nat):Int)) (q:=10) rfl rfl (by omega) (z:=((((a%97)/10):Nat):Int)) wrR) (l_v (Br rfl rfl (z:=(((48+((a%97)/10)):Nat):Int)) wrE) (l_v (Acf (p:=(((48+((a%97)/10)):Nat):Int)) (z:=(((48+((a%97)/10)):Nat):Int)) Brw Brv rfl (Anq (by omega) (by omega))) (Ay (iV ((a%97):Nat)) (l_v (Aah (p:=(((a%97):Nat):Int)) (q:=10) rfl rfl (by omega) (z:=((((a%97)%10):Nat):Int)) rfl) (l_v (Br rfl rfl (z:=(((48+((a%97)%10)):Nat):Int)) wrE) (l_v (Acf (p:=(((48+((a%97)%10)):Nat):Int)) (z:=(((48+((a%97)%10)):Nat):Int)) Brw Brv rfl (Anq (by omega) (by omega))) (Arv (Bi (α:=UInt8) (xs:=[UInt8.ofNat ((((48+((a%97)/10)):Nat):Int)).toNat,UInt8.ofNat ((((48+((a%97)%10)):Nat):Int)).toNat]) (vs:=[.int .u8 (((48+((a%97)/10)):Nat):Int),.int .u8 (((48+((a%97)%10)):Nat):Int)]) Bru ty5 zr5 rfl (by decide) (Dk (os:=[.tmp 30,.tmp 34]) ⟨rfl,rfl,trivial⟩) ⟨Vy (by omega) (by omega),Vy (by omega) (by omega),trivial⟩ rfl (by decide) fun h w u=>?_))))))))))))
 have k:Grow ρ 5 (.slice (some ⟨h,0,none⟩) 2 2) ([UInt8.ofNat ((((48+((a%97)/10)):Nat):Int)).toNat,UInt8.ofNat ((((48+((a%97)%10)):Nat):Int)).toNat]:List UInt8) [(h,oC w.toArray 5)]:=Bs u rfl (by decide)
 refine Ca k fun a3 J L=>l_v (Tf (el:=5) Bru Brs Brv rfl L) (Av (.string (bs ([UInt8.ofNat ((((48+((a%97)/10)):Nat):Int)).toNat,UInt8.ofNat ((((48+((a%97)%10)):Nat):Int)).toNat]:List UInt8))) (l_k C (Aj (Ghost.forget J) (Aq (x ⟨rfl,rfl,eT (.string (bs ([UInt8.ofNat ((((48+((a%97)/10)):Nat):Int)).toNat,UInt8.ofNat ((((48+((a%97)%10)):Nat):Int)).toNat]:List UInt8))) ?_⟩)))))
 have hi:i=s.length:=by omega
 rw[j,hi,Nn];rfl
theorem Aoj{s:List UInt8}(hb:s.length≤60000):CallsH (CX mn X) 31 #[.string (bs s)] ρ σ (rP ρ σ (.bool (Dd s))):=by
 refine Bf 20 [2] Tryz.func31 rfl fun Q k Y=>w_q rfl rfl fun K w=>Av bF (Ary rfl rfl w fun O P C D=>Av (iV 0) (l_k D (Ao (Cc (fun mm ee dd ρ' σ'=>∃(i:Nat),(s.length-i)=mm∧[]=dd∧ρ=ρ'∧σ=σ'∧ee 0=(.string (bs s))∧ee 3=iV i∧(i≤s.length)∧(∀j,j<i→Azw s j=true)∧True) (m:=_) ⟨0,rfl,rfl,rfl,rfl,rfl,rfl,Mq _,fun j h=>absurd h (Aeq _),trivial⟩ ?_))))
 rintro m4 W _ _ _ ⟨i,rfl,rfl,rfl,rfl,d,e,a0,u,_⟩
 refine Asb rfl rfl fun R T E F=>l_v (Ah (v:=iV i) e) (l_v (Ah (v:=.string (bs s)) d) (l_v (Ce Brs (p:=s) rfl) (l_v (Da rfl rfl) (l_k F (Bb (t:=decide ((i:Int)<(s.length:Int))) rfl (fun g=>?_) (fun g=>?_))))))
 ·have J:=lZ3 g
  refine Al (kk E ?_)
  refine Ai fun U G=>Ao (w_q rfl rfl fun V n=>l_v (Ah (v:=.string (bs s)) d) (l_v (Ah (v:=iV i) e) ?_))
  obtain⟨b,c⟩:=Nd (p:=s) (i:=i) (by omega)
  have Z:=b.toNat_lt
  refine l_v (Cr (p:=s) i b Brs rfl (q:=(i:Int)) rfl rfl c) (l_v (Da rfl rfl) (Ay (.bool (decide ((b.toNat:Int)<32))) (Cn (decide ((b.toNat:Int)<32)) (fun a=>?_) (fun a=>?_))))
  ·have H:=lZ3 a
   refine Ap (gN rfl a) (Ap (gN rfl a) (Ap (gN rfl a) (Ap (gN rfl a) (l_v (Bt rfl a (v:=bT) rfl) (l_k n (Co rfl rfl (w_q rfl rfl fun L x=>Av bF (l_k x (Aq (k (rT bF ?_)))))))))))
   rw[Abs c (by omega)]
  have H:=lZ4 a
  refine Aa (gY rfl a) (Ah (v:=.string (bs s)) d) (Aa (gY rfl a) (Ah (v:=iV i) e) (Aa (gY rfl a) (Cr (p:=s) i b Brs rfl (q:=(i:Int)) rfl rfl c) (Aa (gY rfl a) (Gl (p:=(b.toNat:Int)) (q:=126) rfl rfl) (l_v (Bn rfl a (v:=.bool (decide ((b.toNat:Int)>126))) rfl) (l_k n (Bb (t:=decide ((b.toNat:Int)>126)) rfl (fun f=>?_) (fun f=>?_)))))))
  ·have I:=lZ3 f
   refine w_q rfl rfl fun M y=>Av bF (l_k y (Aq (k (rT bF ?_))))
   rw[Abs c (by omega)]
  have I:=lZ4 f
  refine Al (kk G ?_)
  refine Ag rfl rfl (l_v (Ah (v:=iV i) e) (l_v (Br rfl rfl (z:=(((i+1):Nat):Int)) wrE) (Av (iV ((i+1):Nat)) (Ac ?_))))
  refine⟨_,?_,(i+1),rfl,rfl,rfl,rfl,d,rfl,(by omega),(Eg u (Bkz c (by omega) (by omega))),trivial⟩
  omega
 have J:=lZ4 g
 refine Bx (kk C ?_)
 refine w_q rfl rfl fun N B=>Av bT (l_k B (Aq (k (rT bT ?_))))
 rw[Awx fun j hj=>u j (by omega)]
theorem Adf{n:Nat}{s:List UInt8}(hn:n≤60000)(hb:s.length≤60000):CallsH (CX mn X) 32 #[.string (bs s),iV n] ρ σ (rP ρ σ (.string (bs (Fp n s)))):=by
 have f:(Gh (Dr n s)).length=2:=rfl
 refine Bf 12 [4] Tryz.func32 rfl fun Q a g=>w_q rfl rfl fun d b=>Av (.string (ByteArray.mk #[])) (Arx rfl rfl b fun e c=>Ay (.string (bs s)) (l_v (Jw (p:=s) (q:=([32,35]:List UInt8)) rfl rfl (by first|omega|(simp only[lZ1,lZ2,Dy,Ea,En]at *;omega))) (Ay (.string (bs s)) (Ay (iV n) (Arv (Bm (vs:=[.string (bs s),iV n]) (v:=.string (bs (Gh (Dr n s)))) (Rx (n:=n) (s:=s) (by omega) (by omega)) Bsn rfl rfl ⟨rfl,rfl,trivial⟩ ?_))))))
 refine l_v (Jw (p:=s++([32,35]:List UInt8)) (q:=Gh (Dr n s)) rfl rfl (by first|omega|(simp only[lZ1,lZ2,Dy,Ea,En]at *;omega))) (l_v (Jw (p:=(s++([32,35]:List UInt8))++(Gh (Dr n s))) (q:=([10]:List UInt8)) rfl rfl (by first|omega|(simp only[lZ1,lZ2,Dy,Ea,En]at *;omega))) (Av (.string (bs (((s++([32,35]:List UInt8))++(Gh (Dr n s)))++([10]:List UInt8)))) (l_k c (Aq (a ⟨rfl,rfl,eT (.string (bs (((s++([32,35]:List UInt8))++(Gh (Dr n s)))++([10]:List UInt8)))) ?_⟩)))))
 rfl
theorem Aoi{c:UInt8} :CallsH (CX mn X) 73 #[.int .u8 (c.toNat:Int)] ρ σ (rP ρ σ (.bool (Df c))):=by
 refine Bf 9 [2] Tryz.func73 rfl fun Q b j=>w_q rfl rfl fun g e=>Av bF (Arx rfl rfl e fun i d=>Ay (.int .u8 (c.toNat:Int)) (l_v (Uy (p:=(c.toNat:Int)) (q:=48) rfl rfl) (Ay (.bool (decide ((c.toNat:Int)≥48))) (Cn (decide ((c.toNat:Int)≥48)) (fun a=>?_) (fun a=>?_)))))
 ·have f:=lZ3 a
  refine l_M (.int .u8 (c.toNat:Int)) (gY rfl a) rfl (Aa (gY rfl a) (Uz rfl rfl) (l_v (Bt rfl a (v:=.bool (decide ((c.toNat:Int)≤57))) rfl) (Av (.bool (decide ((c.toNat:Int)≤57))) (l_k d (Aq (b (rT (.bool (decide ((c.toNat:Int)≤57))) ?_)))))))
  unfold Df;congr 1;first|(rw[Om (by omega:¬48≤c.toNat)];rfl)|(rw[Lg (by omega:48≤c.toNat),Awf];exact decide_eq_decide.2 ⟨fun h=>by omega,fun h=>by omega⟩)
 have f:=lZ4 a
 refine Ap (gN rfl a) (Ap (gN rfl a) (l_v (Bn rfl a (v:=bF) rfl) (Av bF (l_k d (Aq (b (rT bF ?_)))))))
 unfold Df;congr 1;first|(rw[Om (by omega:¬48≤c.toNat)];rfl)|(rw[Lg (by omega:48≤c.toNat),Awf];exact decide_eq_decide.2 ⟨fun h=>by omega,fun h=>by omega⟩)
theorem Bbs{k:List UInt8}{ls:List ByteArray}{vl:Value}(hk:k.length≤50000)(rl:Val ρ vl ls)(hz:∀(j:Nat) (a:ByteArray),ls[j]?=some a→a.data.toList.length≤60000):CallsH (CX mn X) 9 #[.string (bs k),vl] ρ σ (rP ρ σ (.tuple #[.string (bs (Au k ls)),iV (Bw k ls)])):=by
 refine Bf 59 [4,5] Tryz.func9 rfl fun Q u bd=>w_q rfl rfl fun K1 Y=>Av (.string (ByteArray.mk #[])) (Av (iV 0) (Ary rfl rfl Y fun K2 K3 k2 k3=>Ay (.string (bs k)) (Arv (Bm (vs:=[.string (bs k)]) (v:=.bool (Hg (bs k))) Ast Bss rfl rfl ⟨rfl,trivial⟩ ?_))))
 refine l_v (Iy rfl) (l_k k3 (Bb (t:=!(Hg (bs k))) rfl (fun F=>?_) (fun F=>?_)))
 ·have W:=not_eq_t F
  refine w_q rfl rfl fun K6 k6=>Av (.string (ByteArray.mk #[])) (Av (iV 4) (l_k k6 (Aq (u ⟨rfl,rfl,Eq.trans (b:=.tuple #[.string (ByteArray.mk #[]),iV 4]) (Mp (r:=4) (r':=5) (rs:=[]) (v:=.string (ByteArray.mk #[])) (v':=iV 4) (vs:=[]) ⟨rfl,rfl,trivial⟩) ?_⟩))))
  have hw:=Ano (ls:=ls) W
  rw[hw.1,hw.2];rfl
 have w:=Ev F
 refine Al (kk k2 ?_)
 refine Asb rfl rfl fun K8 K9 k8 k9=>Ay vl ?_
 have b2:=Val.len rl
 refine l_v (Ci (el:=9) Brt rfl rl) (l_v (Gl (p:=(ls.length:Int)) (q:=90) rfl rfl) (l_k k9 (Bb (t:=decide ((ls.length:Int)>90)) rfl (fun C=>?_) (fun C=>?_))))
 ·have ae:=lZ3 C
  refine w_q rfl rfl fun ai Z=>Av (.string (ByteArray.mk #[])) (Av (iV 2) (l_k Z (Aq (u ⟨rfl,rfl,Eq.trans (b:=.tuple #[.string (ByteArray.mk #[]),iV 2]) (Mp (r:=4) (r':=5) (rs:=[]) (v:=.string (ByteArray.mk #[])) (v':=iV 2) (vs:=[]) ⟨rfl,rfl,trivial⟩) ?_⟩))))
  have hw:=Ann (ls:=ls) w (by omega)
  rw[hw.1,hw.2];rfl
 have ae:=lZ4 C
 refine Al (kk k8 ?_)
 refine Asb rfl rfl fun aj ak a0 a1=>Av (iV 0) (l_k a1 (Ao (Cc (fun mm ee dd ρ' σ'=>∃(h:Nat),(ls.length-h)=mm∧[]=dd∧ρ=ρ'∧σ=σ'∧ee 0=(.string (bs k))∧ee 1=vl∧ee 6=iV h∧(h≤ls.length)∧(∀j,j<h→Pq ls j=true)∧True) (m:=_) ⟨0,rfl,rfl,rfl,rfl,rfl,rfl,rfl,Mq _,fun j h=>absurd h (Aeq _),trivial⟩ ?_)))
 rintro bh b0 _ _ _ ⟨h,rfl,rfl,rfl,rfl,K,f,y,bj,O,_⟩
 refine Asb rfl rfl fun al am a2 a3=>l_v (Ah (v:=iV h) y) (l_v (Ah (v:=vl) f) ?_)
 have b3:=Val.len rl
 refine l_v (Ci (el:=9) Brt rfl rl) (l_v (Da rfl rfl) (l_k a3 (Bb (t:=decide ((h:Int)<(ls.length:Int))) rfl (fun D=>?_) (fun D=>?_))))
 ·have af:=lZ3 D
  refine Al (kk a2 ?_)
  refine Ai fun an a4=>Ao (w_q rfl rfl fun ao N=>l_v (Ah (v:=vl) f) (l_v (Ah (v:=iV h) y) ?_))
  obtain⟨d,g⟩:=Ed (xs:=ls) (i:=h) (by omega)
  have bf:=hz _ _ g
  refine Arw (Ch h Brt ty9 rfl rl (q:=(h:Int)) rfl rfl g) fun bl P=>?_
  have b6:d.data.toList.length<2^60:=At.slen P
  refine l_v (Pk ty9 rfl P) (l_v (Ce Brs (p:=d.data.toList) rfl) (l_v (Gl (p:=(d.data.toList.length:Int)) (q:=200) rfl rfl) (Ay (.bool (decide ((d.data.toList.length:Int)>200))) (Cn (decide ((d.data.toList.length:Int)>200)) (fun c=>?_) (fun c=>?_)))))
  ·have ag:=lZ3 c
   refine Ap (gN rfl c) (Ap (gN rfl c) (Ap (gN rfl c) (Ap (gN rfl c) (Ap (gN rfl c) (Ap (gN rfl c) (l_v (Bt rfl c (v:=bT) rfl) (l_k N (Co rfl rfl (w_q rfl rfl fun ap a5=>Av (.string (ByteArray.mk #[])) (Av (iV 3) (l_k a5 (Aq (u ⟨rfl,rfl,Eq.trans (b:=.tuple #[.string (ByteArray.mk #[]),iV 3]) (Mp (r:=4) (r':=5) (rs:=[]) (v:=.string (ByteArray.mk #[])) (v':=iV 3) (vs:=[]) ⟨rfl,rfl,trivial⟩) ?_⟩)))))))))))))
   have hw:=Zn (ls:=ls) w (by omega) (Auw g (.inl (by omega)))
   rw[hw.1,hw.2];rfl
  have ag:=lZ4 c
  refine Aa (gY rfl c) (Ah (v:=vl) f) (Aa (gY rfl c) (Ah (v:=iV h) y) (Ak (gY rfl c) (Ch h Brt ty9 rfl rl (q:=(h:Int)) rfl rfl g) fun bm R=>?_))
  have b8:d.data.toList.length<2^60:=At.slen R
  refine Aa (gY rfl c) (Pk ty9 rfl R) (Ae (gY rfl c) (Bm (vs:=[.string d]) (v:=.bool (Dd d.data.toList)) (Aoj (s:=d.data.toList) (by omega)) Tryz.func31 rfl rfl ⟨rfl,trivial⟩ ?_))
  refine Aa (gY rfl c) (Iy rfl) (l_v (Bn rfl c (v:=.bool (!(Dd d.data.toList))) rfl) (l_k N (Bb (t:=!(Dd d.data.toList)) rfl (fun E=>?_) (fun E=>?_))))
  ·have U:=not_eq_t E
   refine w_q rfl rfl fun aq a6=>Av (.string (ByteArray.mk #[])) (Av (iV 3) (l_k a6 (Aq (u ⟨rfl,rfl,Eq.trans (b:=.tuple #[.string (ByteArray.mk #[]),iV 3]) (Mp (r:=4) (r':=5) (rs:=[]) (v:=.string (ByteArray.mk #[])) (v':=iV 3) (vs:=[]) ⟨rfl,rfl,trivial⟩) ?_⟩))))
   have hw:=Zn (ls:=ls) w (by omega) (Auw g (.inr U))
   rw[hw.1,hw.2];rfl
  have V:=Ev E
  refine Al (kk a4 ?_)
  refine Ag rfl rfl (l_v (Ah (v:=iV h) y) (l_v (Br rfl rfl (z:=(((h+1):Nat):Int)) wrE) (Av (iV ((h+1):Nat)) (Ac ?_))))
  refine⟨_,?_,(h+1),rfl,rfl,rfl,rfl,K,f,rfl,(by omega),(Eg O (Awk g (by omega) V)),trivial⟩
  omega
 have af:=lZ4 D
 refine Bx (kk a0 ?_)
 refine Ai fun ar a7=>?_
 have M:∀j,j<ls.length→Pq ls j=true:=fun j hj=>O j (by omega)
 have hdl:(Ew ls.length).length≤20:=Wi (by omega)
 have hhl:(Mi k ls.length).length≤100000:=by unfold Mi;rw[Im];simp only[lZ1,lZ2,Dy];omega
 refine Ag rfl rfl (l_v (Ah (v:=.string (bs k)) K) (l_v (Jw (p:=bZ1) (q:=k) rfl rfl (by first|omega|(rw[Im];omega)|(simp only[lZ1,lZ2,Dy]at *;omega))) (l_v (Jw (p:=bZ1++k) (q:=([32]:List UInt8)) rfl rfl (by first|omega|(rw[Im];omega)|(simp only[lZ1,lZ2,Dy]at *;omega))) (l_v (Ah (v:=vl) f) ?_))))
 have b9:=Val.len rl
 refine l_v (Ci (el:=9) Brt rfl rl) (Arv (Bm (vs:=[iV (ls.length:Int)]) (v:=.string (bs (Ew ls.length))) (Ayc (n:=ls.length) (by omega)) Bst rfl rfl ⟨rfl,trivial⟩ ?_))
 refine l_v (Jw (p:=(bZ1++k)++([32]:List UInt8)) (q:=Ew ls.length) rfl rfl (by first|omega|(rw[Im];omega)|(simp only[lZ1,lZ2,Dy]at *;omega))) (Arv (Bm (vs:=[.string (bs (((bZ1++k)++([32]:List UInt8))++(Ew ls.length))),iV 0]) (v:=.string (bs (Fp 0 (((bZ1++k)++([32]:List UInt8))++(Ew ls.length))))) (Adf (n:=0) (s:=((bZ1++k)++([32]:List UInt8))++(Ew ls.length)) (by omega) (by first|omega|(simp only[lZ1,lZ2,Dy];omega))) Tryz.func32 rfl rfl ⟨rfl,rfl,trivial⟩ ?_))
 refine Av (.string (bs (Fp 0 (((bZ1++k)++([32]:List UInt8))++(Ew ls.length))))) (Ary rfl rfl a7 fun au av a8 a9=>Av (iV 0) (l_k a9 (Ao (Cc (fun mm ee dd ρ' σ'=>∃(i:Nat) (x:List UInt8),(ls.length-i)=mm∧[]=dd∧ρ=ρ'∧σ=σ'∧ee 1=vl∧ee 7=(.string (bs x))∧ee 8=iV i∧(i≤ls.length)∧(x=Mi k ls.length++Ez (ls.take i) 1)∧True) (m:=_) ⟨0,Mi k ls.length,rfl,rfl,rfl,rfl,f,rfl,rfl,Mq _,(by simp[Ez]),trivial⟩ ?_))))
 rintro bi b1 _ _ _ ⟨i,x,rfl,rfl,rfl,rfl,H,L,B,bk,J,_⟩
 have bc:=Yc ls i 1 (fun j hj=>M j (by omega))
 have be:x.length≤200000:=by rw[J,lZ1];omega
 refine Asb rfl rfl fun aw ax aa ab=>l_v (Ah (v:=iV i) B) (l_v (Ah (v:=vl) H) ?_)
 have ba:=Val.len rl
 refine l_v (Ci (el:=9) Brt rfl rl) (l_v (Da rfl rfl) (l_k ab (Bb (t:=decide ((i:Int)<(ls.length:Int))) rfl (fun G=>?_) (fun G=>?_))))
 ·have ah:=lZ3 G
  refine Al (kk aa ?_)
  refine Ai fun ay ac=>Ao (Ag rfl rfl (l_v (Ah (v:=.string (bs x)) L) (l_v (Ah (v:=vl) H) (l_v (Ah (v:=iV i) B) ?_))))
  obtain⟨e,I⟩:=Ed (xs:=ls) (i:=i) (by omega)
  have bg:=hz _ _ I
  refine Arw (Ch i Brt ty9 rfl rl (q:=(i:Int)) rfl rfl I) fun bn T=>?_
  have bb:e.data.toList.length<2^60:=At.slen T
  refine l_v (Pk ty9 rfl T) (l_v (Ah (v:=iV i) B) (l_v (Br rfl rfl (z:=(((i+1):Nat):Int)) wrE) (Arv (Bm (vs:=[.string e,iV ((i+1):Nat)]) (v:=.string (bs (Fp (i+1) e.data.toList))) (Adf (n:=i+1) (s:=e.data.toList) (by omega) (by first|omega|(simp only[lZ1,lZ2,Dy];omega))) Tryz.func32 rfl rfl ⟨rfl,rfl,trivial⟩ ?_))))
  refine l_v (Jw (p:=x) (q:=Fp (i+1) e.data.toList) rfl rfl (by first|omega|(rw[Im];omega)|(simp only[lZ1,lZ2,Dy]at *;omega))) (Av (.string (bs (x++(Fp (i+1) e.data.toList)))) (l_k ac (Ag rfl rfl (l_v (Ah (v:=iV i) B) (l_v (Br rfl rfl (z:=(((i+1):Nat):Int)) wrE) (Av (iV ((i+1):Nat)) (Ac ?_)))))))
  refine⟨_,?_,(i+1),(x++(Fp (i+1) e.data.toList)),rfl,rfl,rfl,rfl,H,rfl,rfl,(by omega),(by rw[J,Act I,lZ9]),trivial⟩
  omega
 have ah:=lZ4 G
 refine Bx (kk a8 ?_)
 refine w_q rfl rfl fun az ad=>l_v (Ah (v:=.string (bs x)) L) (Av (.string (bs x)) (Av (iV 0) (l_k ad (Aq (u ⟨rfl,rfl,Eq.trans (b:=.tuple #[.string (bs x),iV 0]) (Mp (r:=4) (r':=5) (rs:=[]) (v:=.string (bs x)) (v':=iV 0) (vs:=[]) ⟨rfl,rfl,trivial⟩) ?_⟩)))))
 have hw:=Agp (ls:=ls) w (by omega) (all_t M)
 rw[hw.1,hw.2]
 rw[J,show i=ls.length by omega,Nn];rfl
theorem Bbt{x:List UInt8}(hb:x.length≤60000):CallsH (CX mn X) 39 #[.string (bs x)] ρ σ (fun w ρ' σ'=>Ro.le ρ ρ'∧σ'=σ∧((apB x=false∧w = .tuple #[.string (bs []),.string (bs []),bF])∨(apB x=true∧w = .tuple #[.string (bs (apT x)),.string (bs (apC x)),bT]))):=by
 refine Bf 52 [2,3,4] Tryz.func39 rfl fun Q m a7=>w_q rfl rfl fun K1 N=>Av (.string (ByteArray.mk #[])) (Av (.string (ByteArray.mk #[])) (Av bF (Arx rfl rfl N fun K2 R=>Ay (.string (bs x)) (l_v (Ce Brs (p:=x) rfl) (l_v (Ou (p:=(x.length:Int)) (q:=4) rfl rfl (z:=(x.length:Int)-4) wrE) (Av (iV ((x.length:Int)-4)) (Ary rfl rfl R fun K3 K4 W B=>Ay (iV ((x.length:Int)-4)) (l_v (Da rfl rfl) (Ay (.bool (decide (((x.length:Int)-4)<0))) (Cn (decide (((x.length:Int)-4)<0)) (fun g=>?_) (fun g=>?_)))))))))))
 ·have q5:=lZ3 g
  refine Ap (gN rfl g) ?_
  refine Ap (gN rfl g) (Ap (gN rfl g) (l_v (Bt rfl g (v:=bT) rfl) (Ay bT (Ap (gN rfl rfl) (Ap (gN rfl rfl) (Ap (gN rfl rfl) (Ap (gN rfl rfl) (l_v (Bt rfl rfl (v:=bT) rfl) (Ay bT (Ap (gN rfl rfl) (Ap (gN rfl rfl) (Ap (gN rfl rfl) (Ap (gN rfl rfl) (Ap (gN rfl rfl) (l_v (Bt rfl rfl (v:=bT) rfl) (Ay bT (Ap (gN rfl rfl) (Ap (gN rfl rfl) (Ap (gN rfl rfl) (Ap (gN rfl rfl) (Ap (gN rfl rfl) (Ap (gN rfl rfl) (l_v (Bt rfl rfl (v:=bT) rfl) (Ay bT (Ap (gN rfl rfl) (Ap (gN rfl rfl) (Ap (gN rfl rfl) (Ap (gN rfl rfl) (Ap (gN rfl rfl) (Ap (gN rfl rfl) (l_v (Bt rfl rfl (v:=bT) rfl) (l_k B (Co rfl rfl (w_q rfl rfl fun K6 Y=>Av (.string (ByteArray.mk #[])) (Av (.string (ByteArray.mk #[])) (Av bF (l_k Y (Aq (m ?_)))))))))))))))))))))))))))))))))))))))
  have hf:apB x=false:=Blj (by omega)
  exact⟨Bsy,rfl,.inl ⟨hf,Mp (r:=2) (r':=3) (rs:=[4]) (v:=.string (ByteArray.mk #[])) (v':=.string (ByteArray.mk #[])) (vs:=[bF]) ⟨rfl,rfl,rfl,trivial⟩⟩⟩
 have q5:=lZ4 g
 refine l_M (.string (bs x)) (gY rfl g) rfl (Ae (gY rfl g) (Bm (vs:=[.string (bs x)]) (v:=.bool (Dd x)) (Aoj (s:=x) (by omega)) Tryz.func31 rfl rfl ⟨rfl,trivial⟩ ?_))
 refine Aa (gY rfl g) (Iy rfl) (l_v (Bn rfl g (v:=.bool (!(Dd x))) rfl) (Ay (.bool (!(Dd x))) (Cn (!(Dd x)) (fun f=>?_) (fun f=>?_))))
 ·have M:=not_eq_t f
  refine Ap (gN rfl f) (Ap (gN rfl f) (Ap (gN rfl f) (Ap (gN rfl f) (l_v (Bt rfl f (v:=bT) rfl) (Ay bT (Ap (gN rfl rfl) (Ap (gN rfl rfl) (Ap (gN rfl rfl) (Ap (gN rfl rfl) (Ap (gN rfl rfl) (l_v (Bt rfl rfl (v:=bT) rfl) (Ay bT (Ap (gN rfl rfl) (Ap (gN rfl rfl) (Ap (gN rfl rfl) (Ap (gN rfl rfl) (Ap (gN rfl rfl) (Ap (gN rfl rfl) (l_v (Bt rfl rfl (v:=bT) rfl) (Ay bT (Ap (gN rfl rfl) (Ap (gN rfl rfl) (Ap (gN rfl rfl) (Ap (gN rfl rfl) (Ap (gN rfl rfl) (Ap (gN rfl rfl) (l_v (Bt rfl rfl (v:=bT) rfl) (l_k B (Co rfl rfl (w_q rfl rfl fun K9 Z=>Av (.string (ByteArray.mk #[])) (Av (.string (ByteArray.mk #[])) (Av bF (l_k Z (Aq (m ?_)))))))))))))))))))))))))))))))))))
  have hf:apB x=false:=Bbc M
  exact⟨Bsy,rfl,.inl ⟨hf,Mp (r:=2) (r':=3) (rs:=[4]) (v:=.string (ByteArray.mk #[])) (v':=.string (ByteArray.mk #[])) (vs:=[bF]) ⟨rfl,rfl,rfl,trivial⟩⟩⟩
 have H:=Ev f
 refine l_M (.string (bs x)) (gY rfl f) rfl (l_M (iV ((x.length:Int)-4)) (gY rfl f) rfl ?_)
 obtain⟨u,D⟩:=Nd (p:=x) (i:=(((x.length:Int)-4)).toNat) (by omega)
 have a8:=u.toNat_lt
 refine Aa (gY rfl f) (Cr (p:=x) ((((x.length:Int)-4)).toNat) u Brs rfl (q:=(x.length:Int)-4) rfl (by omega) D) (Aa (gY rfl f) (Dg rfl rfl) (l_v (Bn rfl f (v:=.bool ((u.toNat:Int) != 32)) rfl) (Ay (.bool ((u.toNat:Int) != 32)) (Cn ((u.toNat:Int) != 32) (fun d=>?_) (fun d=>?_)))))
 ·have a0:=Ls d
  refine Ap (gN rfl d) (Ap (gN rfl d) (Ap (gN rfl d) (Ap (gN rfl d) (Ap (gN rfl d) (l_v (Bt rfl d (v:=bT) rfl) (Ay bT (Ap (gN rfl rfl) (Ap (gN rfl rfl) (Ap (gN rfl rfl) (Ap (gN rfl rfl) (Ap (gN rfl rfl) (Ap (gN rfl rfl) (l_v (Bt rfl rfl (v:=bT) rfl) (Ay bT (Ap (gN rfl rfl) (Ap (gN rfl rfl) (Ap (gN rfl rfl) (Ap (gN rfl rfl) (Ap (gN rfl rfl) (Ap (gN rfl rfl) (l_v (Bt rfl rfl (v:=bT) rfl) (l_k B (Co rfl rfl (w_q rfl rfl fun a2 O=>Av (.string (ByteArray.mk #[])) (Av (.string (ByteArray.mk #[])) (Av bF (l_k O (Aq (m ?_)))))))))))))))))))))))))))))
  have hf:apB x=false:=Bql (c:=u) (by omega) (by rw[←D];congr 1;omega) (Rh (n:=32) (Ls d))
  exact⟨Bsy,rfl,.inl ⟨hf,Mp (r:=2) (r':=3) (rs:=[4]) (v:=.string (ByteArray.mk #[])) (v':=.string (ByteArray.mk #[])) (vs:=[bF]) ⟨rfl,rfl,rfl,trivial⟩⟩⟩
 have a0:=Jh d
 refine l_M (.string (bs x)) (gY rfl d) rfl (l_M (iV ((x.length:Int)-4)) (gY rfl d) rfl (Aa (gY rfl d) (Br rfl rfl (z:=((x.length:Int)-4)+1) (Bo (by rfl) (by omega) (by omega))) ?_))
 obtain⟨y,E⟩:=Nd (p:=x) (i:=((((x.length:Int)-4)+1)).toNat) (by omega)
 have a9:=y.toNat_lt
 refine Aa (gY rfl d) (Cr (p:=x) (((((x.length:Int)-4)+1)).toNat) y Brs rfl (q:=((x.length:Int)-4)+1) rfl (by omega) E) (Aa (gY rfl d) (Dg rfl rfl) (l_v (Bn rfl d (v:=.bool ((y.toNat:Int) != 35)) rfl) (Ay (.bool ((y.toNat:Int) != 35)) (Cn ((y.toNat:Int) != 35) (fun a=>?_) (fun a=>?_)))))
 ·have a1:=Ls a
  refine Ap (gN rfl a) (Ap (gN rfl a) (Ap (gN rfl a) (Ap (gN rfl a) (Ap (gN rfl a) (Ap (gN rfl a) (l_v (Bt rfl a (v:=bT) rfl) (Ay bT (Ap (gN rfl rfl) (Ap (gN rfl rfl) (Ap (gN rfl rfl) (Ap (gN rfl rfl) (Ap (gN rfl rfl) (Ap (gN rfl rfl) (l_v (Bt rfl rfl (v:=bT) rfl) (l_k B (Co rfl rfl (w_q rfl rfl fun a3 P=>Av (.string (ByteArray.mk #[])) (Av (.string (ByteArray.mk #[])) (Av bF (l_k P (Aq (m ?_))))))))))))))))))))))
  have hf:apB x=false:=Bqm (c:=y) (by omega) (by rw[←E];congr 1;omega) (Rh (n:=35) (Ls a))
  exact⟨Bsy,rfl,.inl ⟨hf,Mp (r:=2) (r':=3) (rs:=[4]) (v:=.string (ByteArray.mk #[])) (v':=.string (ByteArray.mk #[])) (vs:=[bF]) ⟨rfl,rfl,rfl,trivial⟩⟩⟩
 have a1:=Jh a
 refine l_M (.string (bs x)) (gY rfl a) rfl (l_M (iV ((x.length:Int)-4)) (gY rfl a) rfl (Aa (gY rfl a) (Br rfl rfl (z:=((x.length:Int)-4)+2) (Bo (by rfl) (by omega) (by omega))) ?_))
 obtain⟨j,F⟩:=Nd (p:=x) (i:=((((x.length:Int)-4)+2)).toNat) (by omega)
 have aa:=j.toNat_lt
 refine Aa (gY rfl a) (Cr (p:=x) (((((x.length:Int)-4)+2)).toNat) j Brs rfl (q:=((x.length:Int)-4)+2) rfl (by omega) F) (Ae (gY rfl a) (Bm (vs:=[.int .u8 (j.toNat:Int)]) (v:=.bool (Df j)) (Aoi (c:=j)) Tryz.func73 rfl rfl ⟨rfl,trivial⟩ ?_))
 refine Aa (gY rfl a) (Iy rfl) (l_v (Bn rfl a (v:=.bool (!(Df j))) rfl) (Ay (.bool (!(Df j))) (Cn (!(Df j)) (fun e=>?_) (fun e=>?_))))
 ·have I:=not_eq_t e
  refine Ap (gN rfl e) (Ap (gN rfl e) (Ap (gN rfl e) (Ap (gN rfl e) (Ap (gN rfl e) (Ap (gN rfl e) (l_v (Bt rfl e (v:=bT) rfl) (l_k B (Co rfl rfl (w_q rfl rfl fun a4 T=>Av (.string (ByteArray.mk #[])) (Av (.string (ByteArray.mk #[])) (Av bF (l_k T (Aq (m ?_))))))))))))))
  have hf:apB x=false:=Bqn (c:=j) (by omega) (by rw[←F];congr 1;omega) I
  exact⟨Bsy,rfl,.inl ⟨hf,Mp (r:=2) (r':=3) (rs:=[4]) (v:=.string (ByteArray.mk #[])) (v':=.string (ByteArray.mk #[])) (vs:=[bF]) ⟨rfl,rfl,rfl,trivial⟩⟩⟩
 have J:=Ev e
 refine l_M (.string (bs x)) (gY rfl e) rfl (l_M (iV ((x.length:Int)-4)) (gY rfl e) rfl (Aa (gY rfl e) (Br rfl rfl (z:=((x.length:Int)-4)+3) (Bo (by rfl) (by omega) (by omega))) ?_))
 obtain⟨k,G⟩:=Nd (p:=x) (i:=((((x.length:Int)-4)+3)).toNat) (by omega)
 have ab:=k.toNat_lt
 refine Aa (gY rfl e) (Cr (p:=x) (((((x.length:Int)-4)+3)).toNat) k Brs rfl (q:=((x.length:Int)-4)+3) rfl (by omega) G) (Ae (gY rfl e) (Bm (vs:=[.int .u8 (k.toNat:Int)]) (v:=.bool (Df k)) (Aoi (c:=k)) Tryz.func73 rfl rfl ⟨rfl,trivial⟩ ?_))
 refine Aa (gY rfl e) (Iy rfl) (l_v (Bn rfl e (v:=.bool (!(Df k))) rfl) (l_k B (Bb (t:=!(Df k)) rfl (fun C=>?_) (fun C=>?_))))
 ·have K:=not_eq_t C
  refine w_q rfl rfl fun a5 U=>Av (.string (ByteArray.mk #[])) (Av (.string (ByteArray.mk #[])) (Av bF (l_k U (Aq (m ?_)))))
  have hf:apB x=false:=Bqo (c:=k) (by omega) (by rw[←G];congr 1;omega) K
  exact⟨Bsy,rfl,.inl ⟨hf,Mp (r:=2) (r':=3) (rs:=[4]) (v:=.string (ByteArray.mk #[])) (v':=.string (ByteArray.mk #[])) (vs:=[bF]) ⟨rfl,rfl,rfl,trivial⟩⟩⟩
 have L:=Ev C
 refine Al (kk W ?_)
 refine Ai fun a6 V=>Agu (Bu 0 (zT 1 9) rfl (Ah (v:=.string (bs x)) rfl) (Bu 1 (zT 2 8) rfl (Ah (v:=iV ((x.length:Int)-4)) rfl) (Bu 2 (zT 3 7) rfl (Lp (p:=x) (l:=0) (h:=(((x.length:Int)-4)).toNat) Brs rfl (.inl ⟨rfl,rfl⟩) (.inr ⟨_,rfl,Eq.trans (b:=iV ((x.length:Int)-4)) rfl (by rw[Avx (by omega)])⟩) (by omega) (by omega)) (Bu 3 (zT 4 6) rfl (Ah (v:=.string (bs x)) rfl) (Bu 4 (zT 5 5) rfl (Ah (v:=iV ((x.length:Int)-4)) rfl) (Bu 5 (zT 6 4) rfl (Br rfl rfl (z:=((x.length:Int)-4)+2) (Bo (by rfl) (by omega) (by omega))) (Bu 6 (zT 7 3) rfl (Lp (p:=x) (l:=((((x.length:Int)-4)+2)).toNat) (h:=x.length) Brs rfl (.inr ⟨_,rfl,Eq.trans (b:=iV (((x.length:Int)-4)+2)) rfl (by rw[Avx (by omega)])⟩) (.inl ⟨rfl,rfl⟩) (by omega) (by omega)) (Bq 7 (zT 8 2) rfl (Cp (v:=.string (bs ((x.take ((((x.length:Int)-4)).toNat)).drop 0))) rfl) (Bq 8 (zT 9 1) rfl (Cp (v:=.string (bs ((x.take x.length).drop (((((x.length:Int)-4)+2)).toNat)))) rfl) (Bq 9 (zT 10 0) rfl (Cp (v:=bT) rfl) (Ec rfl (kk V ?_))))))))))))
 refine Aq (m ?_)
 have hf:apB x=true:=Bqp (c1:=j) (c2:=k) (by omega) H (by rw[←Ie (n:=32) (Jh d),←D];congr 1;omega) (by rw[←Ie (n:=35) (Jh a),←E];congr 1;omega) (by rw[←F];congr 1;omega) J (by rw[←G];congr 1;omega) L
 have eA:apT x=((x.take ((((x.length:Int)-4)).toNat)).drop 0):=by unfold apT;rw[Vi];congr 1;omega
 have eB:apC x=((x.take x.length).drop (((((x.length:Int)-4)+2)).toNat)):=by unfold apC;rw[Nn];congr 1;omega
 exact⟨Bsy,rfl,.inr ⟨hf,by rw[eA,eB];exact(Mp (r:=2) (r':=3) (rs:=[4]) (v:=.string (bs ((x.take ((((x.length:Int)-4)).toNat)).drop 0))) (v':=.string (bs ((x.take x.length).drop (((((x.length:Int)-4)+2)).toNat)))) (vs:=[bT]) ⟨rfl,rfl,rfl,trivial⟩)⟩⟩
theorem Avb{t:List UInt8}(hb:t.length≤60000):CallsH (CX mn X) 40 #[.string (bs t)] ρ σ (fun w ρ' σ'=>Ro.le ρ ρ'∧σ'=σ∧((Ds t=false∧∃(k:List UInt8) (n:Int),I64 n∧w = .tuple #[.string (bs k),.int .i64 n,bF])∨(Ds t=true∧w = .tuple #[.string (bs (Dm t)),iV (Dp t),bT]))):=by
 refine Bf 39 [2,3,4] Tryz.func40 rfl fun Q h aa=>w_q rfl rfl fun Z M=>Av (.string (ByteArray.mk #[])) (Av (iV 0) (Av bF (Arx rfl rfl M fun K2 G=>Ay (.string (bs t)) (Arv (Cm (vs:=[.string (bs t)]) (Ayd (t:=t) (by omega)) Tryz.func74 rfl rfl ⟨rfl,trivial⟩ fun w3 af ag B=>?_)))))
 obtain⟨g,B⟩:=B
 rcases B with⟨e,⟨C,D⟩|⟨c,m,d,C,j,D,u⟩⟩
 ·replace e:=e.symm;subst e D
  refine Ay (.tuple #[.string (bs ([]:List UInt8)),nS,bF]) (l_v (Bk (vs:=#[.string (bs ([]:List UInt8)),nS,bF]) rfl (v:=.string (bs ([]:List UInt8))) rfl) (l_v (Bk (vs:=#[.string (bs ([]:List UInt8)),nS,bF]) rfl (v:=nS) rfl) (l_v (Bk (vs:=#[.string (bs ([]:List UInt8)),nS,bF]) rfl (v:=bF) rfl) (Av (.string (bs ([]:List UInt8))) (Av nS (Av bF (Ary rfl rfl G fun K4 K5 k4 T=>Ay bF (l_v (Iy rfl) (Ay (.bool (!(false))) (Ap (gN rfl (Pu rfl)) (Ap (gN rfl (Pu rfl)) (l_v (Bt rfl (Pu rfl) (v:=bT) rfl) (Ay bT (Ap (gN rfl rfl) (Ap (gN rfl rfl) (Ap (gN rfl rfl) (l_v (Bt rfl rfl (v:=bT) rfl) (l_k T (Co rfl rfl (w_q rfl rfl fun K6 U=>Av (.string (ByteArray.mk #[])) (Av (iV 0) (Av bF (l_k U (Aq (h ?_)))))))))))))))))))))))))
  have hf:Ds t=false:=Bcq C
  exact⟨g,rfl,.inl ⟨hf,_,_,(by unfold I64;omega),Mp (r:=2) (r':=3) (rs:=[4]) (v:=.string (ByteArray.mk #[])) (v':=iV 0) (vs:=[bF]) ⟨rfl,rfl,rfl,trivial⟩⟩⟩
 replace e:=e.symm;subst e D
 obtain⟨a7,a8,F⟩:=Bkg j
 refine Ay (.tuple #[.string (bs c),d,bT]) (l_v (Bk (vs:=#[.string (bs c),d,bT]) rfl (v:=.string (bs c)) rfl) (l_v (Bk (vs:=#[.string (bs c),d,bT]) rfl (v:=d) rfl) (l_v (Bk (vs:=#[.string (bs c),d,bT]) rfl (v:=bT) rfl) (Av (.string (bs c)) (Av d (Av bT (Ary rfl rfl G fun K7 K8 V H=>Ay bT (l_v (Iy rfl) (Ay (.bool (!(true))) (l_M (.string (bs c)) (gY rfl (not_t rfl)) rfl (Aa (gY rfl (not_t rfl)) (Qc (p:=c) (q:=bZ3) rfl rfl) (l_v (Bn rfl (not_t rfl) (v:=.bool (c != bZ3)) rfl) (Ay (.bool (c != bZ3)) (Cn (c != bZ3) (fun b=>?_) (fun b=>?_)))))))))))))))
 ·have Y:=Ls b
  refine Ap (gN rfl b) (Ap (gN rfl b) (Ap (gN rfl b) (l_v (Bt rfl b (v:=bT) rfl) (l_k H (Co rfl rfl (w_q rfl rfl fun a0 N=>Av (.string (ByteArray.mk #[])) (Av (iV 0) (Av bF (l_k N (Aq (h ?_)))))))))))
  have hf:Ds t=false:=Bib j (by simpa[Nt]using b)
  exact⟨g,rfl,.inl ⟨hf,_,_,(by unfold I64;omega),Mp (r:=2) (r':=3) (rs:=[4]) (v:=.string (ByteArray.mk #[])) (v':=iV 0) (vs:=[bF]) ⟨rfl,rfl,rfl,trivial⟩⟩⟩
 have Y:=Jh b
 refine l_M d (gY rfl b) rfl ?_
 have a4:=Val.len u
 refine Aa (gY rfl b) (Ci (el:=9) Brt rfl u) (Aa (gY rfl b) (Dg rfl rfl) (l_v (Bn rfl b (v:=.bool ((m.length:Int) != 2)) rfl) (l_k H (Bb (t:=(m.length:Int) != 2) rfl (fun x=>?_) (fun x=>?_)))))
 ·have W:=Ls x
  refine w_q rfl rfl fun a1 O=>Av (.string (ByteArray.mk #[])) (Av (iV 0) (Av bF (l_k O (Aq (h ?_)))))
  have hf:Ds t=false:=Bmj j (by omega)
  exact⟨g,rfl,.inl ⟨hf,_,_,(by unfold I64;omega),Mp (r:=2) (r':=3) (rs:=[4]) (v:=.string (ByteArray.mk #[])) (v':=iV 0) (vs:=[bF]) ⟨rfl,rfl,rfl,trivial⟩⟩⟩
 have W:=Jh x
 refine Al (kk V ?_)
 refine w_q rfl rfl fun a2 P=>Ay d ?_
 obtain⟨a,y⟩:=Ed (xs:=m) (i:=1) (by omega)
 have ab:=F _ (lZ6 y)
 refine Arw (Ch 1 Brt ty9 rfl u (q:=1) rfl rfl y) fun ad I=>?_
 have a5:a.data.toList.length<2^60:=At.slen I
 refine l_v (Pk ty9 rfl I) ?_
 have a9:=Abj (s:=a.data.toList)
 refine Arv (Bm (vs:=[.string a]) (v:=.tuple #[iV (Jb a.data.toList),.bool (Er a.data.toList)]) (Ayg (s:=a.data.toList) (by first|omega|(simp only[Ea,En]at *;omega))) Tryz.func75 rfl rfl ⟨rfl,trivial⟩ ?_)
 refine Ay (.tuple #[iV (Jb a.data.toList),.bool (Er a.data.toList)]) (l_v (Bk (vs:=#[iV (Jb a.data.toList),.bool (Er a.data.toList)]) rfl (v:=iV (Jb a.data.toList)) rfl) (l_v (Bk (vs:=#[iV (Jb a.data.toList),.bool (Er a.data.toList)]) rfl (v:=.bool (Er a.data.toList)) rfl) (Av (iV (Jb a.data.toList)) (Av (.bool (Er a.data.toList)) (Arx rfl rfl P fun a3 R=>Ay d ?_)))))
 obtain⟨f,z⟩:=Ed (xs:=m) (i:=0) (by omega)
 have ac:=F _ (lZ6 z)
 refine Arw (Ch 0 Brt ty9 rfl u (q:=0) rfl rfl z) fun ae J=>?_
 have a6:f.data.toList.length<2^60:=At.slen J
 refine l_v (Pk ty9 rfl J) (Ay (iV (Jb a.data.toList)) (Ay (.bool (Er a.data.toList)) (Av (.string f) (Av (iV (Jb a.data.toList)) (Av (.bool (Er a.data.toList)) (l_k R (Aq (h ?_))))))))
 obtain⟨E,K,L⟩:=Bmk j C (by simpa[Nt]using b) (by omega) z y
 have hnb:=Abj (s:=a.data.toList)
 cases hv:Er a.data.toList with
 | false=>exact⟨g,rfl,.inl ⟨E.trans hv,f.data.toList,Jb a.data.toList,(by unfold I64;omega),(Mp (r:=2) (r':=3) (rs:=[4]) (v:=(.string (f))) (v':=(iV ((Jb a.data.toList)))) (vs:=[(.bool false)]) ⟨rfl,rfl,rfl,trivial⟩)⟩⟩
 | true=>exact⟨g,rfl,.inr ⟨E.trans hv,by rw[K,L];exact(Mp (r:=2) (r':=3) (rs:=[4]) (v:=(.string (f))) (v':=(iV ((Jb a.data.toList)))) (vs:=[(.bool true)]) ⟨rfl,rfl,rfl,trivial⟩)⟩⟩
theorem Bhc{s:List UInt8}(hb:s.length<2^60):CallsH (CX mn X) 11 #[.string (bs s)] ρ σ (fun w ρ' σ'=>Ro.le ρ ρ'∧σ'=σ∧∃v,w=(.tuple #[.string (bs ((Ba s).1)),v,iV ((Ba s).2.2.1),iV ((Ba s).2.2.2)])∧Val ρ' v ((Ba s).2.1:List ByteArray)):=by
 refine Bf 101 [2,3,4,5] Tryz.func11 rfl fun Q C gt=>w_q rfl rfl fun K1 k1=>Av (.string (ByteArray.mk #[])) (Av nS (Av (iV 0) (Av (iV 0) (Ary rfl rfl k1 fun K2 K3 k2 k3=>Ay (.string (bs s)) (l_v (Ce Brs (p:=s) rfl) (l_v (Gl (p:=(s.length:Int)) (q:=60000) rfl rfl) (l_k k3 (Bb (t:=decide ((s.length:Int)>60000)) rfl (fun b4=>?_) (fun b4=>?_)))))))))
 ·have q4:=lZ3 b4
  refine w_q rfl rfl fun K5 k5=>Av (.string (ByteArray.mk #[])) (Av nS (Av (iV 0) (Av (iV 2) (l_k k5 (Aq (C ⟨Bsy,rfl,nS,Eq.trans (b:=.tuple #[.string (ByteArray.mk #[]),nS,iV 0,iV 2]) (Mp (r:=2) (r':=3) (rs:=[4,5]) (v:=.string (ByteArray.mk #[])) (v':=nS) (vs:=[iV 0,iV 2]) ⟨rfl,rfl,rfl,rfl,trivial⟩) ?_,Val.cast ?_ Gx⟩))))))
  ·have hP:=Auf (s:=s) (by omega)
   first|(rw[hP];done)|(rw[hP];rfl)
  ·have hP:=Auf (s:=s) (by omega)
   rw[hP]
 have q4:=lZ4 b4
 refine Al (kk k2 ?_)
 refine w_q rfl rfl fun K6 k6=>Av (.string (ByteArray.mk #[])) (Av (iV 0) (Arx rfl rfl k6 fun K7 k7=>Av nS (Arx rfl rfl k7 fun K8 k8=>Ay (.string (bs s)) (Arv (Cm (vs:=[.string (bs s)]) (Bbm (t:=s) (by omega)) Tryz.func38 rfl rfl ⟨rfl,trivial⟩ fun v9 ek ik bq=>?_)))))
 obtain⟨F,s9,H⟩:=bq
 replace s9:=s9.symm;subst s9
 refine Av v9 (Ary rfl rfl k8 fun em es c0 c6=>Av (iV 0) (l_k c6 (Ao (Cc (fun mm ee dd ρ' σ'=>∃(i:Nat) (kd:List UInt8) (my:Int) (xs:List ByteArray) (G:Value) (O:Own),((bw (Fg s)).length-i)=mm∧[]=dd∧Ro.le ek ρ'∧(O++σ)=σ'∧ee 0=(.string (bs s))∧ee 9=v9∧ee 6=(.string (bs kd))∧ee 7=iV my∧ee 8=G∧ee 10=iV i∧(i≤(bw (Fg s)).length)∧(Rn ((Bp [] s).take i) i kd my xs)∧Grow ρ' 9 G xs O∧True) (m:=_) ⟨0,[],0,[],nS,[],rfl,rfl,Bsy,rfl,rfl,rfl,rfl,rfl,rfl,rfl,Mq _,Arc,Hm,trivial⟩ ?_))))
 rintro h2 gj _ hw _ ⟨i,kd,my,xs,G,O,rfl,rfl,y,rfl,U,M,al,am,V,u,h3,c,e,_⟩
 replace H:=Val.mono y H
 obtain⟨_,gu,gv,bz⟩:=id c
 unfold I64 at bz
 have hbl:=show (bw (Fg s)).length=(Fg s).length by simp[bw]
 have hlt:=Bis (t:=s)
 refine Asb rfl rfl fun f3 f8 cg cl=>l_v (Ah (v:=iV i) u) (l_v (Ah (v:=v9) M) ?_)
 have gm:=Val.len H
 refine l_v (Ci (el:=9) Brt rfl H) (l_v (Da rfl rfl) (l_k cl (Bb (t:=decide ((i:Int)<(((bw (Fg s)).length:Nat):Int))) rfl (fun ac=>?_) (fun ac=>?_))))
 ·have e6:=lZ3 ac
  refine Al (kk cg ?_)
  refine Ai fun f9 a6=>Ao (w_q rfl rfl fun fa b3=>l_v (Ah (v:=v9) M) (l_v (Ah (v:=iV i) u) ?_))
  obtain⟨a,b1⟩:=Ed (xs:=bw (Fg s)) (i:=i) (by omega)
  obtain⟨bu,gs⟩:=Bms b1
  obtain⟨ln,f,d,j⟩:=Bdw bu
  refine Arw (Ch i Brt ty9 rfl H (q:=(i:Int)) rfl rfl b1) fun hp aw=>?_
  have gn:a.data.toList.length<2^60:=At.slen aw
  have gp:=At.slen aw
  refine l_v (Pk ty9 rfl aw) (Arv (Cm (vs:=[.string a]) (Bbt (x:=a.data.toList) (by omega)) Tryz.func39 rfl rfl ⟨rfl,trivial⟩ fun hq bf ih an=>?_))
  obtain⟨B,an⟩:=an
  replace H:=Val.mono B H
  replace e:=Grow.mono B e
  rcases an with⟨W,⟨g,aq⟩|⟨g,aq⟩⟩
  ·replace W:=W.symm;subst W aq
   refine Ay (.tuple #[.string (bs ([]:List UInt8)),.string (bs ([]:List UInt8)),bF]) (l_v (Bk (vs:=#[.string (bs ([]:List UInt8)),.string (bs ([]:List UInt8)),bF]) rfl (v:=.string (bs ([]:List UInt8))) rfl) (l_v (Bk (vs:=#[.string (bs ([]:List UInt8)),.string (bs ([]:List UInt8)),bF]) rfl (v:=.string (bs ([]:List UInt8))) rfl) ?_))
   refine l_v (Bk (vs:=#[.string (bs ([]:List UInt8)),.string (bs ([]:List UInt8)),bF]) rfl (v:=bF) rfl) (Av (.string (bs ([]:List UInt8))) (Av (.string (bs ([]:List UInt8))) (Av bF (Ary rfl rfl b3 fun fb fc gy cm=>Ay bF (l_v (Iy rfl) (Ay (.bool (!(false))) (Ap (gN rfl (Pu rfl)) (Ap (gN rfl (Pu rfl)) (Ap (gN rfl (Pu rfl)) (Ap (gN rfl (Pu rfl)) (Ap (gN rfl (Pu rfl)) (Ap (gN rfl (Pu rfl)) (Ap (Jf rfl rfl rfl) (Ap (Jf rfl rfl rfl) (Ap (Jf rfl rfl rfl) (Ap (Jf rfl rfl rfl) (Ap (Jf rfl rfl rfl) (Ap (Jf rfl rfl rfl) (Ap (gN rfl (Pu rfl)) (l_v (Bt rfl (Pu rfl) (v:=bT) rfl) (Ay bT (Ap (gN rfl rfl) (Ap (gN rfl rfl) (Ap (gN rfl rfl) (l_v (Bt rfl rfl (v:=bT) rfl) (l_k cm (Co rfl rfl (w_q rfl rfl fun fd cn=>l_v (Ah (v:=iV i) u) (l_v (Br rfl rfl (z:=(((i+1):Nat):Int)) wrE) (Av (.string (ByteArray.mk #[])) (Av nS (Av (iV ((i+1):Nat)) (Av (iV 3) (l_k cn (Hc e fun i1 ds he=>Aq (C ⟨Bsz (Bsz (Bsz F y) B) ds,rfl,nS,Eq.trans (b:=.tuple #[.string (ByteArray.mk #[]),nS,iV ((i+1):Nat),iV 3]) (Mp (r:=2) (r':=3) (rs:=[4,5]) (v:=.string (ByteArray.mk #[])) (v':=nS) (vs:=[iV ((i+1):Nat),iV 3]) ⟨rfl,rfl,rfl,rfl,trivial⟩) ?_,Val.cast ?_ Gx⟩))))))))))))))))))))))))))))))))))))
   ·have hP:=Cw c (by omega) f (Axd d g) (by decide)
    first|(rw[hP];done)|(rw[hP];rfl)
   ·have hP:=Cw c (by omega) f (Axd d g) (by decide)
    rw[hP]
  replace W:=W.symm;subst W aq
  have gq:=Bgq (x:=a.data.toList)
  refine Ay (.tuple #[.string (bs (apT a.data.toList)),.string (bs (apC a.data.toList)),bT]) (l_v (Bk (vs:=#[.string (bs (apT a.data.toList)),.string (bs (apC a.data.toList)),bT]) rfl (v:=.string (bs (apT a.data.toList))) rfl) (l_v (Bk (vs:=#[.string (bs (apT a.data.toList)),.string (bs (apC a.data.toList)),bT]) rfl (v:=.string (bs (apC a.data.toList))) rfl) (l_v (Bk (vs:=#[.string (bs (apT a.data.toList)),.string (bs (apC a.data.toList)),bT]) rfl (v:=bT) rfl) (Av (.string (bs (apT a.data.toList))) (Av (.string (bs (apC a.data.toList))) (Av bT (Ary rfl rfl b3 fun fe ff b5 av=>Ay bT (l_v (Iy rfl) (Ay (.bool (!(true))) (Aa (gY rfl (not_t rfl)) (Ah (v:=iV i) u) (Aa (gY rfl (not_t rfl)) (Ah (v:=v9) M) ?_)))))))))))
  have go:=Val.len H
  refine Aa (gY rfl (not_t rfl)) (Ci (el:=9) Brt rfl H) (Aa (gY rfl (not_t rfl)) (Ou (p:=(((bw (Fg s)).length:Nat):Int)) (q:=1) rfl rfl (z:=((((bw (Fg s)).length-1):Nat):Int)) (Bo (by omega) (by omega) (by omega))) (Aa (gY rfl (not_t rfl)) (Ek rfl rfl) (l_M (.bool ((i:Int)==((((bw (Fg s)).length-1):Nat):Int))) (gY rfl (not_t rfl)) rfl (Cn ((i:Int)==((((bw (Fg s)).length-1):Nat):Int)) (fun D=>?_) (fun D=>?_)))))
  ·have e7:=Jr D
   refine Aa (gY rfl D) (Ah (v:=.string (bs s)) U) (Aa (gY rfl D) (Ah (v:=.string (bs s)) U) (Aa (gY rfl D) (Ce Brs (p:=s) rfl) (Aa (gY rfl D) (Ou (p:=(s.length:Int)) (q:=1) rfl rfl (z:=(((s.length-1):Nat):Int)) (Bo (by omega) (by omega) (by omega))) ?_)))
   obtain⟨T,E⟩:=Nd (p:=s) (i:=s.length-1) (by omega)
   have gw:=T.toNat_lt
   refine Aa (gY rfl D) (Cr (p:=s) (s.length-1) T Brs rfl (q:=(((s.length-1):Nat):Int)) rfl rfl E) (Aa (gY rfl D) (Dg rfl rfl) (Aa (gY rfl (not_t rfl)) (Bt rfl D (v:=.bool ((T.toNat:Int) != 10)) rfl) (l_v (Bn rfl (not_t rfl) (v:=.bool ((T.toNat:Int) != 10)) rfl) (Ay (.bool ((T.toNat:Int) != 10)) (Cn ((T.toNat:Int) != 10) (fun k=>?_) (fun k=>?_))))))
   ·have e8:=Ls k
    refine Ap (gN rfl k) (Ap (gN rfl k) (Ap (gN rfl k) (l_v (Bt rfl k (v:=bT) rfl) (l_k av (Co rfl rfl (w_q rfl rfl fun fg co=>l_v (Ah (v:=iV i) u) (l_v (Br rfl rfl (z:=(((i+1):Nat):Int)) wrE) (Av (.string (ByteArray.mk #[])) (Av nS (Av (iV ((i+1):Nat)) (Av (iV 3) (l_k co (Hc e fun i2 dt hf=>Aq (C ⟨Bsz (Bsz (Bsz F y) B) dt,rfl,nS,Eq.trans (b:=.tuple #[.string (ByteArray.mk #[]),nS,iV ((i+1):Nat),iV 3]) (Mp (r:=2) (r':=3) (rs:=[4,5]) (v:=.string (ByteArray.mk #[])) (v':=nS) (vs:=[iV ((i+1):Nat),iV 3]) ⟨rfl,rfl,rfl,rfl,trivial⟩) ?_,Val.cast ?_ Gx⟩))))))))))))))
    ·have hP:=Cw c (by omega) f (Bfs (j.2 ⟨by omega,Awh E (by omega) (Rh (n:=10) (Ls k))⟩)) (by decide)
     first|(rw[hP];done)|(rw[hP];rfl)
    ·have hP:=Cw c (by omega) f (Bfs (j.2 ⟨by omega,Awh E (by omega) (Rh (n:=10) (Ls k))⟩)) (by decide)
     rw[hP]
   have e8:=Jh k
   refine l_M (.string (bs (apT a.data.toList))) (gY rfl k) rfl (Aa (gY rfl k) (Ce Brs (p:=apT a.data.toList) rfl) (Aa (gY rfl k) (Gl (p:=((((apT a.data.toList)).length:Nat):Int)) (q:=200) rfl rfl) (l_v (Bn rfl k (v:=.bool (decide (((((apT a.data.toList)).length:Nat):Int)>200))) rfl) (l_k av (Bb (t:=decide (((((apT a.data.toList)).length:Nat):Int)>200)) rfl (fun ad=>?_) (fun ad=>?_))))))
   ·have e9:=lZ3 ad
    refine w_q rfl rfl fun fh cp=>l_v (Ah (v:=iV i) u) (l_v (Br rfl rfl (z:=(((i+1):Nat):Int)) wrE) (Av (.string (ByteArray.mk #[])) (Av nS (Av (iV ((i+1):Nat)) (Av (iV 3) (l_k cp (Hc e fun i3 du hg=>Aq (C ⟨Bsz (Bsz (Bsz F y) B) du,rfl,nS,Eq.trans (b:=.tuple #[.string (ByteArray.mk #[]),nS,iV ((i+1):Nat),iV 3]) (Mp (r:=2) (r':=3) (rs:=[4,5]) (v:=.string (ByteArray.mk #[])) (v':=nS) (vs:=[iV ((i+1):Nat),iV 3]) ⟨rfl,rfl,rfl,rfl,trivial⟩) ?_,Val.cast ?_ Gx⟩))))))))
    ·have hP:=Cw c (by omega) f (Anc d g (Hj j fun h=>Iv E (by omega) (Ie (n:=10) (Jh k)) h.2) (by omega)) (by decide)
     first|(rw[hP];done)|(rw[hP];rfl)
    ·have hP:=Cw c (by omega) f (Anc d g (Hj j fun h=>Iv E (by omega) (Ie (n:=10) (Jh k)) h.2) (by omega)) (by decide)
     rw[hP]
   have e9:=lZ4 ad
   refine Al (kk b5 ?_)
   refine Asb rfl rfl fun fi fj b6 cq=>l_v (Ah (v:=iV i) u) (l_v (Ek rfl rfl) (l_k cq (Bb (t:=(i:Int)==0) rfl (fun ae=>?_) (fun ae=>?_))))
   ·have ea:=Jr ae
    refine w_q rfl rfl fun fk b7=>Ay (.string (bs (apT a.data.toList))) (Arv (Cm (vs:=[.string (bs (apT a.data.toList))]) (Avb (t:=apT a.data.toList) (by omega)) Tryz.func40 rfl rfl ⟨rfl,trivial⟩ fun hr i4 ii ao=>?_))
    obtain⟨a2,ao⟩:=ao
    replace e:=Grow.mono a2 e
    rcases ao with⟨Y,⟨K,a0,a4,br,ar⟩|⟨K,ar⟩⟩
    ·replace Y:=Y.symm;subst Y ar
     unfold I64 at br
     refine Ay (.tuple #[.string (bs a0),iV a4,bF]) (l_v (Bk (vs:=#[.string (bs a0),iV a4,bF]) rfl (v:=.string (bs a0)) rfl) (l_v (Bk (vs:=#[.string (bs a0),iV a4,bF]) rfl (v:=iV a4) rfl) (l_v (Bk (vs:=#[.string (bs a0),iV a4,bF]) rfl (v:=bF) rfl) (Av (.string (bs a0)) (Av (iV a4) (Av bF (Ary rfl rfl b7 fun fl fm gz cr=>Ay bF (l_v (Iy rfl) (l_k cr (Co rfl (Pu rfl) (w_q rfl rfl fun fn cs=>Av (.string (ByteArray.mk #[])) (Av nS (Av (iV 1) (Av (iV 3) (l_k cs (Hc e fun i5 dv hh=>Aq (C ⟨Bsz (Bsz (Bsz (Bsz F y) B) a2) dv,rfl,nS,Eq.trans (b:=.tuple #[.string (ByteArray.mk #[]),nS,iV 1,iV 3]) (Mp (r:=2) (r':=3) (rs:=[4,5]) (v:=.string (ByteArray.mk #[])) (v':=nS) (vs:=[iV 1,iV 3]) ⟨rfl,rfl,rfl,rfl,trivial⟩) ?_,Val.cast ?_ Gx⟩)))))))))))))))))
     ·obtain rfl:i=0:=by omega
      have hP:=Cw c (by omega) f (Aby d g (Hj j fun h=>Iv E (by omega) (Ie (n:=10) (Jh k)) h.2) (by omega) K) (by decide)
      first|(rw[hP];done)|(rw[hP];rfl)
     ·obtain rfl:i=0:=by omega
      have hP:=Cw c (by omega) f (Aby d g (Hj j fun h=>Iv E (by omega) (Ie (n:=10) (Jh k)) h.2) (by omega) K) (by decide)
      rw[hP]
    replace Y:=Y.symm;subst Y ar
    have bv:=Ws (t:=apT a.data.toList)
    unfold I64 at bv
    refine Ay (.tuple #[.string (bs (Dm (apT a.data.toList))),iV (Dp (apT a.data.toList)),bT]) (l_v (Bk (vs:=#[.string (bs (Dm (apT a.data.toList))),iV (Dp (apT a.data.toList)),bT]) rfl (v:=.string (bs (Dm (apT a.data.toList)))) rfl) (l_v (Bk (vs:=#[.string (bs (Dm (apT a.data.toList))),iV (Dp (apT a.data.toList)),bT]) rfl (v:=iV (Dp (apT a.data.toList))) rfl) (l_v (Bk (vs:=#[.string (bs (Dm (apT a.data.toList))),iV (Dp (apT a.data.toList)),bT]) rfl (v:=bT) rfl) (Av (.string (bs (Dm (apT a.data.toList)))) (Av (iV (Dp (apT a.data.toList))) (Av bT (Ary rfl rfl b7 fun fo fp ct cu=>Ay bT (l_v (Iy rfl) (l_k cu (Cg rfl (not_t rfl) (Al (kk ct ?_))))))))))))
    refine Ag rfl rfl (Ay (.string (bs (Dm (apT a.data.toList)))) (Ay (iV (Dp (apT a.data.toList))) (Av (.string (bs (Dm (apT a.data.toList)))) (Av (iV (Dp (apT a.data.toList))) (Ary rfl rfl b6 fun fq fr cv cw=>Ay (.string (bs (apT a.data.toList))) (l_v (Ah (v:=iV i) u) (Arv (Bm (vs:=[.string (bs (apT a.data.toList)),iV i]) (v:=.string (bs (Gh (Dr i (apT a.data.toList))))) (Rx (n:=i) (s:=apT a.data.toList) (by omega) (by omega)) Bsn rfl rfl ⟨rfl,rfl,trivial⟩ ?_))))))))
    refine Ay (.string (bs (apC a.data.toList))) (l_v (Qc (p:=Gh (Dr i (apT a.data.toList))) (q:=apC a.data.toList) rfl rfl) (l_k cw (Bb (t:=(Gh (Dr i (apT a.data.toList))) != (apC a.data.toList)) rfl (fun I=>?_) (fun I=>?_))))
    ·have eb:=Ls I
     refine w_q rfl rfl fun fs cx=>l_v (Ah (v:=iV i) u) (l_v (Br rfl rfl (z:=(((i+1):Nat):Int)) wrE) (Av (.string (ByteArray.mk #[])) (Av nS (Av (iV ((i+1):Nat)) (Av (iV 9) (l_k cx (Hc e fun i6 dw hi=>Aq (C ⟨Bsz (Bsz (Bsz (Bsz F y) B) a2) dw,rfl,nS,Eq.trans (b:=.tuple #[.string (ByteArray.mk #[]),nS,iV ((i+1):Nat),iV 9]) (Mp (r:=2) (r':=3) (rs:=[4,5]) (v:=.string (ByteArray.mk #[])) (v':=nS) (vs:=[iV ((i+1):Nat),iV 9]) ⟨rfl,rfl,rfl,rfl,trivial⟩) ?_,Val.cast ?_ Gx⟩))))))))
     ·obtain rfl:i=0:=by omega
      have hP:=Cw c (by omega) f (Nj d g (Hj j fun h=>Iv E (by omega) (Ie (n:=10) (Jh k)) h.2) (fun _=>K) (by omega) (Ls I)) (by decide)
      first|(rw[hP];done)|(rw[hP];rfl)
     ·obtain rfl:i=0:=by omega
      have hP:=Cw c (by omega) f (Nj d g (Hj j fun h=>Iv E (by omega) (Ie (n:=10) (Jh k)) h.2) (fun _=>K) (by omega) (Ls I)) (by decide)
      rw[hP]
    have eb:=Jh I
    refine Al (kk cv ?_)
    refine Asb rfl rfl fun ft fu cy cz=>l_v (Ah (v:=iV i) u) (l_v (Gl (p:=(i:Int)) (q:=0) rfl rfl) (l_k cz (Cg rfl (Om (by omega)) (Al (kk cy ?_)))))
    refine Asb rfl rfl fun fv fw d0 d1=>Ay (.string (bs (Dm (apT a.data.toList)))) (Arv (Bm (vs:=[.string (bs (Dm (apT a.data.toList)))]) (v:=.bool (Hg (bs (Dm (apT a.data.toList))))) Ast Bss rfl rfl ⟨rfl,trivial⟩ ?_))
    refine l_v (Iy rfl) (l_k d1 (Bb (t:=!(Hg (bs (Dm (apT a.data.toList))))) rfl (fun af=>?_) (fun af=>?_)))
    ·have az:=not_eq_t af
     refine w_q rfl rfl fun fx d2=>Av (.string (ByteArray.mk #[])) (Av nS (Av (iV 1) (Av (iV 4) (l_k d2 (Hc e fun i7 dx hj=>Aq (C ⟨Bsz (Bsz (Bsz (Bsz F y) B) a2) dx,rfl,nS,Eq.trans (b:=.tuple #[.string (ByteArray.mk #[]),nS,iV 1,iV 4]) (Mp (r:=2) (r':=3) (rs:=[4,5]) (v:=.string (ByteArray.mk #[])) (v':=nS) (vs:=[iV 1,iV 4]) ⟨rfl,rfl,rfl,rfl,trivial⟩) ?_,Val.cast ?_ Gx⟩))))))
     ·obtain rfl:i=0:=by omega
      have hP:=Cw c (by omega) f (Acd d g (Hj j fun h=>Iv E (by omega) (Ie (n:=10) (Jh k)) h.2) K (by omega) (Jh I) (by omega) az) (by decide)
      first|(rw[hP];done)|(rw[hP];rfl)
     ·obtain rfl:i=0:=by omega
      have hP:=Cw c (by omega) f (Acd d g (Hj j fun h=>Iv E (by omega) (Ie (n:=10) (Jh k)) h.2) K (by omega) (Jh I) (by omega) az) (by decide)
      rw[hP]
    have ag:=Ev af
    refine Al (kk d0 ?_)
    refine w_q rfl rfl fun fy d3=>Ay (iV (Dp (apT a.data.toList))) (Arv (Bm (vs:=[iV (Dp (apT a.data.toList)),iV 0,iV 90]) (v:=.bool (inR (Dp (apT a.data.toList)) 0 90)) Bgz Bsq rfl rfl ⟨rfl,rfl,rfl,trivial⟩ ?_))
    refine l_v (Iy rfl) (l_k d3 (Bb (t:=!(inR (Dp (apT a.data.toList)) 0 90)) rfl (fun ah=>?_) (fun ah=>?_)))
    ·have ai:=not_eq_t ah
     have h6:=Aij.1 ai
     refine w_q rfl rfl fun fz d4=>Av (.string (ByteArray.mk #[])) (Av nS (Av (iV 1) (Av (iV 2) (l_k d4 (Hc e fun i8 dy hk=>Aq (C ⟨Bsz (Bsz (Bsz (Bsz F y) B) a2) dy,rfl,nS,Eq.trans (b:=.tuple #[.string (ByteArray.mk #[]),nS,iV 1,iV 2]) (Mp (r:=2) (r':=3) (rs:=[4,5]) (v:=.string (ByteArray.mk #[])) (v':=nS) (vs:=[iV 1,iV 2]) ⟨rfl,rfl,rfl,rfl,trivial⟩) ?_,Val.cast ?_ Gx⟩))))))
     ·obtain rfl:i=0:=by omega
      have hP:=Cw c (by omega) f (Aca d g (Hj j fun h=>Iv E (by omega) (Ie (n:=10) (Jh k)) h.2) K (by omega) (Jh I) (by omega) ag ai) (by decide)
      first|(rw[hP];done)|(rw[hP];rfl)
     ·obtain rfl:i=0:=by omega
      have hP:=Cw c (by omega) f (Aca d g (Hj j fun h=>Iv E (by omega) (Ie (n:=10) (Jh k)) h.2) K (by omega) (Jh I) (by omega) ag ai) (by decide)
      rw[hP]
    have b0:=Ev ah
    have h7:=Fz.1 b0
    refine Al (kk a6 ?_)
    refine Ag rfl rfl (l_v (Ah (v:=iV i) u) (l_v (Br rfl rfl (z:=(((i+1):Nat):Int)) wrE) (Av (iV ((i+1):Nat)) (Ac ?_))))
    refine⟨_,?_,(i+1),(Dm (apT a.data.toList)),(Dp (apT a.data.toList)),xs,G,O,rfl,rfl,(Bsz (Bsz y B) a2),rfl,U,M,rfl,rfl,V,rfl,(by omega),(Abw c f (Arl d g (Hj j fun h=>Iv E (by omega) (Ie (n:=10) (Jh k)) h.2) K (by omega) (Jh I) (by omega) ag b0) (Bla d (by omega))),(Fy (rfl) e),trivial⟩
    omega
   have ea:=Jq ae
   refine Al (kk b6 ?_)
   refine Asb rfl rfl fun g0 g1 d5 d6=>Ay (.string (bs (apT a.data.toList))) (l_v (Ah (v:=iV i) u) (Arv (Bm (vs:=[.string (bs (apT a.data.toList)),iV i]) (v:=.string (bs (Gh (Dr i (apT a.data.toList))))) (Rx (n:=i) (s:=apT a.data.toList) (by omega) (by omega)) Bsn rfl rfl ⟨rfl,rfl,trivial⟩ ?_)))
   refine Ay (.string (bs (apC a.data.toList))) (l_v (Qc (p:=Gh (Dr i (apT a.data.toList))) (q:=apC a.data.toList) rfl rfl) (l_k d6 (Bb (t:=(Gh (Dr i (apT a.data.toList))) != (apC a.data.toList)) rfl (fun R=>?_) (fun R=>?_))))
   ·have ec:=Ls R
    refine w_q rfl rfl fun g2 d7=>l_v (Ah (v:=iV i) u) (l_v (Br rfl rfl (z:=(((i+1):Nat):Int)) wrE) (Av (.string (ByteArray.mk #[])) (Av nS (Av (iV ((i+1):Nat)) (Av (iV 9) (l_k d7 (Hc e fun i9 dz hl=>Aq (C ⟨Bsz (Bsz (Bsz F y) B) dz,rfl,nS,Eq.trans (b:=.tuple #[.string (ByteArray.mk #[]),nS,iV ((i+1):Nat),iV 9]) (Mp (r:=2) (r':=3) (rs:=[4,5]) (v:=.string (ByteArray.mk #[])) (v':=nS) (vs:=[iV ((i+1):Nat),iV 9]) ⟨rfl,rfl,rfl,rfl,trivial⟩) ?_,Val.cast ?_ Gx⟩))))))))
    ·have hP:=Cw c (by omega) f (Nj d g (Hj j fun h=>Iv E (by omega) (Ie (n:=10) (Jh k)) h.2) (fun h=>absurd h (by omega)) (by omega) (Ls R)) (by decide)
     first|(rw[hP];done)|(rw[hP];rfl)
    ·have hP:=Cw c (by omega) f (Nj d g (Hj j fun h=>Iv E (by omega) (Ie (n:=10) (Jh k)) h.2) (fun h=>absurd h (by omega)) (by omega) (Ls R)) (by decide)
     rw[hP]
   have ec:=Jh R
   refine Al (kk d5 ?_)
   refine Asb rfl rfl fun g3 g4 h0 d8=>l_v (Ah (v:=iV i) u) (l_v (Gl (p:=(i:Int)) (q:=0) rfl rfl) (l_k d8 (Co rfl (Lg (by omega)) (w_q rfl rfl fun g5 d9=>l_v (Ah (v:=G) V) (Ay (.string (bs (apT a.data.toList))) (Arv (Bi (α:=ByteArray) (xs:=[bs (apT a.data.toList)]) (vs:=[.string (bs (apT a.data.toList))]) Brt ty9 zr9 rfl (by decide) (Dk (os:=[.tmp 83]) ⟨rfl,trivial⟩) ⟨Rb (l:=apT a.data.toList) (by first|omega|(simp only[lZ1,lZ2,Dy,Ea,En]at *;omega)),trivial⟩ rfl (by decide) fun b8 bn bl=>?_)))))))
   have bi:Grow bf 9 (.slice (some ⟨b8,0,none⟩) 1 1) ([bs (apT a.data.toList)]:List ByteArray) [(b8,oC bn.toArray 9)]:=Bs bl rfl (by decide)
   refine Ca bi fun ia bc ej=>?_
   replace e:=Grow.mono bc e
   refine Arv (Gc (σ:=σ) (gr:=O) (xs:=xs) (ys:=([bs (apT a.data.toList)]:List ByteArray)) Brt Brt (Ab Bsc) rfl nL rfl rfl rfl rfl e ej (by simp only[lZ1,lZ2,Dy];omega) fun be bp bj=>?_)
   refine Av be (l_k d9 (Bx (kk a6 ?_)))
   refine Ag rfl rfl (l_v (Ah (v:=iV i) u) (l_v (Br rfl rfl (z:=(((i+1):Nat):Int)) wrE) (Av (iV ((i+1):Nat)) (Ac ?_))))
   refine⟨_,?_,(i+1),kd,my,(xs++([bs (apT a.data.toList)]:List ByteArray)),be,bp,rfl,rfl,(Bsz (Bsz y B) bc),rfl,U,M,al,am,rfl,rfl,(by omega),(Abw c f (Bqd d g (Hj j fun h=>Iv E (by omega) (Ie (n:=10) (Jh k)) h.2) (by omega) (Jh R) (by omega)) (Blb d (by omega))),(Fy (rfl) bj),trivial⟩
   omega
  have e7:=Jq D
  refine Ap (gN rfl D) (Ap (gN rfl D) (Ap (gN rfl D) (Ap (gN rfl D) (Ap (gN rfl D) (Ap (gN rfl D) (Aa (gY rfl (not_t rfl)) (Bn rfl D (v:=bF) rfl) (l_v (Bn rfl (not_t rfl) (v:=bF) rfl) (Ay bF (l_M (.string (bs (apT a.data.toList))) (gY rfl rfl) rfl (Aa (gY rfl rfl) (Ce Brs (p:=apT a.data.toList) rfl) (Aa (gY rfl rfl) (Gl (p:=((((apT a.data.toList)).length:Nat):Int)) (q:=200) rfl rfl) (l_v (Bn rfl rfl (v:=.bool (decide (((((apT a.data.toList)).length:Nat):Int)>200))) rfl) (l_k av (Bb (t:=decide (((((apT a.data.toList)).length:Nat):Int)>200)) rfl (fun aj=>?_) (fun aj=>?_)))))))))))))))
  ·have ed:=lZ3 aj
   refine w_q rfl rfl fun g6 da=>l_v (Ah (v:=iV i) u) (l_v (Br rfl rfl (z:=(((i+1):Nat):Int)) wrE) (Av (.string (ByteArray.mk #[])) (Av nS (Av (iV ((i+1):Nat)) (Av (iV 3) (l_k da (Hc e fun ib e0 hm=>Aq (C ⟨Bsz (Bsz (Bsz F y) B) e0,rfl,nS,Eq.trans (b:=.tuple #[.string (ByteArray.mk #[]),nS,iV ((i+1):Nat),iV 3]) (Mp (r:=2) (r':=3) (rs:=[4,5]) (v:=.string (ByteArray.mk #[])) (v':=nS) (vs:=[iV ((i+1):Nat),iV 3]) ⟨rfl,rfl,rfl,rfl,trivial⟩) ?_,Val.cast ?_ Gx⟩))))))))
   ·have hP:=Cw c (by omega) f (Anc d g (Hj j fun h=>by omega) (by omega)) (by decide)
    first|(rw[hP];done)|(rw[hP];rfl)
   ·have hP:=Cw c (by omega) f (Anc d g (Hj j fun h=>by omega) (by omega)) (by decide)
    rw[hP]
  have ed:=lZ4 aj
  refine Al (kk b5 ?_)
  refine Asb rfl rfl fun g7 g8 b9 db=>l_v (Ah (v:=iV i) u) (l_v (Ek rfl rfl) (l_k db (Bb (t:=(i:Int)==0) rfl (fun ak=>?_) (fun ak=>?_))))
  ·have ef:=Jr ak
   refine w_q rfl rfl fun g9 ba=>Ay (.string (bs (apT a.data.toList))) (Arv (Cm (vs:=[.string (bs (apT a.data.toList))]) (Avb (t:=apT a.data.toList) (by omega)) Tryz.func40 rfl rfl ⟨rfl,trivial⟩ fun hs ic ij ap=>?_))
   obtain⟨a3,ap⟩:=ap
   replace e:=Grow.mono a3 e
   rcases ap with⟨Z,⟨L,a1,a5,bt,au⟩|⟨L,au⟩⟩
   ·replace Z:=Z.symm;subst Z au
    unfold I64 at bt
    refine Ay (.tuple #[.string (bs a1),iV a5,bF]) (l_v (Bk (vs:=#[.string (bs a1),iV a5,bF]) rfl (v:=.string (bs a1)) rfl) (l_v (Bk (vs:=#[.string (bs a1),iV a5,bF]) rfl (v:=iV a5) rfl) (l_v (Bk (vs:=#[.string (bs a1),iV a5,bF]) rfl (v:=bF) rfl) (Av (.string (bs a1)) (Av (iV a5) (Av bF (Ary rfl rfl ba fun ga gb h1 dc=>Ay bF (l_v (Iy rfl) (l_k dc (Co rfl (Pu rfl) (w_q rfl rfl fun gc de=>Av (.string (ByteArray.mk #[])) (Av nS (Av (iV 1) (Av (iV 3) (l_k de (Hc e fun ie e1 hn=>Aq (C ⟨Bsz (Bsz (Bsz (Bsz F y) B) a3) e1,rfl,nS,Eq.trans (b:=.tuple #[.string (ByteArray.mk #[]),nS,iV 1,iV 3]) (Mp (r:=2) (r':=3) (rs:=[4,5]) (v:=.string (ByteArray.mk #[])) (v':=nS) (vs:=[iV 1,iV 3]) ⟨rfl,rfl,rfl,rfl,trivial⟩) ?_,Val.cast ?_ Gx⟩)))))))))))))))))
    ·obtain rfl:i=0:=by omega
     have hP:=Cw c (by omega) f (Aby d g (Hj j fun h=>by omega) (by omega) L) (by decide)
     first|(rw[hP];done)|(rw[hP];rfl)
    ·obtain rfl:i=0:=by omega
     have hP:=Cw c (by omega) f (Aby d g (Hj j fun h=>by omega) (by omega) L) (by decide)
     rw[hP]
   replace Z:=Z.symm;subst Z au
   have bx:=Ws (t:=apT a.data.toList)
   unfold I64 at bx
   refine Ay (.tuple #[.string (bs (Dm (apT a.data.toList))),iV (Dp (apT a.data.toList)),bT]) (l_v (Bk (vs:=#[.string (bs (Dm (apT a.data.toList))),iV (Dp (apT a.data.toList)),bT]) rfl (v:=.string (bs (Dm (apT a.data.toList)))) rfl) (l_v (Bk (vs:=#[.string (bs (Dm (apT a.data.toList))),iV (Dp (apT a.data.toList)),bT]) rfl (v:=iV (Dp (apT a.data.toList))) rfl) (l_v (Bk (vs:=#[.string (bs (Dm (apT a.data.toList))),iV (Dp (apT a.data.toList)),bT]) rfl (v:=bT) rfl) (Av (.string (bs (Dm (apT a.data.toList)))) (Av (iV (Dp (apT a.data.toList))) (Av bT (Ary rfl rfl ba fun gd ge df dg=>Ay bT (l_v (Iy rfl) (l_k dg (Cg rfl (not_t rfl) (Al (kk df ?_))))))))))))
   refine Ag rfl rfl (Ay (.string (bs (Dm (apT a.data.toList)))) (Ay (iV (Dp (apT a.data.toList))) (Av (.string (bs (Dm (apT a.data.toList)))) (Av (iV (Dp (apT a.data.toList))) (Ary rfl rfl b9 fun gf gg dh di=>Ay (.string (bs (apT a.data.toList))) (l_v (Ah (v:=iV i) u) (Arv (Bm (vs:=[.string (bs (apT a.data.toList)),iV i]) (v:=.string (bs (Gh (Dr i (apT a.data.toList))))) (Rx (n:=i) (s:=apT a.data.toList) (by omega) (by omega)) Bsn rfl rfl ⟨rfl,rfl,trivial⟩ ?_))))))))
   refine Ay (.string (bs (apC a.data.toList))) (l_v (Qc (p:=Gh (Dr i (apT a.data.toList))) (q:=apC a.data.toList) rfl rfl) (l_k di (Bb (t:=(Gh (Dr i (apT a.data.toList))) != (apC a.data.toList)) rfl (fun J=>?_) (fun J=>?_))))
   ·have eg:=Ls J
    refine w_q rfl rfl fun gh dj=>l_v (Ah (v:=iV i) u) (l_v (Br rfl rfl (z:=(((i+1):Nat):Int)) wrE) (Av (.string (ByteArray.mk #[])) (Av nS (Av (iV ((i+1):Nat)) (Av (iV 9) (l_k dj (Hc e fun ig e2 ho=>Aq (C ⟨Bsz (Bsz (Bsz (Bsz F y) B) a3) e2,rfl,nS,Eq.trans (b:=.tuple #[.string (ByteArray.mk #[]),nS,iV ((i+1):Nat),iV 9]) (Mp (r:=2) (r':=3) (rs:=[4,5]) (v:=.string (ByteArray.mk #[])) (v':=nS) (vs:=[iV ((i+1):Nat),iV 9]) ⟨rfl,rfl,rfl,rfl,trivial⟩) ?_,Val.cast ?_ Gx⟩))))))))
    ·obtain rfl:i=0:=by omega
     have hP:=Cw c (by omega) f (Nj d g (Hj j fun h=>by omega) (fun _=>L) (by omega) (Ls J)) (by decide)
     first|(rw[hP];done)|(rw[hP];rfl)
    ·obtain rfl:i=0:=by omega
     have hP:=Cw c (by omega) f (Nj d g (Hj j fun h=>by omega) (fun _=>L) (by omega) (Ls J)) (by decide)
     rw[hP]
   have eg:=Jh J
   refine Al (kk dh ?_)
   refine Asb rfl rfl fun gi en dk c1=>l_v (Ah (v:=iV i) u) (l_v (Gl (p:=(i:Int)) (q:=0) rfl rfl) (l_k c1 (Cg rfl (Om (by omega)) (Al (kk dk ?_)))))
   refine Asb rfl rfl fun eo ep c2 c3=>Ay (.string (bs (Dm (apT a.data.toList)))) (Arv (Bm (vs:=[.string (bs (Dm (apT a.data.toList)))]) (v:=.bool (Hg (bs (Dm (apT a.data.toList))))) Ast Bss rfl rfl ⟨rfl,trivial⟩ ?_))
   refine l_v (Iy rfl) (l_k c3 (Bb (t:=!(Hg (bs (Dm (apT a.data.toList))))) rfl (fun a7=>?_) (fun a7=>?_)))
   ·have ax:=not_eq_t a7
    refine w_q rfl rfl fun eq c4=>Av (.string (ByteArray.mk #[])) (Av nS (Av (iV 1) (Av (iV 4) (l_k c4 (Hc e fun ht dl h8=>Aq (C ⟨Bsz (Bsz (Bsz (Bsz F y) B) a3) dl,rfl,nS,Eq.trans (b:=.tuple #[.string (ByteArray.mk #[]),nS,iV 1,iV 4]) (Mp (r:=2) (r':=3) (rs:=[4,5]) (v:=.string (ByteArray.mk #[])) (v':=nS) (vs:=[iV 1,iV 4]) ⟨rfl,rfl,rfl,rfl,trivial⟩) ?_,Val.cast ?_ Gx⟩))))))
    ·obtain rfl:i=0:=by omega
     have hP:=Cw c (by omega) f (Acd d g (Hj j fun h=>by omega) L (by omega) (Jh J) (by omega) ax) (by decide)
     first|(rw[hP];done)|(rw[hP];rfl)
    ·obtain rfl:i=0:=by omega
     have hP:=Cw c (by omega) f (Acd d g (Hj j fun h=>by omega) L (by omega) (Jh J) (by omega) ax) (by decide)
     rw[hP]
   have a8:=Ev a7
   refine Al (kk c2 ?_)
   refine w_q rfl rfl fun er c5=>Ay (iV (Dp (apT a.data.toList))) (Arv (Bm (vs:=[iV (Dp (apT a.data.toList)),iV 0,iV 90]) (v:=.bool (inR (Dp (apT a.data.toList)) 0 90)) Bgz Bsq rfl rfl ⟨rfl,rfl,rfl,trivial⟩ ?_))
   refine l_v (Iy rfl) (l_k c5 (Bb (t:=!(inR (Dp (apT a.data.toList)) 0 90)) rfl (fun a9=>?_) (fun a9=>?_)))
   ·have aa:=not_eq_t a9
    have h4:=Aij.1 aa
    refine w_q rfl rfl fun et c7=>Av (.string (ByteArray.mk #[])) (Av nS (Av (iV 1) (Av (iV 2) (l_k c7 (Hc e fun hu dm h9=>Aq (C ⟨Bsz (Bsz (Bsz (Bsz F y) B) a3) dm,rfl,nS,Eq.trans (b:=.tuple #[.string (ByteArray.mk #[]),nS,iV 1,iV 2]) (Mp (r:=2) (r':=3) (rs:=[4,5]) (v:=.string (ByteArray.mk #[])) (v':=nS) (vs:=[iV 1,iV 2]) ⟨rfl,rfl,rfl,rfl,trivial⟩) ?_,Val.cast ?_ Gx⟩))))))
    ·obtain rfl:i=0:=by omega
     have hP:=Cw c (by omega) f (Aca d g (Hj j fun h=>by omega) L (by omega) (Jh J) (by omega) a8 aa) (by decide)
     first|(rw[hP];done)|(rw[hP];rfl)
    ·obtain rfl:i=0:=by omega
     have hP:=Cw c (by omega) f (Aca d g (Hj j fun h=>by omega) L (by omega) (Jh J) (by omega) a8 aa) (by decide)
     rw[hP]
   have ay:=Ev a9
   have h5:=Fz.1 ay
   refine Al (kk a6 ?_)
   refine Ag rfl rfl (l_v (Ah (v:=iV i) u) (l_v (Br rfl rfl (z:=(((i+1):Nat):Int)) wrE) (Av (iV ((i+1):Nat)) (Ac ?_))))
   refine⟨_,?_,(i+1),(Dm (apT a.data.toList)),(Dp (apT a.data.toList)),xs,G,O,rfl,rfl,(Bsz (Bsz y B) a3),rfl,U,M,rfl,rfl,V,rfl,(by omega),(Abw c f (Arl d g (Hj j fun h=>by omega) L (by omega) (Jh J) (by omega) a8 ay) (Bla d (by omega))),(Fy (rfl) e),trivial⟩
   omega
  have ef:=Jq ak
  refine Al (kk b9 ?_)
  refine Asb rfl rfl fun eu ev c8 c9=>Ay (.string (bs (apT a.data.toList))) (l_v (Ah (v:=iV i) u) (Arv (Bm (vs:=[.string (bs (apT a.data.toList)),iV i]) (v:=.string (bs (Gh (Dr i (apT a.data.toList))))) (Rx (n:=i) (s:=apT a.data.toList) (by omega) (by omega)) Bsn rfl rfl ⟨rfl,rfl,trivial⟩ ?_)))
  refine Ay (.string (bs (apC a.data.toList))) (l_v (Qc (p:=Gh (Dr i (apT a.data.toList))) (q:=apC a.data.toList) rfl rfl) (l_k c9 (Bb (t:=(Gh (Dr i (apT a.data.toList))) != (apC a.data.toList)) rfl (fun P=>?_) (fun P=>?_))))
  ·have e3:=Ls P
   refine w_q rfl rfl fun ew ca=>l_v (Ah (v:=iV i) u) (l_v (Br rfl rfl (z:=(((i+1):Nat):Int)) wrE) (Av (.string (ByteArray.mk #[])) (Av nS (Av (iV ((i+1):Nat)) (Av (iV 9) (l_k ca (Hc e fun hv dn ha=>Aq (C ⟨Bsz (Bsz (Bsz F y) B) dn,rfl,nS,Eq.trans (b:=.tuple #[.string (ByteArray.mk #[]),nS,iV ((i+1):Nat),iV 9]) (Mp (r:=2) (r':=3) (rs:=[4,5]) (v:=.string (ByteArray.mk #[])) (v':=nS) (vs:=[iV ((i+1):Nat),iV 9]) ⟨rfl,rfl,rfl,rfl,trivial⟩) ?_,Val.cast ?_ Gx⟩))))))))
   ·have hP:=Cw c (by omega) f (Nj d g (Hj j fun h=>by omega) (fun h=>absurd h (by omega)) (by omega) (Ls P)) (by decide)
    first|(rw[hP];done)|(rw[hP];rfl)
   ·have hP:=Cw c (by omega) f (Nj d g (Hj j fun h=>by omega) (fun h=>absurd h (by omega)) (by omega) (Ls P)) (by decide)
    rw[hP]
  have e3:=Jh P
  refine Al (kk c8 ?_)
  refine Asb rfl rfl fun ex ey gx cb=>l_v (Ah (v:=iV i) u) (l_v (Gl (p:=(i:Int)) (q:=0) rfl rfl) (l_k cb (Co rfl (Lg (by omega)) (w_q rfl rfl fun ez cc=>l_v (Ah (v:=G) V) (Ay (.string (bs (apT a.data.toList))) (Arv (Bi (α:=ByteArray) (xs:=[bs (apT a.data.toList)]) (vs:=[.string (bs (apT a.data.toList))]) Brt ty9 zr9 rfl (by decide) (Dk (os:=[.tmp 83]) ⟨rfl,trivial⟩) ⟨Rb (l:=apT a.data.toList) (by first|omega|(simp only[lZ1,lZ2,Dy,Ea,En]at *;omega)),trivial⟩ rfl (by decide) fun b2 bm bk=>?_)))))))
  have bg:Grow bf 9 (.slice (some ⟨b2,0,none⟩) 1 1) ([bs (apT a.data.toList)]:List ByteArray) [(b2,oC bm.toArray 9)]:=Bs bk rfl (by decide)
  refine Ca bg fun hx bb eh=>?_
  replace e:=Grow.mono bb e
  refine Arv (Gc (σ:=σ) (gr:=O) (xs:=xs) (ys:=([bs (apT a.data.toList)]:List ByteArray)) Brt Brt (Ab Bsc) rfl nL rfl rfl rfl rfl e eh (by simp only[lZ1,lZ2,Dy];omega) fun bd bo bh=>?_)
  refine Av bd (l_k cc (Bx (kk a6 ?_)))
  refine Ag rfl rfl (l_v (Ah (v:=iV i) u) (l_v (Br rfl rfl (z:=(((i+1):Nat):Int)) wrE) (Av (iV ((i+1):Nat)) (Ac ?_))))
  refine⟨_,?_,(i+1),kd,my,(xs++([bs (apT a.data.toList)]:List ByteArray)),bd,bo,rfl,rfl,(Bsz (Bsz y B) bb),rfl,U,M,al,am,rfl,rfl,(by omega),(Abw c f (Bqd d g (Hj j fun h=>by omega) (by omega) (Jh P) (by omega)) (Blb d (by omega))),(Fy (rfl) bh),trivial⟩
  omega
 have e6:=lZ4 ac
 refine Bx (kk c0 ?_)
 refine Asb rfl rfl fun f0 f1 cd ce=>l_v (Ah (v:=v9) M) ?_
 have gk:=Val.len H
 refine l_v (Ci (el:=9) Brt rfl H) (l_v (Ek rfl rfl) (l_k ce (Bb (t:=(((bw (Fg s)).length:Nat):Int)==0) rfl (fun ab=>?_) (fun ab=>?_))))
 ·have e4:=Jr ab
  refine w_q rfl rfl fun f2 cf=>Av (.string (ByteArray.mk #[])) (Av nS (Av (iV 0) (Av (iV 3) (l_k cf (Hc e fun hy dp hc=>Aq (C ⟨Bsz (Bsz F y) dp,rfl,nS,Eq.trans (b:=.tuple #[.string (ByteArray.mk #[]),nS,iV 0,iV 3]) (Mp (r:=2) (r':=3) (rs:=[4,5]) (v:=.string (ByteArray.mk #[])) (v':=nS) (vs:=[iV 0,iV 3]) ⟨rfl,rfl,rfl,rfl,trivial⟩) ?_,Val.cast ?_ Gx⟩))))))
  ·have hP:=Aug (by omega) (Px c (by omega)) (by omega)
   first|(rw[hP];done)|(rw[hP];rfl)
  ·have hP:=Aug (by omega) (Px c (by omega)) (by omega)
   rw[hP]
 have e4:=Jq ab
 refine Al (kk cd ?_)
 refine Asb rfl rfl fun f4 f5 ch ci=>l_v (Ah (v:=G) V) ?_
 have gl:=Grow.len e
 refine l_v (Ajw (el':=9) Brt rfl e) (l_v (Ah (v:=iV my) am) (l_v (Dg rfl rfl) (l_k ci (Bb (t:=(xs.length:Int) != my) rfl (fun N=>?_) (fun N=>?_)))))
 ·have e5:=Ls N
  refine w_q rfl rfl fun f6 cj=>Av (.string (ByteArray.mk #[])) (Av nS (Av (iV 0) (Av (iV 2) (l_k cj (Hc e fun hz dq hd=>Aq (C ⟨Bsz (Bsz F y) dq,rfl,nS,Eq.trans (b:=.tuple #[.string (ByteArray.mk #[]),nS,iV 0,iV 2]) (Mp (r:=2) (r':=3) (rs:=[4,5]) (v:=.string (ByteArray.mk #[])) (v':=nS) (vs:=[iV 0,iV 2]) ⟨rfl,rfl,rfl,rfl,trivial⟩) ?_,Val.cast ?_ Gx⟩))))))
  ·have hP:=Auh (by omega) (Px c (by omega)) (by omega) (Ls N)
   first|(rw[hP];done)|(rw[hP];rfl)
  ·have hP:=Auh (by omega) (Px c (by omega)) (by omega) (Ls N)
   rw[hP]
 have e5:=Jh N
 refine Al (kk ch ?_)
 refine w_q rfl rfl fun f7 ck=>l_v (Ah (v:=.string (bs kd)) al) (l_v (Ah (v:=G) V) (Av (.string (bs kd)) (Av G (Av (iV 0) (Av (iV 0) (l_k ck (Hc e fun i0 dr ei=>Aq (C ⟨Bsz (Bsz F y) dr,rfl,G,Eq.trans (b:=.tuple #[.string (bs kd),G,iV 0,iV 0]) (Mp (r:=2) (r':=3) (rs:=[4,5]) (v:=.string (bs kd)) (v':=G) (vs:=[iV 0,iV 0]) ⟨rfl,rfl,rfl,rfl,trivial⟩) ?_,Val.cast ?_ ei⟩))))))))
 ·have hP:=Aui (by omega) (Px c (by omega)) (by omega) (Jh N)
  first|(rw[hP];done)|(rw[hP];rfl)
 ·have hP:=Aui (by omega) (Px c (by omega)) (by omega) (Jh N)
  rw[hP]
end
section
open Go
theorem Akv{W0:World}{ρ:Ro}{σ:Own}{k s:List UInt8}{ls:List ByteArray}{vl:Value}(hg:GlobK ρ)(hnr:NoRecv σ)(rl:Val ρ vl ls):Agd (CY W0) 3 6 [.string (bs k),vl,.string (bs s)] ρ σ (rP ρ σ bT):=by
 refine Aku (n:=85) Tryz.func3 rfl rfl rfl rfl fun Q e a6=>w_q rfl rfl fun W E=>Av bF (Ary rfl rfl E fun K2 K3 M h=>Ay vl (Arv (Bm (vs:=[vl]) (v:=.bool (Ps ls)) (Bbr rl) Tryz.func6 rfl rfl ⟨rfl,trivial⟩ ?_)))
 refine Ay (.bool (Ps ls)) (Cn (Ps ls) (fun b=>?_) (fun b=>?_))
 ·refine Ap (gN rfl b) (Ap (gN rfl b) (Ap (gN rfl b) (l_v (Bt rfl b (v:=bT) rfl) (Ay bT (Ap (gN rfl rfl) (Ap (gN rfl rfl) (Ap (gN rfl rfl) (l_v (Bt rfl rfl (v:=bT) rfl) (l_k h (Co rfl rfl (w_q rfl rfl fun K5 N=>Arv (Bm (vs:=[]) (v:=bT) (Ee (Fl hg hnr)) Brz rfl rfl trivial ?_))))))))))))
  refine Av bT (l_k N (Aq (e _ _ _ (rT bT ?_))))
  rfl
 obtain⟨a5,w⟩:=Bdy b
 refine l_M (.string (bs k)) (gY rfl b) rfl (Aa (gY rfl b) (Ce Brs (p:=k) rfl) (Aa (gY rfl b) (Gl (p:=(k.length:Int)) (q:=100) rfl rfl) (l_v (Bn rfl b (v:=.bool (decide ((k.length:Int)>100))) rfl) (Ay (.bool (decide ((k.length:Int)>100))) (Cn (decide ((k.length:Int)>100)) (fun a=>?_) (fun a=>?_))))))
 ·have R:=lZ3 a
  refine Ap (gN rfl a) (Ap (gN rfl a) (Ap (gN rfl a) (l_v (Bt rfl a (v:=bT) rfl) (l_k h (Co rfl rfl (w_q rfl rfl fun K7 O=>Arv (Bm (vs:=[]) (v:=bT) (Ee (Fl hg hnr)) Brz rfl rfl trivial ?_)))))))
  refine Av bT (l_k O (Aq (e _ _ _ (rT bT ?_))))
  rfl
 have R:=lZ4 a
 refine l_M (.string (bs s)) (gY rfl a) rfl (Aa (gY rfl a) (Ce Brs (p:=s) rfl) (Aa (gY rfl a) (Gl (p:=(s.length:Int)) (q:=3000) rfl rfl) (l_v (Bn rfl a (v:=.bool (decide ((s.length:Int)>3000))) rfl) (l_k h (Bb (t:=decide ((s.length:Int)>3000)) rfl (fun f=>?_) (fun f=>?_))))))
 ·have T:=lZ3 f
  refine w_q rfl rfl fun K9 P=>Arv (Bm (vs:=[]) (v:=bT) (Ee (Fl hg hnr)) Brz rfl rfl trivial ?_)
  refine Av bT (l_k P (Aq (e _ _ _ (rT bT ?_))))
  rfl
 have T:=lZ4 f
 refine Al (kk M ?_)
 refine w_q rfl rfl fun X F=>Ay (.string (bs k)) (Ay vl (Arv (Bm (vs:=[.string (bs k),vl]) (v:=.tuple #[.string (bs (Au k ls)),iV (Bw k ls)]) (Abc (k:=k) (by omega) rl w) Tryz.func8 rfl rfl ⟨rfl,rfl,trivial⟩ ?_)))
 refine Ay (.tuple #[.string (bs (Au k ls)),iV (Bw k ls)]) (l_v (Bk (vs:=#[.string (bs (Au k ls)),iV (Bw k ls)]) rfl (v:=.string (bs (Au k ls))) rfl) (l_v (Bk (vs:=#[.string (bs (Au k ls)),iV (Bw k ls)]) rfl (v:=iV (Bw k ls)) rfl) (Av (.string (bs (Au k ls))) (Av (iV (Bw k ls)) (Arx rfl rfl F fun Y G=>Ay (.string (bs k)) (Ay vl (Arv (Bm (vs:=[.string (bs k),vl]) (v:=.tuple #[.string (bs (Au k ls)),iV (Bw k ls)]) (Bbs (k:=k) (by omega) rl w) Tryz.func9 rfl rfl ⟨rfl,rfl,trivial⟩ ?_))))))))
 refine Ay (.tuple #[.string (bs (Au k ls)),iV (Bw k ls)]) (l_v (Bk (vs:=#[.string (bs (Au k ls)),iV (Bw k ls)]) rfl (v:=.string (bs (Au k ls))) rfl) (l_v (Bk (vs:=#[.string (bs (Au k ls)),iV (Bw k ls)]) rfl (v:=iV (Bw k ls)) rfl) (Av (.string (bs (Au k ls))) (Av (iV (Bw k ls)) (Ary rfl rfl G fun Z a0 H I=>Ay (.string (bs (Au k ls))) (Ay (.string (bs (Au k ls))) (l_v (Qc (p:=Au k ls) (q:=Au k ls) rfl rfl) (Ay (.bool ((Au k ls) != (Au k ls))) (l_M (iV (Bw k ls)) (gY rfl (by simp)) rfl (l_M (iV (Bw k ls)) (gY rfl (by simp)) rfl (Aa (gY rfl (by simp)) (Dg rfl rfl) (l_v (Bn rfl (by simp) (v:=.bool ((Bw k ls) != (Bw k ls))) rfl) (l_k I (Cg rfl (by simp) (Al (kk H ?_))))))))))))))))
 refine w_q rfl rfl fun a1 J=>Ay (.string (bs s)) (Arv (Cm (vs:=[.string (bs s)]) (Ye (s:=s) (by omega)) Bsk rfl rfl ⟨rfl,trivial⟩ fun a7 a9 ac z=>?_))
 obtain⟨y,c,a4,C,g,D,_⟩:=z
 subst C D
 replace hg:=GlobK.mono y hg
 refine Ay (.tuple #[.string (bs ((Ba s).1)),c,iV ((Ba s).2.2.1),iV ((Ba s).2.2.2)]) (l_v (Bk (vs:=#[.string (bs ((Ba s).1)),c,iV ((Ba s).2.2.1),iV ((Ba s).2.2.2)]) rfl (v:=.string (bs ((Ba s).1))) rfl) (l_v (Bk (vs:=#[.string (bs ((Ba s).1)),c,iV ((Ba s).2.2.1),iV ((Ba s).2.2.2)]) rfl (v:=c) rfl) (l_v (Bk (vs:=#[.string (bs ((Ba s).1)),c,iV ((Ba s).2.2.1),iV ((Ba s).2.2.2)]) rfl (v:=iV ((Ba s).2.2.1)) rfl) (l_v (Bk (vs:=#[.string (bs ((Ba s).1)),c,iV ((Ba s).2.2.1),iV ((Ba s).2.2.2)]) rfl (v:=iV ((Ba s).2.2.2)) rfl) (Av (.string (bs ((Ba s).1))) (Av c (Av (iV ((Ba s).2.2.1)) (Av (iV ((Ba s).2.2.2)) (Arx rfl rfl J fun a2 K=>Ay (.string (bs s)) (Arv (Cm (vs:=[.string (bs s)]) (Bhc (s:=s) (by omega)) Tryz.func11 rfl rfl ⟨rfl,trivial⟩ fun a8 aa ad B=>?_)))))))))))
 obtain⟨i,u,d,V,m⟩:=B
 replace u:=u.symm;subst u V
 replace hg:=GlobK.mono i hg
 replace g:=Grow.mono i g
 refine Ay (.tuple #[.string (bs ((Ba s).1)),d,iV ((Ba s).2.2.1),iV ((Ba s).2.2.2)]) (l_v (Bk (vs:=#[.string (bs ((Ba s).1)),d,iV ((Ba s).2.2.1),iV ((Ba s).2.2.2)]) rfl (v:=.string (bs ((Ba s).1))) rfl) (l_v (Bk (vs:=#[.string (bs ((Ba s).1)),d,iV ((Ba s).2.2.1),iV ((Ba s).2.2.2)]) rfl (v:=d) rfl) (l_v (Bk (vs:=#[.string (bs ((Ba s).1)),d,iV ((Ba s).2.2.1),iV ((Ba s).2.2.2)]) rfl (v:=iV ((Ba s).2.2.1)) rfl) (l_v (Bk (vs:=#[.string (bs ((Ba s).1)),d,iV ((Ba s).2.2.1),iV ((Ba s).2.2.2)]) rfl (v:=iV ((Ba s).2.2.2)) rfl) (Av (.string (bs ((Ba s).1))) (Av d (Av (iV ((Ba s).2.2.1)) (Av (iV ((Ba s).2.2.2)) (Arx rfl rfl K fun a3 L=>Ay (.string (bs ((Ba s).1))) (Ay (.string (bs ((Ba s).1))) (l_v (Us (p:=(Ba s).1) (q:=(Ba s).1) rfl rfl) (Ay (.bool ((((Ba s).1))==((Ba s).1))) (l_M c (gY rfl (by simp)) rfl (l_M d (gY rfl (by simp)) rfl (Ca g fun ab j U=>?_)))))))))))))))
 replace hg:=GlobK.mono j hg
 replace m:=Val.mono j m
 refine Ae (gY rfl (by simp)) (Bm (vs:=[c,d]) (v:=bT) (Alb (x:=(Ba s).2.1) U m) Tryz.func12 rfl rfl ⟨rfl,rfl,trivial⟩ ?_)
 refine l_v (Bt rfl (by simp) (v:=bT) rfl) (Ay bT (l_M (iV ((Ba s).2.2.1)) (gY rfl rfl) rfl (l_M (iV ((Ba s).2.2.1)) (gY rfl rfl) rfl (Aa (gY rfl rfl) (Ek rfl rfl) (l_v (Bt rfl rfl (v:=.bool ((Ba s).2.2.1==(Ba s).2.2.1)) rfl) (Ay (.bool ((Ba s).2.2.1==(Ba s).2.2.1)) (l_M (iV ((Ba s).2.2.2)) (gY rfl (by simp)) rfl (l_M (iV ((Ba s).2.2.2)) (gY rfl (by simp)) rfl (Aa (gY rfl (by simp)) (Ek rfl rfl) (l_v (Bt rfl (by simp) (v:=.bool ((Ba s).2.2.2==(Ba s).2.2.2)) rfl) (Ay (.bool ((Ba s).2.2.2==(Ba s).2.2.2)) (Ae (gY rfl (by simp)) (Bm (vs:=[]) (v:=bT) (Ee (Fl hg hnr)) Brz rfl rfl trivial ?_)))))))))))))
 refine l_v (Bt rfl (by simp) (v:=bT) rfl) (Av bT (l_k L (Aj (Ghost.forget (Bsz (Bsz y i) j)) (Aq (e _ _ _ (rT bT ?_))))))
 rfl
end
section
open Go
def Pe(p:List UInt8):Prop:=∀x∈p,x≠10
section
variable{p q u v x y r r':List UInt8}
theorem Biw(h:Pe (p++q)):Pe p:=fun x hx=>h x (Lb _ hx)
theorem Aqq(h:Pe (p++q)):Pe q:=fun x hx=>h x (Ix _ hx)
theorem Aty(h:Pe p)(h':Pe q):Pe (p++q):=fun x hx=>(Fb.1 hx).elim (h x) (h' x)
theorem Bku:¬Pe (p++10::q):=fun h=>h 10 (Ix _ mC) rfl
theorem Afi:∀{p q:List UInt8},Pe p→Pe q→p++10::r=q++10::r'→p=q∧r=r'
 | [],[],_,_,h=>⟨rfl,by simpa using h⟩
 | [],b::q,_,hq,h=>by simp only[Pj,Nu,List.cons.injEq]at h;exact absurd h.1.symm (hq b mC)
 | a::p,[],hp,_,h=>by simp only[Pj,Nu,List.cons.injEq]at h;exact absurd h.1 (hp a mC)
 | a::p,b::q,hp,hq,h=>by
  simp only[Nu,List.cons.injEq]at h
  obtain⟨h1,h2⟩:=Afi (p:=p) (q:=q) (fun x hx=>hp x (lZ0 _ hx)) (fun x hx=>hq x (lZ0 _ hx)) h.2
  exact⟨by rw[h.1,h1],h2⟩
/-- A line feed before them,or they are of the first line. -/
theorem Bmz(hp:Pe p)(hx:Pe x)(hx0:x≠[])(h:u++(x++v)=p++10::r):(∃w,u=p++10::w∧r=w++(x++v))∨(∃w,p=u++(x++w)∧v=w++10::r):=by
 rcases Avo.1 h with⟨a,g,d⟩|⟨a,g,d⟩
 ·rcases Avo.1 d with⟨b,e,f⟩|⟨b,e,f⟩
  ·exact .inr ⟨b,by rw[g,e],f⟩
  ·cases b with
   | nil=>exact .inr ⟨[],by rw[g,e];simp,by simpa using f.symm⟩
   | cons c b =>
    simp only[Nu,List.cons.injEq]at f
    rw[←f.1]at e
    exact absurd (e ▸ hx) Bku
 ·cases a with
  | nil =>
   cases x with
   | nil=>exact absurd rfl hx0
   | cons b x =>
    simp only[Pj,Nu,List.cons.injEq]at d
    exact absurd d.1.symm (hx b mC)
  | cons c a =>
   simp only[Nu,List.cons.injEq]at d
   exact .inl ⟨a,by rw[g,←d.1],d.2⟩
theorem Beh(hp:Pe p)(h:u++10::v=p++10::r):(u=p∧v=r)∨∃w,u=p++10::w∧r=w++10::v:=by
 rcases Avo.1 h with⟨a,d,b⟩|⟨a,d,b⟩
 ·cases a with
  | nil=>exact .inl ⟨by simpa using d.symm,by simpa using b⟩
  | cons c a =>
   simp only[Nu,List.cons.injEq]at b
   rw[d,←b.1]at hp
   exact absurd hp Bku
 ·cases a with
  | nil=>exact .inl ⟨by simpa using d,by simpa using b.symm⟩
  | cons c a =>
   simp only[Nu,List.cons.injEq]at b
   exact .inr ⟨a,by rw[d,←b.1],b.2⟩
end
theorem Xd{a:ByteArray}(h:Fc a=true):Dd a.data.toList=true:=by unfold Fc at h;simp only[Fd]at h;exact h.2
theorem Qg{a:ByteArray}{ls:List ByteArray}{n:Nat}:Ez (a::ls) n=Es n a.data.toList++10::Ez ls (n+1):=by rw[Ez,Mb];simp
/-- What differs at one place differs in one line. -/
theorem Afl{x y:List UInt8}(hx:Pe x)(hy:Pe y)(hx0:x≠[])(H:∀n p p' u v,Dd p=true→Dd p'=true→Es n p=u++(x++v)→Es n p'=u++(y++v)→False) :
  ∀{ls ls':List ByteArray} {n:Nat} {u v:List UInt8},ls.all Fc=true→ls'.all Fc=true→Ez ls n=u++(x++v)→Ez ls' n=u++(y++v)→y≠[]→False
 | [],_,n,u,v,_,_,h,_,_=>by simp[Ez]at h;exact hx0 h.2.1
 | _::_,[],n,u,v,_,_,_,h,hy0=>by simp[Ez]at h;exact hy0 h.2.1
 | a::ls,b::ls',n,u,v,ha,hb,h,h',hy0=>by
  rw[Un,Fd]at ha hb
  have pa:=Xd ha.1
  have pb:=Xd hb.1
  have na:Pe (Es n a.data.toList):=Nh pa
  have nb:Pe (Es n b.data.toList):=Nh pb
  rw[Qg]at h h'
  rcases Bmz na hx hx0 h.symm with⟨w,c,d⟩|⟨w,c,d⟩
  ·rw[c,lZ9,Nu]at h'
   obtain⟨_,g⟩:=Afi nb na h'
   exact Afl hx hy hx0 H ha.2 hb.2 d g hy0
  ·have e:u++(y++v)=(u++(y++w))++10::Ez ls (n+1):=by rw[d];simp
   rw[e]at h'
   have nw:Pe (u++(y++w)):=by
    rw[c]at na
    exact Aty (Biw na) (Aty hy (Aqq (Aqq na)))
   obtain⟨f,_⟩:=Afi nb nw h'
   exact H n _ _ _ _ pa pb c f
theorem Bbu:∀c,c<97→∀d,d<97→Gh c=Gh d→c=d:=by decide +kernel
theorem Bed:∀d,d<95→∀w,w<96→d≠0→(d*(w+1))%97≠0:=by decide +kernel
theorem Bjy{a c w X n:Nat}(ha:32≤a∧a≤126)(hc:32≤c∧c≤126)(hw:w<96)(h:(7*n+(X+a*(w+1)))%97=(7*n+(X+c*(w+1)))%97):a=c:=by
 rcases Nat.lt_trichotomy a c with h1|h1|h1
 ·exfalso
  obtain⟨d,rfl⟩:=Nat.exists_eq_add_of_lt h1
  have e:(a+d+1)*(w+1)=a*(w+1)+(d+1)*(w+1):=by rw[show a+d+1=a+(d+1) by omega,Pp]
  have:=Bed (d+1) (by omega) w hw (by omega)
  omega
 ·exact h1
 ·exfalso
  obtain⟨d,rfl⟩:=Nat.exists_eq_add_of_lt h1
  have e:(c+d+1)*(w+1)=c*(w+1)+(d+1)*(w+1):=by rw[show c+d+1=c+(d+1) by omega,Pp]
  have:=Bed (d+1) (by omega) w hw (by omega)
  omega
theorem Bjz{a c i X n:Nat}(ha:32≤a∧a≤126)(hc:32≤c∧c≤126)(h:(7*n+(X+(a*(i%96+1)+c*((i+1)%96+1))))%97=(7*n+(X+(c*(i%96+1)+a*((i+1)%96+1))))%97):a=c:=by
 rcases Mg (i%96) 95 with h1|h1
 ·rw[show (i+1)%96=i%96+1 by omega]at h
  have b:a*(i%96+1+1)=a*(i%96+1)+a:=by rw[Nat.mul_succ]
  have d:c*(i%96+1+1)=c*(i%96+1)+c:=by rw[Nat.mul_succ]
  omega
 ·rw[show i%96=95 by omega,show (i+1)%96=0 by omega]at h
  omega
theorem Awv{p:List UInt8}{c:UInt8}(h:Dd p=true)(hc:c∈p):32≤c.toNat∧c.toNat≤126:=by
 have:=Hs.1 h c hc
 unfold pcC at this
 simpa using this
section
variable{n:Nat}{p p' u v:List UInt8}{a c:UInt8}
theorem Aqj(hl:p.length=p'.length){x y:List UInt8}(hxy:x.length=y.length)(h:Es n p=u++(x++v))(h':Es n p'=u++(y++v))(hu:p.length≤u.length):x=y:=by
 have e:p=p':=by
  have a:(Es n p).take p.length=p:=Aqi
  have b:(Es n p').take p.length=p':=by rw[hl];exact Aqi
  rw[←a,←b,h,h',Biq hu,Biq hu]
 rw[e,h']at h
 exact(List.append_inj (List.append_cancel_left h) hxy.symm).1.symm
theorem Axg{w w':List UInt8}{c c':Nat}(hl:w.length=w'.length)(hc:c<97)(hc':c'<97)(h:w++([32,35]++Gh c)=w'++([32,35]++Gh c')):w=w'∧c=c':=by
 obtain⟨b,d⟩:=List.append_inj h hl
 exact⟨b,Bbu c hc c' hc' (List.append_cancel_left d)⟩
/-- The part of a line that lies in its text. -/
theorem Abh{x:List UInt8}(h:Es n p=u++(x++v))(hu:u.length+x.length≤p.length):∃w,p=u++(x++w)∧v=w++([32,35]++Gh (Dr n p)):=by
 unfold Es at h
 rw[←lZ9 u x v]at h
 rcases Avo.1 h with⟨b,a,c⟩|⟨b,a,c⟩
 ·have:b=[]:=by
   have:=congrArg List.length a
   simp only[lZ1]at this
   exact Avq.1 (by omega)
  subst this
  exact⟨[],by rw[Lz]at a;rw[Lz];exact a.symm,by simpa using c.symm⟩
 ·exact⟨b,by rw[a,lZ9],c⟩
theorem Bds{x y:List UInt8}(hxy:x.length=y.length)(h:Es n p=u++(x++v))(h':Es n p'=u++(y++v)):p.length=p'.length:=by
 have a:=congrArg List.length h
 have b:=congrArg List.length h'
 rw[Ts]at a b
 simp only[lZ1]at a b
 omega
theorem Bdu(hac:a≠c)(hp:Dd p=true)(hp':Dd p'=true)(h:Es n p=u++([a]++v))(h':Es n p'=u++([c]++v)):False:=by
 have hl:=Bds (x:=[a]) (y:=[c]) rfl h h'
 rcases Mg u.length p.length with hu|hu
 ·obtain⟨w,b,g⟩:=Abh (x:=[a]) h (by simp;omega)
  obtain⟨w',d,i⟩:=Abh (x:=[c]) h' (by simp;omega)
  have hw:w.length=w'.length:=by
   have e:=congrArg List.length b
   have f:=congrArg List.length d
   simp only[lZ1,lZ2,Dy]at e f
   omega
  obtain⟨rfl,hk⟩:=Axg hw (Mw ..) (Mw ..) (g.symm.trans i)
  unfold Dr at hk
  have ba:=Awv (c:=a) hp (by rw[b];simp)
  have bc:=Awv (c:=c) hp' (by rw[d];simp)
  rw[b,d,Me,Me,Me,Me]at hk
  simp only[Jd,Po,lZ2,Dy]at hk
  refine hac (UInt8.toNat_inj.1 (Bjy (w:=u.length%96) (X:=Jd u 0+Jd w (u.length+1)) (n:=n) ba bc (Ais _ (by omega)) ?_))
  rw[show Jd u 0+Jd w (u.length+1)+a.toNat*(u.length%96+1)=Jd u 0+(a.toNat*(u.length%96+1)+0+Jd w (u.length+1)) by omega,show Jd u 0+Jd w (u.length+1)+c.toNat*(u.length%96+1)=Jd u 0+(c.toNat*(u.length%96+1)+0+Jd w (u.length+1)) by omega]
  exact hk
 ·exact hac (by simpa using Aqj (x:=[a]) (y:=[c]) hl rfl h h' hu)
theorem Bdv(hac:a≠c)(hp:Dd p=true)(hp':Dd p'=true)(h:Es n p=u++([a,c]++v))(h':Es n p'=u++([c,a]++v)):False:=by
 have hl:=Bds (x:=[a,c]) (y:=[c,a]) rfl h h'
 rcases Mg u.length p.length with hu|hu
 ·rcases Mg (u.length+1) p.length with hu1|hu1
  ·obtain⟨w,f,k⟩:=Abh (x:=[a,c]) h (by simp;omega)
   obtain⟨w',j,m⟩:=Abh (x:=[c,a]) h' (by simp;omega)
   have hw:w.length=w'.length:=by
    have e:=congrArg List.length f
    have g:=congrArg List.length j
    simp only[lZ1,lZ2]at e g
    omega
   obtain⟨rfl,hk⟩:=Axg hw (Mw ..) (Mw ..) (k.symm.trans m)
   unfold Dr at hk
   have ba:=Awv (c:=a) hp (by rw[f];simp)
   have bc:=Awv (c:=c) hp (by rw[f];simp)
   rw[f,j,Me,Me,Me,Me]at hk
   simp only[Jd,Po,lZ2,Dy]at hk
   refine hac (UInt8.toNat_inj.1 (Bjz (i:=u.length) (X:=Jd u 0+Jd w (u.length+2)) (n:=n) ba bc ?_))
   rw[show Jd u 0+Jd w (u.length+2)+(a.toNat*(u.length%96+1)+c.toNat*((u.length+1)%96+1))=Jd u 0+(a.toNat*(u.length%96+1)+(c.toNat*((u.length+1)%96+1)+0)+Jd w (u.length+2)) by omega,show Jd u 0+Jd w (u.length+2)+(c.toNat*(u.length%96+1)+a.toNat*((u.length+1)%96+1))=Jd u 0+(c.toNat*(u.length%96+1)+(a.toNat*((u.length+1)%96+1)+0)+Jd w (u.length+2)) by omega]
   exact hk
  ·have key:∀{q:List UInt8} {b d:UInt8},q.length=u.length+1→Es n q=u++([b,d]++v)→d=32:=by
    intro q b d hq hh
    have e:(Es n q)[u.length+1]?=some 32:=by
     unfold Es
     rw[Bcw (by omega),hq,Aek];rfl
    have g:(u++([b,d]++v))[u.length+1]?=some d:=by
     rw[Bcw (by omega),Nat.add_sub_cancel_left];rfl
    rw[hh,g]at e
    exact Option.some.inj e
   exact hac ((key (by omega) h').trans (key (by omega) h).symm)
 ·exact hac (by have:=Aqj (x:=[a,c]) (y:=[c,a]) hl rfl h h' hu;simp at this;exact this.1)
end
theorem Ayq{k:List UInt8}{ls:List ByteArray}:Pb k ls=Ez (bs (Hl k ls.length)::ls) 0:=rfl
theorem Ox{k:List UInt8}{ls:List ByteArray}(h:Bw k ls=0):Hg (bs k)=true∧ls.length≤90∧ls.all Fc=true∧Au k ls=Pb k ls:=by
 have hk:Hg (bs k)=true:=by
  cases hk:Hg (bs k) with
  | true=>rfl
  | false=>rw[(Ano hk).1]at h;cases h
 have hl:ls.length≤90:=by
  rcases Mg 90 ls.length with hl|hl
  ·rw[(Ann hk hl).1]at h;cases h
  ·exact hl
 have ho:ls.all Fc=true:=by
  cases ho:ls.all Fc with
  | true=>rfl
  | false=>rw[(Zn hk hl ho).1]at h;cases h
 exact⟨hk,hl,ho,(Agp hk hl ho).2⟩
section
variable{k k':List UInt8}{ls ls':List ByteArray}
theorem To(h:Bw k ls=0):(bs (Hl k ls.length)::ls).all Fc=true:=by
 obtain⟨a,b,c,_⟩:=Ox h
 rw[Un,c,Amy]
 unfold Fc
 rw[Abb,Sf a b,Lg (by have:=Ys a b;omega)];rfl
theorem Adl:∀{ls:List ByteArray} {n:Nat},ls.all Fc=true→(Ez ls n).count 10=ls.length
 | [],n,_=>rfl
 | a::ls,n,h=>by
  rw[Un,Fd]at h
  rw[Qg,Apu,List.count_cons_self,Adl h.2,Bcv fun hx=>Nh (Xd h.1) 10 hx rfl,lZ2]
  omega
theorem Aom(h:Hg (bs k)=true){n:Nat}(hn:n≤90):(Es 0 (Hl k n)).count 32=3:=by
 have e:=(Tw h).2.2
 have f:=(Ado n (by omega)).2.2.1
 have a:k.count 32=0:=Bcv fun hx=>(e _ hx).1 rfl
 have b:(Ew n).count 32=0:=Bcv fun hx=>by
  have:=Hs.1 f _ hx
  simp at this
 have d:∀c,c<97→(Gh c).count 32=0:=by decide +kernel
 unfold Es Hl
 simp only[Apu,a,b,d _ (Mw ..)]
 rfl
theorem Bic(h:Hg (bs k)=true)(h':Hg (bs k')=true){n n':Nat}(hn:n≤90)(hn':n'≤90)(e:Hl k n=Hl k' n'):n=n':=by
 have a:=(Sg h hn).symm.trans ((congrArg Cu e).trans (Sg h' hn'))
 simp only[List.cons.injEq,and_true,true_and]at a
 have b:=(Ado n (by omega)).2.1
 have c:=(Ado n' (by omega)).2.1
 rw[a.2,c]at b
 omega
/-- No line feed is put in the place of another byte. -/
theorem Avl{u v:List UInt8}{c:UInt8}(h:Bw k ls=0)(h':Bw k' ls'=0)(hc:c≠10)(e:Pb k ls=u++10::v)(e':Pb k' ls'=u++c::v):False:=by
 have ho:=To h
 have ho':=To h'
 obtain⟨f,i,_,_⟩:=Ox h
 obtain⟨g,j,_,_⟩:=Ox h'
 rw[Ayq]at e e'
 have hn:ls.length=ls'.length+1:=by
  have y:=Adl (n:=0) ho
  have b:=Adl (n:=0) ho'
  rw[e,Apu,List.count_cons_self,lZ2]at y
  rw[e',Apu,List.count_cons_of_ne hc,lZ2]at b
  omega
 rw[Qg,Abb]at e e'
 have m:Pe (Es 0 (Hl k ls.length)):=Nh (Sf f i)
 have t:Pe (Es 0 (Hl k' ls'.length)):=Nh (Sf g j)
 rcases Beh m e.symm with⟨hu,hv⟩|⟨w,hu,_⟩
 ·match ls,ho,hn with
  | a::l,ho,hn =>
   rw[Un,Un,Fd,Fd]at ho
   have na:Pe (Es 1 a.data.toList):=Nh (Xd ho.2.1)
   rw[hu,hv,Qg]at e'
   have b:=(Afi (r':=Ez l (0+1+1)) t (Aty m (p:=Es 0 (Hl k (a::l).length)) (q:=c::Es 1 a.data.toList) fun x hx=>(lZ8.1 hx).elim (fun hh=>hh ▸ hc) (na x)) (e'.trans (by simp))).1
   have d:=congrArg (List.count 32) b
   rw[Apu,Aom f i,Aom g j,List.count_cons]at d
   have z:1≤(Es 1 a.data.toList).count 32:=List.count_pos_iff.2 (by unfold Es;simp)
   omega
 ·rw[hu,lZ9,Nu]at e'
  have b:=(Afi t m e').1
  have d:Hl k' ls'.length=Hl k ls.length:=by
   have:=congrArg (fun l=>(l++[10]:List UInt8)) b
   simp only[←Mb]at this
   rw[←Ma (n:=0) (p:=Hl k' ls'.length),this,Ma]
  have:=Bic g f j i d
  omega
/-- A byte that was replaced is seen. -/
theorem Bce{u v:List UInt8}{a c:UInt8}(h:Bw k ls=0)(h':Bw k' ls'=0)(hac:a≠c)(e:Pb k ls=u++a::v)(e':Pb k' ls'=u++c::v):False:=by
 by_cases ha:a=10
 ·subst ha;exact Avl h h' (Ne.symm hac) e e'
 ·by_cases hc:c=10
  ·subst hc;exact Avl h' h ha e' e
  ·exact Afl (x:=[a]) (y:=[c]) (fun x hx=>by simp at hx;rw[hx];exact ha) (fun x hx=>by simp at hx;rw[hx];exact hc) (by simp) (fun n p p' u v hp hp' b d=>Bdu hac hp hp' b d) (To h) (To h') e e' (by simp)
/-- Neighbours that were exchanged are seen. -/
theorem Bcf{u v:List UInt8}{a c:UInt8}(h:Bw k ls=0)(h':Bw k' ls'=0)(hac:a≠c)(ha:a≠10)(hc:c≠10)(e:Pb k ls=u++a::c::v)(e':Pb k' ls'=u++c::a::v):False :=
 Afl (x:=[a,c]) (y:=[c,a]) (fun x hx=>by simp at hx;rcases hx with rfl|rfl<;>assumption) (fun x hx=>by simp at hx;rcases hx with rfl|rfl<;>assumption) (by simp) (fun n p p' u v hp hp' b d=>Bdv hac hp hp' b d) (To h) (To h') e e' (by simp)
theorem Axa{s t:List UInt8}(hs:Bw k ls=0)(H:∀k' ls',Bw k' ls'=0→Pb k' ls'=t→False):(Ba t).2.2.2≠0:=by
 intro hf
 have e:Ba t=((Ba t).1,(Ba t).2.1,(Ba t).2.2.1,0):=by rw[←hf]
 obtain⟨a,b,_⟩:=Agq e
 exact H _ _ a ((Ox a).2.2.2.symm.trans b)
end
end
section
open Go
theorem Ari(s:List UInt8):Ba s=((Ba s).1,(Ba s).2.1,(Ba s).2.2.1,(Ba s).2.2.2):=rfl
theorem Awz{s:List UInt8}(h:(Ba s).2.2.2≠0):(Ba s).1=[]∧(Ba s).2.1=[]:=Bad (Ari s) h
theorem Bfo{s:List UInt8}(h:(Ba s).2.2.2=0):Bw (Ba s).1 (Ba s).2.1=0∧Au (Ba s).1 (Ba s).2.1=s∧(Ba s).2.2.1=0∧(Ba s).1.length≤50000∧∀(j:Nat) (a:ByteArray),(Ba s).2.1[j]?=some a→a.data.toList.length≤60000:=by
 have e:=Ari s
 rw[h]at e
 obtain⟨b,c,d⟩:=Agq e
 obtain⟨f,_,g,_⟩:=Ox b
 refine⟨b,c,d,by have:=(Tw f).2.1;omega,fun j a ha=>?_⟩
 have:=Hs.1 g a (lZ6 ha)
 unfold Fc at this
 simp only[Fd,decide_eq_true_eq]at this
 omega
theorem Aoe{W0:World}{ρ:Ro}{σ:Own}{s:List UInt8}(hg:GlobK ρ)(hnr:NoRecv σ):Agd (CY W0) 5 2 [.string (bs s)] ρ σ (rP ρ σ bT):=by
 refine Aku (n:=51) Tryz.func5 rfl rfl rfl rfl fun Q h a0=>w_q rfl rfl fun M x=>Av bF (Ary rfl rfl x fun R T C D=>Ay (.string (bs s)) (l_v (Ce Brs (p:=s) rfl) (l_v (Gl (p:=(s.length:Int)) (q:=3000) rfl rfl) (l_k D (Bb (t:=decide ((s.length:Int)>3000)) rfl (fun g=>?_) (fun g=>?_))))))
 ·have K:=lZ3 g
  refine w_q rfl rfl fun U E=>Arv (Bm (vs:=[]) (v:=bT) (Ee (Fl hg hnr)) Brz rfl rfl trivial ?_)
  refine Av bT (l_k E (Aq (h _ _ _ (rT bT ?_))))
  rfl
 have K:=lZ4 g
 refine Al (kk C ?_)
 refine w_q rfl rfl fun V F=>Ay (.string (bs s)) (Arv (Cm (vs:=[.string (bs s)]) (Ye (s:=s) (by omega)) Bsk rfl rfl ⟨rfl,trivial⟩ fun w7 a4 a5 m=>?_))
 obtain⟨i,a,Z,u,f,w,_⟩:=m
 subst u w
 replace hg:=GlobK.mono i hg
 refine Ay (.tuple #[.string (bs ((Ba s).1)),a,iV ((Ba s).2.2.1),iV ((Ba s).2.2.2)]) (l_v (Bk (vs:=#[.string (bs ((Ba s).1)),a,iV ((Ba s).2.2.1),iV ((Ba s).2.2.2)]) rfl (v:=.string (bs ((Ba s).1))) rfl) (l_v (Bk (vs:=#[.string (bs ((Ba s).1)),a,iV ((Ba s).2.2.1),iV ((Ba s).2.2.2)]) rfl (v:=a) rfl) (l_v (Bk (vs:=#[.string (bs ((Ba s).1)),a,iV ((Ba s).2.2.1),iV ((Ba s).2.2.2)]) rfl (v:=iV ((Ba s).2.2.1)) rfl) (l_v (Bk (vs:=#[.string (bs ((Ba s).1)),a,iV ((Ba s).2.2.1),iV ((Ba s).2.2.2)]) rfl (v:=iV ((Ba s).2.2.2)) rfl) (Av (.string (bs ((Ba s).1))) (Av a (Av (iV ((Ba s).2.2.1)) (Av (iV ((Ba s).2.2.2)) (Ary rfl rfl F fun W X G H=>Ay (iV ((Ba s).2.2.2)) (l_v (Dg rfl rfl) (l_k H (Bb (t:=(Ba s).2.2.2 != 0) rfl (fun e=>?_) (fun e=>?_)))))))))))))
 ·obtain⟨c,d⟩:=Awz (Ls e)
  have J:=Ls e
  refine w_q rfl rfl fun N y=>Ay (.string (bs ((Ba s).1))) (l_v (Us (p:=(Ba s).1) (q:=([]:List UInt8)) rfl rfl) (Ay (.bool ((((Ba s).1))==([]:List UInt8))) (l_M a (gY rfl (by simp[c,d])) rfl ?_)))
  have Y:=Grow.len f
  refine Aa (gY rfl (by simp[c,d])) (Ajw (el':=9) Brt rfl f) (Aa (gY rfl (by simp[c,d])) (Ek rfl rfl) (l_v (Bt rfl (by simp[c,d]) (v:=.bool (((((Ba s).2.1).length:Nat):Int)==0)) rfl) (Ay (.bool (((((Ba s).2.1).length:Nat):Int)==0)) (Ae (gY rfl (by simp[c,d])) (Bm (vs:=[]) (v:=bT) (Ee (Fl hg (Hx f hnr))) Brz rfl rfl trivial ?_)))))
  refine l_v (Bt rfl (by simp[c,d]) (v:=bT) rfl) (Av bT (l_k y (Hc f fun a2 I a1=>Aj (Ghost.forget (Bsz i I)) (Aq (h _ _ _ (rT bT ?_))))))
  rfl
 obtain⟨hwf,hws,b,hkl,hll⟩:=Bfo (Jh e)
 have J:=Jh e
 refine Al (kk G ?_)
 refine w_q rfl rfl fun O z=>Ay (.string (bs ((Ba s).1))) (Ay a (Ca f fun a3 j L=>?_))
 replace hg:=GlobK.mono j hg
 refine Arv (Bm (vs:=[.string (bs ((Ba s).1)),a]) (v:=.tuple #[.string (bs (Au ((Ba s).1) ((Ba s).2.1))),iV (Bw ((Ba s).1) ((Ba s).2.1))]) (Abc (k:=(Ba s).1) hkl L hll) Tryz.func8 rfl rfl ⟨rfl,rfl,trivial⟩ ?_)
 refine Ay (.tuple #[.string (bs (Au ((Ba s).1) ((Ba s).2.1))),iV (Bw ((Ba s).1) ((Ba s).2.1))]) (l_v (Bk (vs:=#[.string (bs (Au ((Ba s).1) ((Ba s).2.1))),iV (Bw ((Ba s).1) ((Ba s).2.1))]) rfl (v:=.string (bs (Au ((Ba s).1) ((Ba s).2.1)))) rfl) (l_v (Bk (vs:=#[.string (bs (Au ((Ba s).1) ((Ba s).2.1))),iV (Bw ((Ba s).1) ((Ba s).2.1))]) rfl (v:=iV (Bw ((Ba s).1) ((Ba s).2.1))) rfl) (Av (.string (bs (Au ((Ba s).1) ((Ba s).2.1)))) (Av (iV (Bw ((Ba s).1) ((Ba s).2.1))) (Arx rfl rfl z fun P B=>Ay (iV (Bw ((Ba s).1) ((Ba s).2.1))) (l_v (Ek rfl rfl) (Ay (.bool ((Bw ((Ba s).1) ((Ba s).2.1))==0)) (l_M (iV ((Ba s).2.2.1)) (gY rfl (by simp[hwf,hws,b])) rfl (Aa (gY rfl (by simp[hwf,hws,b])) (Ek rfl rfl) (l_v (Bt rfl (by simp[hwf,hws,b]) (v:=.bool ((Ba s).2.2.1==0)) rfl) (Ay (.bool ((Ba s).2.2.1==0)) (l_M (.string (bs (Au ((Ba s).1) ((Ba s).2.1)))) (gY rfl (by simp[hwf,hws,b])) rfl (l_M (.string (bs s)) (gY rfl (by simp[hwf,hws,b])) rfl (Aa (gY rfl (by simp[hwf,hws,b])) (Us (p:=Au ((Ba s).1) ((Ba s).2.1)) (q:=s) rfl rfl) (l_v (Bt rfl (by simp[hwf,hws,b]) (v:=.bool (((Au ((Ba s).1) ((Ba s).2.1)))==s)) rfl) (Ay (.bool (((Au ((Ba s).1) ((Ba s).2.1)))==s)) (Ae (gY rfl (by simp[hwf,hws,b])) (Bm (vs:=[]) (v:=bT) (Ee (Fl hg hnr)) Brz rfl rfl trivial ?_))))))))))))))))))
 refine l_v (Bt rfl (by simp[hwf,hws,b]) (v:=bT) rfl) (Av bT (l_k B (Aj (Ghost.forget (Bsz i j)) (Aq (h _ _ _ (rT bT ?_))))))
 rfl
end
section
open Go
section
variable{k:List UInt8}{ls:List ByteArray}{i:Nat}{a c:UInt8}{t:List UInt8}
theorem Avd{s:List UInt8}(h:s[i]?=some a):s=s.take i++a::s.drop (i+1):=by rw[←Pa h,Aao]
theorem Ays(h:Bw k ls=0)(hi:(Au k ls)[i]?=some a)(hac:a≠c)(ht:t=(Au k ls).take i++c::(Au k ls).drop (i+1)):(Ba t).2.2.2≠0 :=
 Axa (s:=[]) h fun k' ls' h' e'=>Bce h h' hac ((Ox h).2.2.2.symm.trans (Avd hi)) (e'.trans ht)
theorem Ajs(h:Bw k ls=0)(hi:(Au k ls)[i]?=some a)(hj:(Au k ls)[i+1]?=some c)(hac:a≠c)(ha:a≠10)(hc:c≠10)(ht:t=(Au k ls).take i++c::a::(Au k ls).drop (i+1+1)):(Ba t).2.2.2≠0 :=
 Axa (s:=[]) h fun k' ls' h' e'=>Bcf h h' hac ha hc ((Ox h).2.2.2.symm.trans ((Avd hi).trans (by rw[Pa hj]))) (e'.trans ht)
theorem Bac(t:List UInt8):0≤(Ba t).2.2.1:=by
 have key:∀{L:List (List UInt8)} {n:Nat} {kd:List UInt8} {my ln f:Int} {xs:List ByteArray},Ot n kd my xs L = .inl (ln,f)→0≤ln:=by
  intro L
  induction L with
  | nil=>intro n kd my ln f xs h;simp only[Ot]at h;cases h
  | cons l L ih =>
   intro n kd my ln f xs h
   by_cases hf:rdF n l=0
   ·rw[Qw hf]at h;exact ih h
   ·rw[Sp hf]at h;cases h;omega
 unfold Ba
 split
 ·simp
 ·split
  ·rename_i h;exact key h
  ·split
   ·simp
   ·split<;>simp
end
theorem Akw{W0:World}{ρ:Ro}{σ:Own}{k:List UInt8}{ls:List ByteArray}{vl:Value}{wh:Nat}{c:UInt8}(hg:GlobK ρ)(hnr:NoRecv σ)(rl:Val ρ vl ls)(hwh:wh<65536):Agd (CY W0) 4 8 [.string (bs k),vl,.int .u16 (wh:Int),.int .u8 (c.toNat:Int)] ρ σ (rP ρ σ bT):=by
 refine Aku (n:=139) Tryz.func4 rfl rfl rfl rfl fun Q y cw=>w_q rfl rfl fun K1 k1=>Av bF (Ary rfl rfl k1 fun K2 K3 k2 k3=>Ay vl (Arv (Bm (vs:=[vl]) (v:=.bool (Ps ls)) (Bbr rl) Tryz.func6 rfl rfl ⟨rfl,trivial⟩ ?_)))
 refine Ay (.bool (Ps ls)) (Cn (Ps ls) (fun D=>?_) (fun D=>?_))
 ·refine Ap (gN rfl D) (Ap (gN rfl D) (Ap (gN rfl D) (l_v (Bt rfl D (v:=bT) rfl) (l_k k3 (Co rfl rfl (w_q rfl rfl fun K5 k5=>Arv (Bm (vs:=[]) (v:=bT) (Ee (Fl hg hnr)) Brz rfl rfl trivial ?_)))))))
  refine Av bT (l_k k5 (Aq (y _ _ _ (rT bT ?_))))
  rfl
 obtain⟨cv,ak⟩:=Bdy D
 refine l_M (.string (bs k)) (gY rfl D) rfl (Aa (gY rfl D) (Ce Brs (p:=k) rfl) (Aa (gY rfl D) (Gl (p:=(k.length:Int)) (q:=100) rfl rfl) (l_v (Bn rfl D (v:=.bool (decide ((k.length:Int)>100))) rfl) (l_k k3 (Bb (t:=decide ((k.length:Int)>100)) rfl (fun Y=>?_) (fun Y=>?_))))))
 ·have q6:=lZ3 Y
  refine w_q rfl rfl fun K7 k7=>Arv (Bm (vs:=[]) (v:=bT) (Ee (Fl hg hnr)) Brz rfl rfl trivial ?_)
  refine Av bT (l_k k7 (Aq (y _ _ _ (rT bT ?_))))
  rfl
 have q6:=lZ4 Y
 refine Al (kk k2 ?_)
 refine w_q rfl rfl fun K8 k8=>Ay (.string (bs k)) (Ay vl (Arv (Bm (vs:=[.string (bs k),vl]) (v:=.tuple #[.string (bs (Au k ls)),iV (Bw k ls)]) (Abc (k:=k) (by omega) rl ak) Tryz.func8 rfl rfl ⟨rfl,rfl,trivial⟩ ?_)))
 refine Ay (.tuple #[.string (bs (Au k ls)),iV (Bw k ls)]) (l_v (Bk (vs:=#[.string (bs (Au k ls)),iV (Bw k ls)]) rfl (v:=.string (bs (Au k ls))) rfl) (l_v (Bk (vs:=#[.string (bs (Au k ls)),iV (Bw k ls)]) rfl (v:=iV (Bw k ls)) rfl) (Av (.string (bs (Au k ls))) (Av (iV (Bw k ls)) (Ary rfl rfl k8 fun K9 c3 k9 a1=>Ay (iV (Bw k ls)) (l_v (Dg rfl rfl) (Ay (.bool ((Bw k ls) != 0)) (Cn ((Bw k ls) != 0) (fun B=>?_) (fun B=>?_)))))))))
 ·have hwn:Au k ls=[]:=Bas (Ls B)
  have bl:=Ls B
  refine Ap (gN rfl B) (Ap (gN rfl B) (Ap (gN rfl B) (l_v (Bt rfl B (v:=bT) rfl) (l_k a1 (Co rfl rfl (w_q rfl rfl fun c4 ar=>Arv (Bm (vs:=[]) (v:=bT) (Ee (Fl hg hnr)) Brz rfl rfl trivial ?_)))))))
  refine Av bT (l_k ar (Aq (y _ _ _ (rT bT ?_))))
  rfl
 have V:Bw k ls=0:=Jh B
 obtain⟨hwl,hrw⟩:=Auj V
 have bl:=Jh B
 refine l_M (.string (bs (Au k ls))) (gY rfl B) rfl (Aa (gY rfl B) (Ce Brs (p:=Au k ls) rfl) (Aa (gY rfl B) (Ek rfl rfl) (l_v (Bn rfl B (v:=.bool (((((Au k ls)).length:Nat):Int)==0)) rfl) (l_k a1 (Bb (t:=((((Au k ls)).length:Nat):Int)==0) rfl (fun N=>?_) (fun N=>?_))))))
 ·have bm:=Jr N
  refine w_q rfl rfl fun c5 au=>Arv (Bm (vs:=[]) (v:=bT) (Ee (Fl hg hnr)) Brz rfl rfl trivial ?_)
  refine Av bT (l_k au (Aq (y _ _ _ (rT bT ?_))))
  rfl
 have ag:0<(Au k ls).length:=by have:=Jq N;omega
 have hil:wh%(Au k ls).length<(Au k ls).length:=Ais _ ag
 have bm:=Jq N
 refine Al (kk k9 ?_)
 refine w_q rfl rfl fun c6 av=>Ay (.int .u16 (wh:Int)) (l_v (Acf (p:=(wh:Int)) (z:=(wh:Int)) Tryz.underlying32 Brw rfl wrR) (Ay (.string (bs (Au k ls))) (l_v (Ce Brs (p:=Au k ls) rfl) (l_v (Aah (p:=(wh:Int)) (q:=((((Au k ls)).length:Nat):Int)) rfl rfl (by omega) (z:=(((wh%((Au k ls)).length):Nat):Int)) rfl) (Av (iV (((wh%((Au k ls)).length):Nat):Int)) (Ary rfl rfl av fun c7 c8 a2 aw=>Ay (.string (bs (Au k ls))) (Ay (iV (((wh%((Au k ls)).length):Nat):Int)) ?_)))))))
 obtain⟨a,E⟩:=Nd (p:=Au k ls) (i:=wh%((Au k ls)).length) (by omega)
 have cx:=a.toNat_lt
 refine l_v (Cr (p:=Au k ls) (wh%((Au k ls)).length) a Brs rfl (q:=(((wh%((Au k ls)).length):Nat):Int)) rfl rfl E) (Ay (.int .u8 (c.toNat:Int)) (l_v (Dg rfl rfl) (l_k aw (Bb (t:=(a.toNat:Int) != (c.toNat:Int)) rfl (fun O=>?_) (fun O=>?_)))))
 ·have bn:=Ls O
  refine Ai fun c9 ax=>Agu (Bu 0 (zT 1 21) rfl (Ah (v:=.string (bs (Au k ls))) rfl) (Bu 1 (zT 2 20) rfl (Ah (v:=iV (((wh%((Au k ls)).length):Nat):Int)) rfl) (Bu 2 (zT 3 19) rfl (Lp (p:=Au k ls) (l:=0) (h:=wh%((Au k ls)).length) Brs rfl (.inl ⟨rfl,rfl⟩) (.inr ⟨_,rfl,rfl⟩) (by omega) (by omega)) (Bu 3 (zT 4 18) rfl (Ah (v:=.int .u8 (c.toNat:Int)) rfl) (Bu 7 [o1,o1,o1,o1,o0,o0,o0,o1,o0,o0,o0,o0,o0,o0,o0,o0,o0,o0,o0,o0,o0,o0] rfl (Ah (v:=.string (bs (Au k ls))) rfl) (Bu 8 [o1,o1,o1,o1,o0,o0,o0,o1,o1,o0,o0,o0,o0,o0,o0,o0,o0,o0,o0,o0,o0,o0] rfl (Ah (v:=iV (((wh%((Au k ls)).length):Nat):Int)) rfl) (Bu 9 [o1,o1,o1,o1,o0,o0,o0,o1,o1,o1,o0,o0,o0,o0,o0,o0,o0,o0,o0,o0,o0,o0] rfl (Br rfl rfl (z:=((((wh%((Au k ls)).length)+1):Nat):Int)) wrE) (Bu 10 [o1,o1,o1,o1,o0,o0,o0,o1,o1,o1,o1,o0,o0,o0,o0,o0,o0,o0,o0,o0,o0,o0] rfl (Lp (p:=Au k ls) (l:=(wh%((Au k ls)).length)+1) (h:=((Au k ls)).length) Brs rfl (.inr ⟨_,rfl,rfl⟩) (.inl ⟨rfl,rfl⟩) (by omega) (by omega)) (Rq 4 [o1,o1,o1,o1,o1,o0,o0,o1,o1,o1,o1,o0,o0,o0,o0,o0,o0,o0,o0,o0,o0,o0] rfl (Bi (α:=UInt8) (xs:=[c]) (vs:=[.int .u8 (c.toNat:Int)]) Bru ty5 zr5 rfl (by decide) (Dk (os:=[.tmp 52]) ⟨rfl,trivial⟩) ⟨Uq.2 rfl,trivial⟩ rfl (by decide) fun a3 ad aa=>⟨Bsy,?_⟩))))))))))
  have a7:Grow ρ 5 (.slice (some ⟨a3,0,none⟩) 1 1) ([c]:List UInt8) [(a3,oC ad.toArray 5)]:=Bs aa rfl (by decide)
  refine Lr a7 fun da C bz=>?_
  replace hg:=GlobK.mono C hg
  refine De 5 [o1,o1,o1,o1,o1,o1,o0,o1,o1,o1,o1,o0,o0,o0,o0,o0,o0,o0,o0,o0,o0,o0] rfl C rfl (Tf (el:=5) Bru Brs Brv rfl bz) (De 6 (zT 11 11) rfl C rfl (Jw (p:=(((Au k ls)).take (wh%((Au k ls)).length)).drop 0) (q:=([c]:List UInt8)) rfl rfl (by first|omega|(simp only[lZ1,lZ2,Dy,Ea,En]at *;omega))) (De 11 (zT 12 10) rfl C rfl (Jw (p:=((((Au k ls)).take (wh%((Au k ls)).length)).drop 0)++([c]:List UInt8)) (q:=(((Au k ls)).take (((Au k ls)).length)).drop ((wh%((Au k ls)).length)+1)) rfl rfl (by first|omega|(simp only[lZ1,lZ2,Dy,Ea,En]at *;omega))) (Rq 12 (zT 13 9) rfl (Cm (vs:=[.string (bs ((((((Au k ls)).take (wh%((Au k ls)).length)).drop 0)++([c]:List UInt8))++((((Au k ls)).take (((Au k ls)).length)).drop ((wh%((Au k ls)).length)+1))))]) (Ye (s:=(((((Au k ls)).take (wh%((Au k ls)).length)).drop 0)++([c]:List UInt8))++((((Au k ls)).take (((Au k ls)).length)).drop ((wh%((Au k ls)).length)+1))) (by simp only[lZ1,lZ2,Dy,Ea,En];omega)) Bsk rfl rfl ⟨rfl,trivial⟩ fun d7 c2 dm ah=>?_))))
  obtain⟨F,I,cs,al,j,ao,_⟩:=ah
  subst al ao
  replace hg:=GlobK.mono F hg
  refine⟨(Bsz C F),?_⟩
  have hfa:=Ays (k:=k) (ls:=ls) (t:=(((((Au k ls)).take (wh%((Au k ls)).length)).drop 0)++([c]:List UInt8))++((((Au k ls)).take (((Au k ls)).length)).drop ((wh%((Au k ls)).length)+1))) V E (fun e=>Ls O (by rw[e])) (by simp)
  obtain⟨hka,hla⟩:=Awz hfa
  have hna:=Bac ((((((Au k ls)).take (wh%((Au k ls)).length)).drop 0)++([c]:List UInt8))++((((Au k ls)).take (((Au k ls)).length)).drop ((wh%((Au k ls)).length)+1)))
  refine De 13 (zT 14 8) rfl (Bsz C F) rfl (Ah (v:=.tuple #[.string (bs ((Ba ((((((Au k ls)).take (wh%((Au k ls)).length)).drop 0)++([c]:List UInt8))++((((Au k ls)).take (((Au k ls)).length)).drop ((wh%((Au k ls)).length)+1)))).1)),I,iV ((Ba ((((((Au k ls)).take (wh%((Au k ls)).length)).drop 0)++([c]:List UInt8))++((((Au k ls)).take (((Au k ls)).length)).drop ((wh%((Au k ls)).length)+1)))).2.2.1),iV ((Ba ((((((Au k ls)).take (wh%((Au k ls)).length)).drop 0)++([c]:List UInt8))++((((Au k ls)).take (((Au k ls)).length)).drop ((wh%((Au k ls)).length)+1)))).2.2.2)]) rfl) (Pm (by kernel_rfl) (Bsz C F) Bsy (Bu 14 (zT 15 7) rfl (Bk (vs:=#[.string (bs ((Ba ((((((Au k ls)).take (wh%((Au k ls)).length)).drop 0)++([c]:List UInt8))++((((Au k ls)).take (((Au k ls)).length)).drop ((wh%((Au k ls)).length)+1)))).1)),I,iV ((Ba ((((((Au k ls)).take (wh%((Au k ls)).length)).drop 0)++([c]:List UInt8))++((((Au k ls)).take (((Au k ls)).length)).drop ((wh%((Au k ls)).length)+1)))).2.2.1),iV ((Ba ((((((Au k ls)).take (wh%((Au k ls)).length)).drop 0)++([c]:List UInt8))++((((Au k ls)).take (((Au k ls)).length)).drop ((wh%((Au k ls)).length)+1)))).2.2.2)]) rfl (v:=.string (bs ((Ba ((((((Au k ls)).take (wh%((Au k ls)).length)).drop 0)++([c]:List UInt8))++((((Au k ls)).take (((Au k ls)).length)).drop ((wh%((Au k ls)).length)+1)))).1))) rfl) (Bu 15 (zT 16 6) rfl (Bk (vs:=#[.string (bs ((Ba ((((((Au k ls)).take (wh%((Au k ls)).length)).drop 0)++([c]:List UInt8))++((((Au k ls)).take (((Au k ls)).length)).drop ((wh%((Au k ls)).length)+1)))).1)),I,iV ((Ba ((((((Au k ls)).take (wh%((Au k ls)).length)).drop 0)++([c]:List UInt8))++((((Au k ls)).take (((Au k ls)).length)).drop ((wh%((Au k ls)).length)+1)))).2.2.1),iV ((Ba ((((((Au k ls)).take (wh%((Au k ls)).length)).drop 0)++([c]:List UInt8))++((((Au k ls)).take (((Au k ls)).length)).drop ((wh%((Au k ls)).length)+1)))).2.2.2)]) rfl (v:=I) rfl) (Bu 16 (zT 17 5) rfl (Bk (vs:=#[.string (bs ((Ba ((((((Au k ls)).take (wh%((Au k ls)).length)).drop 0)++([c]:List UInt8))++((((Au k ls)).take (((Au k ls)).length)).drop ((wh%((Au k ls)).length)+1)))).1)),I,iV ((Ba ((((((Au k ls)).take (wh%((Au k ls)).length)).drop 0)++([c]:List UInt8))++((((Au k ls)).take (((Au k ls)).length)).drop ((wh%((Au k ls)).length)+1)))).2.2.1),iV ((Ba ((((((Au k ls)).take (wh%((Au k ls)).length)).drop 0)++([c]:List UInt8))++((((Au k ls)).take (((Au k ls)).length)).drop ((wh%((Au k ls)).length)+1)))).2.2.2)]) rfl (v:=iV ((Ba ((((((Au k ls)).take (wh%((Au k ls)).length)).drop 0)++([c]:List UInt8))++((((Au k ls)).take (((Au k ls)).length)).drop ((wh%((Au k ls)).length)+1)))).2.2.1)) rfl) (Bu 17 (zT 18 4) rfl (Bk (vs:=#[.string (bs ((Ba ((((((Au k ls)).take (wh%((Au k ls)).length)).drop 0)++([c]:List UInt8))++((((Au k ls)).take (((Au k ls)).length)).drop ((wh%((Au k ls)).length)+1)))).1)),I,iV ((Ba ((((((Au k ls)).take (wh%((Au k ls)).length)).drop 0)++([c]:List UInt8))++((((Au k ls)).take (((Au k ls)).length)).drop ((wh%((Au k ls)).length)+1)))).2.2.1),iV ((Ba ((((((Au k ls)).take (wh%((Au k ls)).length)).drop 0)++([c]:List UInt8))++((((Au k ls)).take (((Au k ls)).length)).drop ((wh%((Au k ls)).length)+1)))).2.2.2)]) rfl (v:=iV ((Ba ((((((Au k ls)).take (wh%((Au k ls)).length)).drop 0)++([c]:List UInt8))++((((Au k ls)).take (((Au k ls)).length)).drop ((wh%((Au k ls)).length)+1)))).2.2.2)) rfl) (Bq 18 (zT 19 3) rfl (Cp (v:=.string (bs ((Ba ((((((Au k ls)).take (wh%((Au k ls)).length)).drop 0)++([c]:List UInt8))++((((Au k ls)).take (((Au k ls)).length)).drop ((wh%((Au k ls)).length)+1)))).1))) rfl) (Bq 19 (zT 20 2) rfl (Cp (v:=I) rfl) (Bq 20 (zT 21 1) rfl (Cp (v:=iV ((Ba ((((((Au k ls)).take (wh%((Au k ls)).length)).drop 0)++([c]:List UInt8))++((((Au k ls)).take (((Au k ls)).length)).drop ((wh%((Au k ls)).length)+1)))).2.2.1)) rfl) (Bq 21 (zT 22 0) rfl (Cp (v:=iV ((Ba ((((((Au k ls)).take (wh%((Au k ls)).length)).drop 0)++([c]:List UInt8))++((((Au k ls)).take (((Au k ls)).length)).drop ((wh%((Au k ls)).length)+1)))).2.2.2)) rfl) (Ec rfl (kk ax ?_)))))))))))
  refine w_q rfl rfl fun ca ay=>Ay (iV ((Ba ((((((Au k ls)).take (wh%((Au k ls)).length)).drop 0)++([c]:List UInt8))++((((Au k ls)).take (((Au k ls)).length)).drop ((wh%((Au k ls)).length)+1)))).2.2.2)) (l_v (Ek rfl rfl) (Ay (.bool ((Ba ((((((Au k ls)).take (wh%((Au k ls)).length)).drop 0)++([c]:List UInt8))++((((Au k ls)).take (((Au k ls)).length)).drop ((wh%((Au k ls)).length)+1)))).2.2.2==0)) (l_M (.string (bs ((Ba ((((((Au k ls)).take (wh%((Au k ls)).length)).drop 0)++([c]:List UInt8))++((((Au k ls)).take (((Au k ls)).length)).drop ((wh%((Au k ls)).length)+1)))).1))) (gY rfl (by simpa using hfa)) rfl (Aa (gY rfl (by simpa using hfa)) (Qc (p:=(Ba ((((((Au k ls)).take (wh%((Au k ls)).length)).drop 0)++([c]:List UInt8))++((((Au k ls)).take (((Au k ls)).length)).drop ((wh%((Au k ls)).length)+1)))).1) (q:=([]:List UInt8)) rfl rfl) (l_v (Bn rfl (by simpa using hfa) (v:=.bool (((Ba ((((((Au k ls)).take (wh%((Au k ls)).length)).drop 0)++([c]:List UInt8))++((((Au k ls)).take (((Au k ls)).length)).drop ((wh%((Au k ls)).length)+1)))).1) != ([]:List UInt8))) rfl) (Ay (.bool (((Ba ((((((Au k ls)).take (wh%((Au k ls)).length)).drop 0)++([c]:List UInt8))++((((Au k ls)).take (((Au k ls)).length)).drop ((wh%((Au k ls)).length)+1)))).1) != ([]:List UInt8))) (l_M I (gY rfl (by rw[hka];rfl)) rfl ?_)))))))
  have cr:=Grow.len j
  refine Aa (gY rfl (by rw[hka];rfl)) (Ajw (el':=9) Brt rfl j) (Aa (gY rfl (by rw[hka];rfl)) (Gl (p:=((((Ba ((((((Au k ls)).take (wh%((Au k ls)).length)).drop 0)++([c]:List UInt8))++((((Au k ls)).take (((Au k ls)).length)).drop ((wh%((Au k ls)).length)+1)))).2.1).length:Nat):Int)) (q:=0) rfl rfl) (l_v (Bn rfl (by rw[hka];rfl) (v:=.bool (decide (((((Ba ((((((Au k ls)).take (wh%((Au k ls)).length)).drop 0)++([c]:List UInt8))++((((Au k ls)).take (((Au k ls)).length)).drop ((wh%((Au k ls)).length)+1)))).2.1).length:Nat):Int)>0))) rfl) (Ay (.bool (decide (((((Ba ((((((Au k ls)).take (wh%((Au k ls)).length)).drop 0)++([c]:List UInt8))++((((Au k ls)).take (((Au k ls)).length)).drop ((wh%((Au k ls)).length)+1)))).2.1).length:Nat):Int)>0))) (l_M (iV ((Ba ((((((Au k ls)).take (wh%((Au k ls)).length)).drop 0)++([c]:List UInt8))++((((Au k ls)).take (((Au k ls)).length)).drop ((wh%((Au k ls)).length)+1)))).2.2.1)) (gY rfl (by rw[hla];rfl)) rfl (Aa (gY rfl (by rw[hla];rfl)) (Da rfl rfl) (l_v (Bn rfl (by rw[hla];rfl) (v:=.bool (decide ((Ba ((((((Au k ls)).take (wh%((Au k ls)).length)).drop 0)++([c]:List UInt8))++((((Au k ls)).take (((Au k ls)).length)).drop ((wh%((Au k ls)).length)+1)))).2.2.1<0))) rfl) (l_k ay (Cg rfl (Om (by omega)) (Al (kk a2 ?_))))))))))
  refine Ai fun cb az=>Ai fun cc W=>Agu (Bu 0 (zT 1 27) rfl (Ah (v:=iV (((wh%((Au k ls)).length):Nat):Int)) rfl) (Bu 1 (zT 2 26) rfl (Br rfl rfl (z:=((((wh%((Au k ls)).length)+1):Nat):Int)) wrE) (Bq 2 (zT 3 25) rfl (Ah (v:=.string (bs (Au k ls))) rfl) (Bq 3 (zT 4 24) rfl (Ce Brs (p:=Au k ls) rfl) (Bq 4 (zT 5 23) rfl (Uy (p:=((((wh%((Au k ls)).length)+1):Nat):Int)) (q:=((((Au k ls)).length:Nat):Int)) rfl rfl) (Bq 5 (zT 6 22) rfl (Ah (v:=.bool (decide (((((wh%((Au k ls)).length)+1):Nat):Int)≥((((Au k ls)).length:Nat):Int)))) rfl) (Akk (decide (((((wh%((Au k ls)).length)+1):Nat):Int)≥((((Au k ls)).length:Nat):Int))) (fun f=>?_) (fun f=>?_))))))))
  ·have bo:=lZ3 f
   refine Gn 6 (zT 7 21) rfl Bsy (gN rfl f) (Gn 7 (zT 8 20) rfl Bsy (gN rfl f) (Gn 8 (zT 9 19) rfl Bsy (gN rfl f) (Gn 9 (zT 10 18) rfl Bsy (gN rfl f) (Bv 10 (zT 11 17) rfl Bsy (gN rfl f) (Bv 11 (zT 12 16) rfl Bsy (gN rfl f) (Bv 12 (zT 13 15) rfl Bsy (gN rfl f) (Bv 13 (zT 14 14) rfl Bsy (gN rfl f) (Bq 14 (zT 15 13) rfl (Bt rfl f (v:=bT) rfl) (Bq 15 (zT 16 12) rfl (Ah (v:=bT) rfl) (Gn 16 zZ6 rfl Bsy (gN rfl rfl) (Bv 17 zZ7 rfl Bsy (gN rfl rfl) (Bv 18 zZ8 rfl Bsy (gN rfl rfl) (Bv 19 zZ9 rfl Bsy (gN rfl rfl) (Bq 20 Ajy rfl (Bt rfl rfl (v:=bT) rfl) (Bq 21 Ajz rfl (Ah (v:=bT) rfl) (Gn 22 zZ0 rfl Bsy (gN rfl rfl) (Bv 23 zZ1 rfl Bsy (gN rfl rfl) (Bv 24 zZ2 rfl Bsy (gN rfl rfl) (Bv 25 zZ3 rfl Bsy (gN rfl rfl) (Bv 26 zZ4 rfl Bsy (gN rfl rfl) (Bq 27 zZ5 rfl (Bt rfl rfl (v:=bT) rfl) (Ec rfl (kk W ?_)))))))))))))))))))))))
   refine Co rfl rfl (w_q rfl rfl fun cd b0=>Arv (Bm (vs:=[]) (v:=bT) (Ee (Fl hg (Hx j hnr))) Brz rfl rfl trivial ?_))
   refine Av bT (l_k b0 (Hc j fun db bf d0=>Aj (Ghost.forget (Bsz (Bsz C F) bf)) (Aq (y _ _ _ (rT bT ?_)))))
   rfl
  have bo:=lZ4 f
  refine Nl 6 (zT 7 21) rfl Bsy (gY rfl f) (Ah (v:=.string (bs (Au k ls))) rfl) (Nl 7 (zT 8 20) rfl Bsy (gY rfl f) (Ah (v:=iV (((wh%((Au k ls)).length):Nat):Int)) rfl) (Nl 8 (zT 9 19) rfl Bsy (gY rfl f) (Cr (p:=Au k ls) (wh%((Au k ls)).length) a Brs rfl (q:=(((wh%((Au k ls)).length):Nat):Int)) rfl rfl E) (Nl 9 (zT 10 18) rfl Bsy (gY rfl f) (Ah (v:=.string (bs (Au k ls))) rfl) (De 10 (zT 11 17) rfl Bsy (gY rfl f) (Ah (v:=iV (((wh%((Au k ls)).length):Nat):Int)) rfl) (De 11 (zT 12 16) rfl Bsy (gY rfl f) (Br rfl rfl (z:=((((wh%((Au k ls)).length)+1):Nat):Int)) wrE) ?_)))))
  obtain⟨b,T⟩:=Nd (p:=Au k ls) (i:=(wh%((Au k ls)).length)+1) (by omega)
  have cy:=b.toNat_lt
  refine De 12 (zT 13 15) rfl Bsy (gY rfl f) (Cr (p:=Au k ls) ((wh%((Au k ls)).length)+1) b Brs rfl (q:=((((wh%((Au k ls)).length)+1):Nat):Int)) rfl rfl T) (De 13 (zT 14 14) rfl Bsy (gY rfl f) (Ek rfl rfl) (Bq 14 (zT 15 13) rfl (Bn rfl f (v:=.bool ((a.toNat:Int)==(b.toNat:Int))) rfl) (Bq 15 (zT 16 12) rfl (Ah (v:=.bool ((a.toNat:Int)==(b.toNat:Int))) rfl) (Akk ((a.toNat:Int)==(b.toNat:Int)) (fun w=>?_) (fun w=>?_)))))
  ·have bp:=Jr w
   refine Gn 16 zZ6 rfl Bsy (gN rfl w) (Bv 17 zZ7 rfl Bsy (gN rfl w) (Bv 18 zZ8 rfl Bsy (gN rfl w) (Bv 19 zZ9 rfl Bsy (gN rfl w) (Bq 20 Ajy rfl (Bt rfl w (v:=bT) rfl) (Bq 21 Ajz rfl (Ah (v:=bT) rfl) (Gn 22 zZ0 rfl Bsy (gN rfl rfl) (Bv 23 zZ1 rfl Bsy (gN rfl rfl) (Bv 24 zZ2 rfl Bsy (gN rfl rfl) (Bv 25 zZ3 rfl Bsy (gN rfl rfl) (Bv 26 zZ4 rfl Bsy (gN rfl rfl) (Bq 27 zZ5 rfl (Bt rfl rfl (v:=bT) rfl) (Ec rfl (kk W ?_)))))))))))))
   refine Co rfl rfl (w_q rfl rfl fun ce b1=>Arv (Bm (vs:=[]) (v:=bT) (Ee (Fl hg (Hx j hnr))) Brz rfl rfl trivial ?_))
   refine Av bT (l_k b1 (Hc j fun dc bg d1=>Aj (Ghost.forget (Bsz (Bsz C F) bg)) (Aq (y _ _ _ (rT bT ?_)))))
   rfl
  have bp:=Jq w
  refine Nl 16 zZ6 rfl Bsy (gY rfl w) (Ah (v:=.string (bs (Au k ls))) rfl) (De 17 zZ7 rfl Bsy (gY rfl w) (Ah (v:=iV (((wh%((Au k ls)).length):Nat):Int)) rfl) (De 18 zZ8 rfl Bsy (gY rfl w) (Cr (p:=Au k ls) (wh%((Au k ls)).length) a Brs rfl (q:=(((wh%((Au k ls)).length):Nat):Int)) rfl rfl E) (De 19 zZ9 rfl Bsy (gY rfl w) (Ek rfl rfl) (Bq 20 Ajy rfl (Bn rfl w (v:=.bool ((a.toNat:Int)==10)) rfl) (Bq 21 Ajz rfl (Ah (v:=.bool ((a.toNat:Int)==10)) rfl) (Akk ((a.toNat:Int)==10) (fun m=>?_) (fun m=>?_)))))))
  ·have bq:=Jr m
   refine Gn 22 zZ0 rfl Bsy (gN rfl m) (Bv 23 zZ1 rfl Bsy (gN rfl m) (Bv 24 zZ2 rfl Bsy (gN rfl m) (Bv 25 zZ3 rfl Bsy (gN rfl m) (Bv 26 zZ4 rfl Bsy (gN rfl m) (Bq 27 zZ5 rfl (Bt rfl m (v:=bT) rfl) (Ec rfl (kk W ?_)))))))
   refine Co rfl rfl (w_q rfl rfl fun cf b2=>Arv (Bm (vs:=[]) (v:=bT) (Ee (Fl hg (Hx j hnr))) Brz rfl rfl trivial ?_))
   refine Av bT (l_k b2 (Hc j fun dd bh d2=>Aj (Ghost.forget (Bsz (Bsz C F) bh)) (Aq (y _ _ _ (rT bT ?_)))))
   rfl
  have bq:=Jq m
  refine Nl 22 zZ0 rfl Bsy (gY rfl m) (Ah (v:=.string (bs (Au k ls))) rfl) (De 23 zZ1 rfl Bsy (gY rfl m) (Ah (v:=iV (((wh%((Au k ls)).length):Nat):Int)) rfl) (De 24 zZ2 rfl Bsy (gY rfl m) (Br rfl rfl (z:=((((wh%((Au k ls)).length)+1):Nat):Int)) wrE) (De 25 zZ3 rfl Bsy (gY rfl m) (Cr (p:=Au k ls) ((wh%((Au k ls)).length)+1) b Brs rfl (q:=((((wh%((Au k ls)).length)+1):Nat):Int)) rfl rfl T) (De 26 zZ4 rfl Bsy (gY rfl m) (Ek rfl rfl) (Bq 27 zZ5 rfl (Bn rfl m (v:=.bool ((b.toNat:Int)==10)) rfl) (Ec rfl (kk W ?_)))))))
  refine Bb (t:=(b.toNat:Int)==10) rfl (fun P=>?_) (fun P=>?_)
  ·have br:=Jr P
   refine w_q rfl rfl fun cg b3=>Arv (Bm (vs:=[]) (v:=bT) (Ee (Fl hg (Hx j hnr))) Brz rfl rfl trivial ?_)
   refine Av bT (l_k b3 (Hc j fun de bi d3=>Aj (Ghost.forget (Bsz (Bsz C F) bi)) (Aq (y _ _ _ (rT bT ?_)))))
   rfl
  have br:=Jq P
  refine Al (kk az ?_)
  refine Ai fun ch b5=>Agu (Bu 0 (zT 1 24) rfl (Ah (v:=.string (bs (Au k ls))) rfl) (Bu 1 (zT 2 23) rfl (Ah (v:=iV (((wh%((Au k ls)).length):Nat):Int)) rfl) (Bu 2 (zT 3 22) rfl (Lp (p:=Au k ls) (l:=0) (h:=wh%((Au k ls)).length) Brs rfl (.inl ⟨rfl,rfl⟩) (.inr ⟨_,rfl,rfl⟩) (by omega) (by omega)) (Bu 3 (zT 4 21) rfl (Ah (v:=.string (bs (Au k ls))) rfl) (Bu 4 (zT 5 20) rfl (Ah (v:=iV (((wh%((Au k ls)).length):Nat):Int)) rfl) (Bu 5 (zT 6 19) rfl (Br rfl rfl (z:=((((wh%((Au k ls)).length)+1):Nat):Int)) wrE) (Bu 6 (zT 7 18) rfl (Cr (p:=Au k ls) ((wh%((Au k ls)).length)+1) b Brs rfl (q:=((((wh%((Au k ls)).length)+1):Nat):Int)) rfl rfl T) (Bu 7 (zT 8 17) rfl (Ah (v:=.string (bs (Au k ls))) rfl) (Bu 8 (zT 9 16) rfl (Ah (v:=iV (((wh%((Au k ls)).length):Nat):Int)) rfl) (Bu 9 (zT 10 15) rfl (Cr (p:=Au k ls) (wh%((Au k ls)).length) a Brs rfl (q:=(((wh%((Au k ls)).length):Nat):Int)) rfl rfl E) (Bu 13 [o1,o1,o1,o1,o1,o1,o1,o1,o1,o1,o0,o0,o0,o1,o0,o0,o0,o0,o0,o0,o0,o0,o0,o0,o0] rfl (Ah (v:=.string (bs (Au k ls))) rfl) (Bu 14 [o1,o1,o1,o1,o1,o1,o1,o1,o1,o1,o0,o0,o0,o1,o1,o0,o0,o0,o0,o0,o0,o0,o0,o0,o0] rfl (Ah (v:=iV (((wh%((Au k ls)).length):Nat):Int)) rfl) (Bu 15 [o1,o1,o1,o1,o1,o1,o1,o1,o1,o1,o0,o0,o0,o1,o1,o1,o0,o0,o0,o0,o0,o0,o0,o0,o0] rfl (Br rfl rfl (z:=((((wh%((Au k ls)).length)+2):Nat):Int)) wrE) (Bu 16 [o1,o1,o1,o1,o1,o1,o1,o1,o1,o1,o0,o0,o0,o1,o1,o1,o1,o0,o0,o0,o0,o0,o0,o0,o0] rfl (Lp (p:=Au k ls) (l:=(wh%((Au k ls)).length)+2) (h:=((Au k ls)).length) Brs rfl (.inr ⟨_,rfl,rfl⟩) (.inl ⟨rfl,rfl⟩) (by omega) (by omega)) (Rq 10 [o1,o1,o1,o1,o1,o1,o1,o1,o1,o1,o1,o0,o0,o1,o1,o1,o1,o0,o0,o0,o0,o0,o0,o0,o0] rfl (Bi (α:=UInt8) (xs:=[b,a]) (vs:=[.int .u8 (b.toNat:Int),.int .u8 (a.toNat:Int)]) Bru ty5 zr5 rfl (by decide) (Dk (os:=[.tmp 117,.tmp 120]) ⟨rfl,rfl,trivial⟩) ⟨Uq.2 rfl,Uq.2 rfl,trivial⟩ rfl (by decide) fun a4 ae ab=>⟨Bsy,?_⟩))))))))))))))))
  have a8:Grow c2 5 (.slice (some ⟨a4,0,none⟩) 2 2) ([b,a]:List UInt8) [(a4,oC ae.toArray 5)]:=Bs ab rfl (by decide)
  refine Lr a8 fun df G c0=>?_
  replace hg:=GlobK.mono G hg
  replace j:=Grow.mono G j
  refine De 11 [o1,o1,o1,o1,o1,o1,o1,o1,o1,o1,o1,o1,o0,o1,o1,o1,o1,o0,o0,o0,o0,o0,o0,o0,o0] rfl G rfl (Tf (el:=5) Bru Brs Brv rfl c0) (De 12 (zT 17 8) rfl G rfl (Jw (p:=(((Au k ls)).take (wh%((Au k ls)).length)).drop 0) (q:=([b,a]:List UInt8)) rfl rfl (by first|omega|(simp only[lZ1,lZ2,Dy,Ea,En]at *;omega))) (De 17 (zT 18 7) rfl G rfl (Jw (p:=((((Au k ls)).take (wh%((Au k ls)).length)).drop 0)++([b,a]:List UInt8)) (q:=(((Au k ls)).take (((Au k ls)).length)).drop ((wh%((Au k ls)).length)+2)) rfl rfl (by first|omega|(simp only[lZ1,lZ2,Dy,Ea,En]at *;omega))) (Rq 18 (zT 19 6) rfl (Cm (vs:=[.string (bs ((((((Au k ls)).take (wh%((Au k ls)).length)).drop 0)++([b,a]:List UInt8))++((((Au k ls)).take (((Au k ls)).length)).drop ((wh%((Au k ls)).length)+2))))]) (Ye (s:=(((((Au k ls)).take (wh%((Au k ls)).length)).drop 0)++([b,a]:List UInt8))++((((Au k ls)).take (((Au k ls)).length)).drop ((wh%((Au k ls)).length)+2))) (by simp only[lZ1,lZ2,Dy,Ea,En];omega)) Bsk rfl rfl ⟨rfl,trivial⟩ fun d8 dg dn ai=>?_))))
  obtain⟨J,K,ct,am,Z,ap,_⟩:=ai
  subst am ap
  replace hg:=GlobK.mono J hg
  replace j:=Grow.mono J j
  refine⟨(Bsz G J),?_⟩
  have hfb:=Ajs (k:=k) (ls:=ls) (t:=(((((Au k ls)).take (wh%((Au k ls)).length)).drop 0)++([b,a]:List UInt8))++((((Au k ls)).take (((Au k ls)).length)).drop ((wh%((Au k ls)).length)+2))) V E T (fun e=>Jq w (by rw[e])) (fun e=>Jq m (by rw[e];rfl)) (fun e=>Jq P (by rw[e];rfl)) (by simp)
  refine De 19 (zT 20 5) rfl (Bsz G J) rfl (Ah (v:=.tuple #[.string (bs ((Ba ((((((Au k ls)).take (wh%((Au k ls)).length)).drop 0)++([b,a]:List UInt8))++((((Au k ls)).take (((Au k ls)).length)).drop ((wh%((Au k ls)).length)+2)))).1)),K,iV ((Ba ((((((Au k ls)).take (wh%((Au k ls)).length)).drop 0)++([b,a]:List UInt8))++((((Au k ls)).take (((Au k ls)).length)).drop ((wh%((Au k ls)).length)+2)))).2.2.1),iV ((Ba ((((((Au k ls)).take (wh%((Au k ls)).length)).drop 0)++([b,a]:List UInt8))++((((Au k ls)).take (((Au k ls)).length)).drop ((wh%((Au k ls)).length)+2)))).2.2.2)]) rfl) (Pm (by kernel_rfl) (Bsz G J) Bsy (Bu 20 (zT 21 4) rfl (Bk (vs:=#[.string (bs ((Ba ((((((Au k ls)).take (wh%((Au k ls)).length)).drop 0)++([b,a]:List UInt8))++((((Au k ls)).take (((Au k ls)).length)).drop ((wh%((Au k ls)).length)+2)))).1)),K,iV ((Ba ((((((Au k ls)).take (wh%((Au k ls)).length)).drop 0)++([b,a]:List UInt8))++((((Au k ls)).take (((Au k ls)).length)).drop ((wh%((Au k ls)).length)+2)))).2.2.1),iV ((Ba ((((((Au k ls)).take (wh%((Au k ls)).length)).drop 0)++([b,a]:List UInt8))++((((Au k ls)).take (((Au k ls)).length)).drop ((wh%((Au k ls)).length)+2)))).2.2.2)]) rfl (v:=.string (bs ((Ba ((((((Au k ls)).take (wh%((Au k ls)).length)).drop 0)++([b,a]:List UInt8))++((((Au k ls)).take (((Au k ls)).length)).drop ((wh%((Au k ls)).length)+2)))).1))) rfl) (Bu 21 (zT 22 3) rfl (Bk (vs:=#[.string (bs ((Ba ((((((Au k ls)).take (wh%((Au k ls)).length)).drop 0)++([b,a]:List UInt8))++((((Au k ls)).take (((Au k ls)).length)).drop ((wh%((Au k ls)).length)+2)))).1)),K,iV ((Ba ((((((Au k ls)).take (wh%((Au k ls)).length)).drop 0)++([b,a]:List UInt8))++((((Au k ls)).take (((Au k ls)).length)).drop ((wh%((Au k ls)).length)+2)))).2.2.1),iV ((Ba ((((((Au k ls)).take (wh%((Au k ls)).length)).drop 0)++([b,a]:List UInt8))++((((Au k ls)).take (((Au k ls)).length)).drop ((wh%((Au k ls)).length)+2)))).2.2.2)]) rfl (v:=K) rfl) (Bu 22 (zT 23 2) rfl (Bk (vs:=#[.string (bs ((Ba ((((((Au k ls)).take (wh%((Au k ls)).length)).drop 0)++([b,a]:List UInt8))++((((Au k ls)).take (((Au k ls)).length)).drop ((wh%((Au k ls)).length)+2)))).1)),K,iV ((Ba ((((((Au k ls)).take (wh%((Au k ls)).length)).drop 0)++([b,a]:List UInt8))++((((Au k ls)).take (((Au k ls)).length)).drop ((wh%((Au k ls)).length)+2)))).2.2.1),iV ((Ba ((((((Au k ls)).take (wh%((Au k ls)).length)).drop 0)++([b,a]:List UInt8))++((((Au k ls)).take (((Au k ls)).length)).drop ((wh%((Au k ls)).length)+2)))).2.2.2)]) rfl (v:=iV ((Ba ((((((Au k ls)).take (wh%((Au k ls)).length)).drop 0)++([b,a]:List UInt8))++((((Au k ls)).take (((Au k ls)).length)).drop ((wh%((Au k ls)).length)+2)))).2.2.1)) rfl) (Bq 23 (zT 24 1) rfl (Bk (vs:=#[.string (bs ((Ba ((((((Au k ls)).take (wh%((Au k ls)).length)).drop 0)++([b,a]:List UInt8))++((((Au k ls)).take (((Au k ls)).length)).drop ((wh%((Au k ls)).length)+2)))).1)),K,iV ((Ba ((((((Au k ls)).take (wh%((Au k ls)).length)).drop 0)++([b,a]:List UInt8))++((((Au k ls)).take (((Au k ls)).length)).drop ((wh%((Au k ls)).length)+2)))).2.2.1),iV ((Ba ((((((Au k ls)).take (wh%((Au k ls)).length)).drop 0)++([b,a]:List UInt8))++((((Au k ls)).take (((Au k ls)).length)).drop ((wh%((Au k ls)).length)+2)))).2.2.2)]) rfl (v:=iV ((Ba ((((((Au k ls)).take (wh%((Au k ls)).length)).drop 0)++([b,a]:List UInt8))++((((Au k ls)).take (((Au k ls)).length)).drop ((wh%((Au k ls)).length)+2)))).2.2.2)) rfl) (Bq 24 (zT 25 0) rfl (Cp (v:=iV ((Ba ((((((Au k ls)).take (wh%((Au k ls)).length)).drop 0)++([b,a]:List UInt8))++((((Au k ls)).take (((Au k ls)).length)).drop ((wh%((Au k ls)).length)+2)))).2.2.2)) rfl) (Ec rfl (kk b5 ?_))))))))
  refine w_q rfl rfl fun ci b7=>Ay (iV ((Ba ((((((Au k ls)).take (wh%((Au k ls)).length)).drop 0)++([b,a]:List UInt8))++((((Au k ls)).take (((Au k ls)).length)).drop ((wh%((Au k ls)).length)+2)))).2.2.2)) (l_v (Dg rfl rfl) (Ay (.bool ((Ba ((((((Au k ls)).take (wh%((Au k ls)).length)).drop 0)++([b,a]:List UInt8))++((((Au k ls)).take (((Au k ls)).length)).drop ((wh%((Au k ls)).length)+2)))).2.2.2 != 0)) (Ae (gY rfl (by simpa using hfb)) (Bm (vs:=[]) (v:=bT) (Ee (Fl hg (Hx Z (Hx j hnr)))) Brz rfl rfl trivial ?_))))
  refine l_v (Bt rfl (by simpa using hfb) (v:=bT) rfl) (Av bT (l_k b7 (Hc Z fun dh a6 d4=>?_)))
  replace j:=Grow.mono a6 j
  refine Hc j fun di bj d5=>Aj (Ghost.forget (Bsz (Bsz (Bsz (Bsz (Bsz C F) G) J) a6) bj)) (Aq (y _ _ _ (rT bT ?_)))
  rfl
 have bn:=Jh O
 refine Al (kk a2 ?_)
 refine Ai fun cj b8=>Ai fun ck X=>Agu (Bu 0 (zT 1 27) rfl (Ah (v:=iV (((wh%((Au k ls)).length):Nat):Int)) rfl) (Bu 1 (zT 2 26) rfl (Br rfl rfl (z:=((((wh%((Au k ls)).length)+1):Nat):Int)) wrE) (Bq 2 (zT 3 25) rfl (Ah (v:=.string (bs (Au k ls))) rfl) (Bq 3 (zT 4 24) rfl (Ce Brs (p:=Au k ls) rfl) (Bq 4 (zT 5 23) rfl (Uy (p:=((((wh%((Au k ls)).length)+1):Nat):Int)) (q:=((((Au k ls)).length:Nat):Int)) rfl rfl) (Bq 5 (zT 6 22) rfl (Ah (v:=.bool (decide (((((wh%((Au k ls)).length)+1):Nat):Int)≥((((Au k ls)).length:Nat):Int)))) rfl) (Akk (decide (((((wh%((Au k ls)).length)+1):Nat):Int)≥((((Au k ls)).length:Nat):Int))) (fun g=>?_) (fun g=>?_))))))))
 ·have bt:=lZ3 g
  refine Gn 6 (zT 7 21) rfl Bsy (gN rfl g) (Gn 7 (zT 8 20) rfl Bsy (gN rfl g) (Gn 8 (zT 9 19) rfl Bsy (gN rfl g) (Gn 9 (zT 10 18) rfl Bsy (gN rfl g) (Bv 10 (zT 11 17) rfl Bsy (gN rfl g) (Bv 11 (zT 12 16) rfl Bsy (gN rfl g) (Bv 12 (zT 13 15) rfl Bsy (gN rfl g) (Bv 13 (zT 14 14) rfl Bsy (gN rfl g) (Bq 14 (zT 15 13) rfl (Bt rfl g (v:=bT) rfl) (Bq 15 (zT 16 12) rfl (Ah (v:=bT) rfl) (Gn 16 zZ6 rfl Bsy (gN rfl rfl) (Bv 17 zZ7 rfl Bsy (gN rfl rfl) (Bv 18 zZ8 rfl Bsy (gN rfl rfl) (Bv 19 zZ9 rfl Bsy (gN rfl rfl) (Bq 20 Ajy rfl (Bt rfl rfl (v:=bT) rfl) (Bq 21 Ajz rfl (Ah (v:=bT) rfl) (Gn 22 zZ0 rfl Bsy (gN rfl rfl) (Bv 23 zZ1 rfl Bsy (gN rfl rfl) (Bv 24 zZ2 rfl Bsy (gN rfl rfl) (Bv 25 zZ3 rfl Bsy (gN rfl rfl) (Bv 26 zZ4 rfl Bsy (gN rfl rfl) (Bq 27 zZ5 rfl (Bt rfl rfl (v:=bT) rfl) (Ec rfl (kk X ?_)))))))))))))))))))))))
  refine Co rfl rfl (w_q rfl rfl fun cl b9=>Arv (Bm (vs:=[]) (v:=bT) (Ee (Fl hg hnr)) Brz rfl rfl trivial ?_))
  refine Av bT (l_k b9 (Aq (y _ _ _ (rT bT ?_))))
  rfl
 have bt:=lZ4 g
 refine Nl 6 (zT 7 21) rfl Bsy (gY rfl g) (Ah (v:=.string (bs (Au k ls))) rfl) (Nl 7 (zT 8 20) rfl Bsy (gY rfl g) (Ah (v:=iV (((wh%((Au k ls)).length):Nat):Int)) rfl) (Nl 8 (zT 9 19) rfl Bsy (gY rfl g) (Cr (p:=Au k ls) (wh%((Au k ls)).length) a Brs rfl (q:=(((wh%((Au k ls)).length):Nat):Int)) rfl rfl E) (Nl 9 (zT 10 18) rfl Bsy (gY rfl g) (Ah (v:=.string (bs (Au k ls))) rfl) (De 10 (zT 11 17) rfl Bsy (gY rfl g) (Ah (v:=iV (((wh%((Au k ls)).length):Nat):Int)) rfl) (De 11 (zT 12 16) rfl Bsy (gY rfl g) (Br rfl rfl (z:=((((wh%((Au k ls)).length)+1):Nat):Int)) wrE) ?_)))))
 obtain⟨d,U⟩:=Nd (p:=Au k ls) (i:=(wh%((Au k ls)).length)+1) (by omega)
 have cz:=d.toNat_lt
 refine De 12 (zT 13 15) rfl Bsy (gY rfl g) (Cr (p:=Au k ls) ((wh%((Au k ls)).length)+1) d Brs rfl (q:=((((wh%((Au k ls)).length)+1):Nat):Int)) rfl rfl U) (De 13 (zT 14 14) rfl Bsy (gY rfl g) (Ek rfl rfl) (Bq 14 (zT 15 13) rfl (Bn rfl g (v:=.bool ((a.toNat:Int)==(d.toNat:Int))) rfl) (Bq 15 (zT 16 12) rfl (Ah (v:=.bool ((a.toNat:Int)==(d.toNat:Int))) rfl) (Akk ((a.toNat:Int)==(d.toNat:Int)) (fun x=>?_) (fun x=>?_)))))
 ·have bu:=Jr x
  refine Gn 16 zZ6 rfl Bsy (gN rfl x) (Bv 17 zZ7 rfl Bsy (gN rfl x) (Bv 18 zZ8 rfl Bsy (gN rfl x) (Bv 19 zZ9 rfl Bsy (gN rfl x) (Bq 20 Ajy rfl (Bt rfl x (v:=bT) rfl) (Bq 21 Ajz rfl (Ah (v:=bT) rfl) (Gn 22 zZ0 rfl Bsy (gN rfl rfl) (Bv 23 zZ1 rfl Bsy (gN rfl rfl) (Bv 24 zZ2 rfl Bsy (gN rfl rfl) (Bv 25 zZ3 rfl Bsy (gN rfl rfl) (Bv 26 zZ4 rfl Bsy (gN rfl rfl) (Bq 27 zZ5 rfl (Bt rfl rfl (v:=bT) rfl) (Ec rfl (kk X ?_)))))))))))))
  refine Co rfl rfl (w_q rfl rfl fun cm ba=>Arv (Bm (vs:=[]) (v:=bT) (Ee (Fl hg hnr)) Brz rfl rfl trivial ?_))
  refine Av bT (l_k ba (Aq (y _ _ _ (rT bT ?_))))
  rfl
 have bu:=Jq x
 refine Nl 16 zZ6 rfl Bsy (gY rfl x) (Ah (v:=.string (bs (Au k ls))) rfl) (De 17 zZ7 rfl Bsy (gY rfl x) (Ah (v:=iV (((wh%((Au k ls)).length):Nat):Int)) rfl) (De 18 zZ8 rfl Bsy (gY rfl x) (Cr (p:=Au k ls) (wh%((Au k ls)).length) a Brs rfl (q:=(((wh%((Au k ls)).length):Nat):Int)) rfl rfl E) (De 19 zZ9 rfl Bsy (gY rfl x) (Ek rfl rfl) (Bq 20 Ajy rfl (Bn rfl x (v:=.bool ((a.toNat:Int)==10)) rfl) (Bq 21 Ajz rfl (Ah (v:=.bool ((a.toNat:Int)==10)) rfl) (Akk ((a.toNat:Int)==10) (fun u=>?_) (fun u=>?_)))))))
 ·have bv:=Jr u
  refine Gn 22 zZ0 rfl Bsy (gN rfl u) (Bv 23 zZ1 rfl Bsy (gN rfl u) (Bv 24 zZ2 rfl Bsy (gN rfl u) (Bv 25 zZ3 rfl Bsy (gN rfl u) (Bv 26 zZ4 rfl Bsy (gN rfl u) (Bq 27 zZ5 rfl (Bt rfl u (v:=bT) rfl) (Ec rfl (kk X ?_)))))))
  refine Co rfl rfl (w_q rfl rfl fun cn bb=>Arv (Bm (vs:=[]) (v:=bT) (Ee (Fl hg hnr)) Brz rfl rfl trivial ?_))
  refine Av bT (l_k bb (Aq (y _ _ _ (rT bT ?_))))
  rfl
 have bv:=Jq u
 refine Nl 22 zZ0 rfl Bsy (gY rfl u) (Ah (v:=.string (bs (Au k ls))) rfl) (De 23 zZ1 rfl Bsy (gY rfl u) (Ah (v:=iV (((wh%((Au k ls)).length):Nat):Int)) rfl) (De 24 zZ2 rfl Bsy (gY rfl u) (Br rfl rfl (z:=((((wh%((Au k ls)).length)+1):Nat):Int)) wrE) (De 25 zZ3 rfl Bsy (gY rfl u) (Cr (p:=Au k ls) ((wh%((Au k ls)).length)+1) d Brs rfl (q:=((((wh%((Au k ls)).length)+1):Nat):Int)) rfl rfl U) (De 26 zZ4 rfl Bsy (gY rfl u) (Ek rfl rfl) (Bq 27 zZ5 rfl (Bn rfl u (v:=.bool ((d.toNat:Int)==10)) rfl) (Ec rfl (kk X ?_)))))))
 refine Bb (t:=(d.toNat:Int)==10) rfl (fun R=>?_) (fun R=>?_)
 ·have bx:=Jr R
  refine w_q rfl rfl fun co bc=>Arv (Bm (vs:=[]) (v:=bT) (Ee (Fl hg hnr)) Brz rfl rfl trivial ?_)
  refine Av bT (l_k bc (Aq (y _ _ _ (rT bT ?_))))
  rfl
 have bx:=Jq R
 refine Al (kk b8 ?_)
 refine Ai fun cp bd=>Agu (Bu 0 (zT 1 24) rfl (Ah (v:=.string (bs (Au k ls))) rfl) (Bu 1 (zT 2 23) rfl (Ah (v:=iV (((wh%((Au k ls)).length):Nat):Int)) rfl) (Bu 2 (zT 3 22) rfl (Lp (p:=Au k ls) (l:=0) (h:=wh%((Au k ls)).length) Brs rfl (.inl ⟨rfl,rfl⟩) (.inr ⟨_,rfl,rfl⟩) (by omega) (by omega)) (Bu 3 (zT 4 21) rfl (Ah (v:=.string (bs (Au k ls))) rfl) (Bu 4 (zT 5 20) rfl (Ah (v:=iV (((wh%((Au k ls)).length):Nat):Int)) rfl) (Bu 5 (zT 6 19) rfl (Br rfl rfl (z:=((((wh%((Au k ls)).length)+1):Nat):Int)) wrE) (Bu 6 (zT 7 18) rfl (Cr (p:=Au k ls) ((wh%((Au k ls)).length)+1) d Brs rfl (q:=((((wh%((Au k ls)).length)+1):Nat):Int)) rfl rfl U) (Bu 7 (zT 8 17) rfl (Ah (v:=.string (bs (Au k ls))) rfl) (Bu 8 (zT 9 16) rfl (Ah (v:=iV (((wh%((Au k ls)).length):Nat):Int)) rfl) (Bu 9 (zT 10 15) rfl (Cr (p:=Au k ls) (wh%((Au k ls)).length) a Brs rfl (q:=(((wh%((Au k ls)).length):Nat):Int)) rfl rfl E) (Bu 13 [o1,o1,o1,o1,o1,o1,o1,o1,o1,o1,o0,o0,o0,o1,o0,o0,o0,o0,o0,o0,o0,o0,o0,o0,o0] rfl (Ah (v:=.string (bs (Au k ls))) rfl) (Bu 14 [o1,o1,o1,o1,o1,o1,o1,o1,o1,o1,o0,o0,o0,o1,o1,o0,o0,o0,o0,o0,o0,o0,o0,o0,o0] rfl (Ah (v:=iV (((wh%((Au k ls)).length):Nat):Int)) rfl) (Bu 15 [o1,o1,o1,o1,o1,o1,o1,o1,o1,o1,o0,o0,o0,o1,o1,o1,o0,o0,o0,o0,o0,o0,o0,o0,o0] rfl (Br rfl rfl (z:=((((wh%((Au k ls)).length)+2):Nat):Int)) wrE) (Bu 16 [o1,o1,o1,o1,o1,o1,o1,o1,o1,o1,o0,o0,o0,o1,o1,o1,o1,o0,o0,o0,o0,o0,o0,o0,o0] rfl (Lp (p:=Au k ls) (l:=(wh%((Au k ls)).length)+2) (h:=((Au k ls)).length) Brs rfl (.inr ⟨_,rfl,rfl⟩) (.inl ⟨rfl,rfl⟩) (by omega) (by omega)) (Rq 10 [o1,o1,o1,o1,o1,o1,o1,o1,o1,o1,o1,o0,o0,o1,o1,o1,o1,o0,o0,o0,o0,o0,o0,o0,o0] rfl (Bi (α:=UInt8) (xs:=[d,a]) (vs:=[.int .u8 (d.toNat:Int),.int .u8 (a.toNat:Int)]) Bru ty5 zr5 rfl (by decide) (Dk (os:=[.tmp 117,.tmp 120]) ⟨rfl,rfl,trivial⟩) ⟨Uq.2 rfl,Uq.2 rfl,trivial⟩ rfl (by decide) fun a5 af ac=>⟨Bsy,?_⟩))))))))))))))))
 have a9:Grow ρ 5 (.slice (some ⟨a5,0,none⟩) 2 2) ([d,a]:List UInt8) [(a5,oC af.toArray 5)]:=Bs ac rfl (by decide)
 refine Lr a9 fun dj H c1=>?_
 replace hg:=GlobK.mono H hg
 refine De 11 [o1,o1,o1,o1,o1,o1,o1,o1,o1,o1,o1,o1,o0,o1,o1,o1,o1,o0,o0,o0,o0,o0,o0,o0,o0] rfl H rfl (Tf (el:=5) Bru Brs Brv rfl c1) (De 12 (zT 17 8) rfl H rfl (Jw (p:=(((Au k ls)).take (wh%((Au k ls)).length)).drop 0) (q:=([d,a]:List UInt8)) rfl rfl (by first|omega|(simp only[lZ1,lZ2,Dy,Ea,En]at *;omega))) (De 17 (zT 18 7) rfl H rfl (Jw (p:=((((Au k ls)).take (wh%((Au k ls)).length)).drop 0)++([d,a]:List UInt8)) (q:=(((Au k ls)).take (((Au k ls)).length)).drop ((wh%((Au k ls)).length)+2)) rfl rfl (by first|omega|(simp only[lZ1,lZ2,Dy,Ea,En]at *;omega))) (Rq 18 (zT 19 6) rfl (Cm (vs:=[.string (bs ((((((Au k ls)).take (wh%((Au k ls)).length)).drop 0)++([d,a]:List UInt8))++((((Au k ls)).take (((Au k ls)).length)).drop ((wh%((Au k ls)).length)+2))))]) (Ye (s:=(((((Au k ls)).take (wh%((Au k ls)).length)).drop 0)++([d,a]:List UInt8))++((((Au k ls)).take (((Au k ls)).length)).drop ((wh%((Au k ls)).length)+2))) (by simp only[lZ1,lZ2,Dy,Ea,En];omega)) Bsk rfl rfl ⟨rfl,trivial⟩ fun d9 dk dp aj=>?_))))
 obtain⟨M,L,cu,an,a0,aq,_⟩:=aj
 subst an aq
 replace hg:=GlobK.mono M hg
 refine⟨(Bsz H M),?_⟩
 have hfb:=Ajs (k:=k) (ls:=ls) (t:=(((((Au k ls)).take (wh%((Au k ls)).length)).drop 0)++([d,a]:List UInt8))++((((Au k ls)).take (((Au k ls)).length)).drop ((wh%((Au k ls)).length)+2))) V E U (fun e=>Jq x (by rw[e])) (fun e=>Jq u (by rw[e];rfl)) (fun e=>Jq R (by rw[e];rfl)) (by simp)
 refine De 19 (zT 20 5) rfl (Bsz H M) rfl (Ah (v:=.tuple #[.string (bs ((Ba ((((((Au k ls)).take (wh%((Au k ls)).length)).drop 0)++([d,a]:List UInt8))++((((Au k ls)).take (((Au k ls)).length)).drop ((wh%((Au k ls)).length)+2)))).1)),L,iV ((Ba ((((((Au k ls)).take (wh%((Au k ls)).length)).drop 0)++([d,a]:List UInt8))++((((Au k ls)).take (((Au k ls)).length)).drop ((wh%((Au k ls)).length)+2)))).2.2.1),iV ((Ba ((((((Au k ls)).take (wh%((Au k ls)).length)).drop 0)++([d,a]:List UInt8))++((((Au k ls)).take (((Au k ls)).length)).drop ((wh%((Au k ls)).length)+2)))).2.2.2)]) rfl) (Pm (by kernel_rfl) (Bsz H M) Bsy (Bu 20 (zT 21 4) rfl (Bk (vs:=#[.string (bs ((Ba ((((((Au k ls)).take (wh%((Au k ls)).length)).drop 0)++([d,a]:List UInt8))++((((Au k ls)).take (((Au k ls)).length)).drop ((wh%((Au k ls)).length)+2)))).1)),L,iV ((Ba ((((((Au k ls)).take (wh%((Au k ls)).length)).drop 0)++([d,a]:List UInt8))++((((Au k ls)).take (((Au k ls)).length)).drop ((wh%((Au k ls)).length)+2)))).2.2.1),iV ((Ba ((((((Au k ls)).take (wh%((Au k ls)).length)).drop 0)++([d,a]:List UInt8))++((((Au k ls)).take (((Au k ls)).length)).drop ((wh%((Au k ls)).length)+2)))).2.2.2)]) rfl (v:=.string (bs ((Ba ((((((Au k ls)).take (wh%((Au k ls)).length)).drop 0)++([d,a]:List UInt8))++((((Au k ls)).take (((Au k ls)).length)).drop ((wh%((Au k ls)).length)+2)))).1))) rfl) (Bu 21 (zT 22 3) rfl (Bk (vs:=#[.string (bs ((Ba ((((((Au k ls)).take (wh%((Au k ls)).length)).drop 0)++([d,a]:List UInt8))++((((Au k ls)).take (((Au k ls)).length)).drop ((wh%((Au k ls)).length)+2)))).1)),L,iV ((Ba ((((((Au k ls)).take (wh%((Au k ls)).length)).drop 0)++([d,a]:List UInt8))++((((Au k ls)).take (((Au k ls)).length)).drop ((wh%((Au k ls)).length)+2)))).2.2.1),iV ((Ba ((((((Au k ls)).take (wh%((Au k ls)).length)).drop 0)++([d,a]:List UInt8))++((((Au k ls)).take (((Au k ls)).length)).drop ((wh%((Au k ls)).length)+2)))).2.2.2)]) rfl (v:=L) rfl) (Bu 22 (zT 23 2) rfl (Bk (vs:=#[.string (bs ((Ba ((((((Au k ls)).take (wh%((Au k ls)).length)).drop 0)++([d,a]:List UInt8))++((((Au k ls)).take (((Au k ls)).length)).drop ((wh%((Au k ls)).length)+2)))).1)),L,iV ((Ba ((((((Au k ls)).take (wh%((Au k ls)).length)).drop 0)++([d,a]:List UInt8))++((((Au k ls)).take (((Au k ls)).length)).drop ((wh%((Au k ls)).length)+2)))).2.2.1),iV ((Ba ((((((Au k ls)).take (wh%((Au k ls)).length)).drop 0)++([d,a]:List UInt8))++((((Au k ls)).take (((Au k ls)).length)).drop ((wh%((Au k ls)).length)+2)))).2.2.2)]) rfl (v:=iV ((Ba ((((((Au k ls)).take (wh%((Au k ls)).length)).drop 0)++([d,a]:List UInt8))++((((Au k ls)).take (((Au k ls)).length)).drop ((wh%((Au k ls)).length)+2)))).2.2.1)) rfl) (Bq 23 (zT 24 1) rfl (Bk (vs:=#[.string (bs ((Ba ((((((Au k ls)).take (wh%((Au k ls)).length)).drop 0)++([d,a]:List UInt8))++((((Au k ls)).take (((Au k ls)).length)).drop ((wh%((Au k ls)).length)+2)))).1)),L,iV ((Ba ((((((Au k ls)).take (wh%((Au k ls)).length)).drop 0)++([d,a]:List UInt8))++((((Au k ls)).take (((Au k ls)).length)).drop ((wh%((Au k ls)).length)+2)))).2.2.1),iV ((Ba ((((((Au k ls)).take (wh%((Au k ls)).length)).drop 0)++([d,a]:List UInt8))++((((Au k ls)).take (((Au k ls)).length)).drop ((wh%((Au k ls)).length)+2)))).2.2.2)]) rfl (v:=iV ((Ba ((((((Au k ls)).take (wh%((Au k ls)).length)).drop 0)++([d,a]:List UInt8))++((((Au k ls)).take (((Au k ls)).length)).drop ((wh%((Au k ls)).length)+2)))).2.2.2)) rfl) (Bq 24 (zT 25 0) rfl (Cp (v:=iV ((Ba ((((((Au k ls)).take (wh%((Au k ls)).length)).drop 0)++([d,a]:List UInt8))++((((Au k ls)).take (((Au k ls)).length)).drop ((wh%((Au k ls)).length)+2)))).2.2.2)) rfl) (Ec rfl (kk bd ?_))))))))
 refine w_q rfl rfl fun cq be=>Ay (iV ((Ba ((((((Au k ls)).take (wh%((Au k ls)).length)).drop 0)++([d,a]:List UInt8))++((((Au k ls)).take (((Au k ls)).length)).drop ((wh%((Au k ls)).length)+2)))).2.2.2)) (l_v (Dg rfl rfl) (Ay (.bool ((Ba ((((((Au k ls)).take (wh%((Au k ls)).length)).drop 0)++([d,a]:List UInt8))++((((Au k ls)).take (((Au k ls)).length)).drop ((wh%((Au k ls)).length)+2)))).2.2.2 != 0)) (Ae (gY rfl (by simpa using hfb)) (Bm (vs:=[]) (v:=bT) (Ee (Fl hg (Hx a0 hnr))) Brz rfl rfl trivial ?_))))
 refine l_v (Bt rfl (by simpa using hfb) (v:=bT) rfl) (Av bT (l_k be (Hc a0 fun dl bk d6=>Aj (Ghost.forget (Bsz (Bsz H M) bk)) (Aq (y _ _ _ (rT bT ?_))))))
 rfl
theorem Aod{W0:World}{ρ:Ro}{σ:Own}{k:List UInt8}{ls:List ByteArray}{vl:Value}{wh cc:Nat}(hg:GlobK ρ)(hnr:NoRecv σ)(rl:Val ρ vl ls)(hwh:wh<65536)(hcc:cc<256):Agd (CY W0) 4 8 [.string (bs k),vl,.int .u16 (wh:Int),.int .u8 (cc:Int)] ρ σ (rP ρ σ bT):=by
 have:=Akw (W0:=W0) (k:=k) (c:=UInt8.ofNat cc) hg hnr rl hwh
 rwa[show (UInt8.ofNat cc).toNat=cc by rw[UInt8.toNat_ofNat'];omega]at this
end
section
open Go Go.WideShapes
section
variable{H:Type}{enc:TypeId×Value→H}{W:World}{r:Go.Reach}{base t:Nat}{v:Value}{d:DataW H}{p:List MemPlace}
theorem Blk(ht:Tryz.prog.underlying t=some (.int .u8))(hv:Value.okWide Tryz.prog W r base t v)(h:DataW.Trod enc Tryz.prog W 0 (fun _=>true) true t v d p):∃n:Nat,v = .int .u8 (n:Int)∧n<256:=by
 obtain⟨n,rfl⟩:=okWide_int ht hv
 obtain⟨c,hf⟩:=h
 obtain⟨m,a,_,b⟩:=DataW.trod_int (cs:=[.int .u8 n]) ht hf
 simp[Lit.wf,IntKind.min,IntKind.max,IntKind.signed,IntKind.bits]at b
 obtain rfl:n=m:=by simpa using a
 exact⟨n.toNat,by rw[Avx (by omega)],by omega⟩
theorem Bgr(ht:Tryz.prog.underlying t=some (.int .u16))(hv:Value.okWide Tryz.prog W r base t v)(h:DataW.Trod enc Tryz.prog W 0 (fun _=>true) true t v d p):∃n:Nat,v = .int .u16 (n:Int)∧n<65536:=by
 obtain⟨n,rfl⟩:=okWide_int ht hv
 obtain⟨c,hf⟩:=h
 obtain⟨m,a,_,b⟩:=DataW.trod_int (cs:=[.int .u16 n]) ht hf
 simp[Lit.wf,IntKind.min,IntKind.max,IntKind.signed,IntKind.bits]at b
 obtain rfl:n=m:=by simpa using a
 exact⟨n.toNat,by rw[Avx (by omega)],by omega⟩
end
end
section
open Go Go.WideShapes Go.ChangeShapes Go.RowKit Go.Conc
theorem Bee{a b:String}(h:a.toUTF8.data.toList=b.toUTF8.data.toList):a=b:=by
 have c:a.toUTF8=b.toUTF8:=ByteArray.ext (Array.ext' h)
 exact String.toByteArray_inj.1 c
section
variable{H:Type}
/-- The function of this name,by a table. -/
def Zq(tab:List (String×FuncId))(x:List UInt8):Option FuncId:=match x with
 | []=>none
 | b::r=>match tab.find? fun p=>p.1.toUTF8.data.toList==b::r with
  | some p=>some p.2
  | none=>none
def Ayn(f:TypeId→DataW H→Option (List Value)):List (TypeId×Nat)→List (DataW H)→Option (List Value)
 | [],[]=>some []
 | x::r,d::ds=>match f x.1 d,Ayn f r ds with
  | some a,some b=>some (a++b)
  | _,_=>none
 | _,_=>none
/-- These parts lie side by side,from o to the end. -/
def Aqs(P:Program)(e:Nat):Nat→List (TypeId×Nat)→Bool
 | o,[]=>Nat.beq o e
 | o,x::r=>Nat.beq x.2 o&&Aqs P e (o+P.cellsOf x.1) r
/-- The cells that read as this datum. -/
def Vc(P:Program)(hf:H→Option FuncId):Nat→TypeId→DataW H→Option (List Value)
 | 0,_,_=>none
 | n+1,t,d=>match P.underlying t,d with
  | some .bool,.lit (.bool b)=>some [.bool b]
  | some (.int k),.lit (.int _ z)=>some [.int k z]
  | some .string,.lit (.string l)=>some [.string ⟨l.toArray⟩]
  | some (.func _ _ _),.nil=>some [.nilFunc]
  | some (.func _ _ _),.held x=>match hf x with
   | some f=>some [.func (.func f) #[] #[]]
   | none=>none
  | some (.struct fs),.agg ds=>match Aqs P (P.cellsOf t) 0 (fs.toList.map fun f=>(f.type,f.offset)) with
   | true=>Ayn (Vc P hf n) (fs.toList.map fun f=>(f.type,f.offset)) ds
   | false=>none
  | some (.array m e),.agg ds=>match Aqs P (P.cellsOf t) 0 ((List.range m).map fun i=>(e,i*P.cellsOf e)) with
   | true=>Ayn (Vc P hf n) ((List.range m).map fun i=>(e,i*P.cellsOf e)) ds
   | false=>none
  | _,_=>none
variable{enc:TypeId×Value→H}{P:Program}{w:World}{base:Nat}{sp:Nat→Bool}{held:Bool}{m:Nat}{t:TypeId}{cs:List Value}{q:List MemPlace}
theorem Bal{ps rs:Array TypeId}{va:Bool}(ht:P.underlying t=some (.func ps rs va))(h:DataW.trod enc P w base sp held m t cs=some (.nil,q)):cs=[.nilFunc]:=by
 cases m with
 | zero=>simp[DataW.trod]at h
 | succ n =>
  unfold DataW.trod at h
  rw[ht]at h
  split at h<;>simp_all
theorem Aun{ps rs:Array TypeId}{va:Bool}{x:H}(ht:P.underlying t=some (.func ps rs va))(h:DataW.trod enc P w base sp held m t cs=some (.held x,q)):∃v,cs=[v]∧enc (t,v)=x:=by
 cases m with
 | zero=>simp[DataW.trod]at h
 | succ n =>
  unfold DataW.trod at h
  rw[ht]at h
  split at h<;>simp_all
theorem Ald{f:TypeId→DataW H→Option (List Value)}(hf:∀t d vs cs q,f t d=some vs→DataW.trod enc P w base sp held m t cs=some (d,q)→cs=vs) :
  ∀{L:List (TypeId×Nat)} {xs:List (DataW H×List MemPlace)} {o:Nat} {vs:List Value},Aqs P cs.length o L=true→L.length=xs.length→(∀(i:Nat) (x:TypeId×Nat),L[i]?=some x→DataW.trod enc P w base sp held m x.1 ((cs.drop x.2).take (P.cellsOf x.1))=xs[i]?) →
   Ayn f L (xs.map (·.1))=some vs→cs.drop o=vs
 | [],xs,o,vs,h1,h2,_,h4=>by
  obtain rfl:xs=[]:=Aem h2.symm
  have c:=lZ7 h1
  have e:vs=[]:=by simpa[Ayn]using h4.symm
  rw[e,c,Apz]
 | x::L,xs,o,vs,h1,h2,h3,h4=>by
  match xs,h2 with
  | y::ys,h2 =>
   simp only[Aqs,Fd]at h1
   obtain⟨g,h⟩:=h1
   have c:=lZ7 g
   simp only[Hd,Ayn]at h4
   split at h4
   ·rename_i a b g1 g2
    cases h4
    have j:=h3 0 x rfl
    have k:=hf x.1 y.1 a _ y.2 g1 j
    have n:=Ald hf (o:=o+P.cellsOf x.1) h (by simpa using h2) (fun i z hz=>by simpa using h3 (i+1) z (by simpa using hz)) g2
    rw[←k,←n,c,←Aqh,Aao]
   ·cases h4
theorem Abg{hf:H→Option FuncId}(hh:∀(t:TypeId) (v:Value) (x:H) (f:FuncId),hf x=some f→enc (t,v)=x→v = .func (.func f) #[] #[]) :
  ∀(n m:Nat) (t:TypeId) (d:DataW H) (vs cs:List Value) (q:List MemPlace),Vc P hf n t d=some vs→DataW.trod enc P w base sp held m t cs=some (d,q)→cs=vs
 | 0,_,_,_,_,_,_,h,_=>by cases h
 | n+1,m,t,d,vs,cs,q,h,h2=>by
  unfold Vc at h
  split at h
  ·rename_i b ht
   obtain⟨b',rfl,e⟩:=DataW.trod_bool ht h2
   cases h;cases e;rfl
  ·rename_i k k' z ht
   obtain⟨z',rfl,e,_⟩:=DataW.trod_int ht h2
   cases h;cases e;rfl
  ·rename_i l ht
   obtain⟨s,rfl,e,_⟩:=DataW.trod_string ht h2
   cases h;cases e;rfl
  ·rename_i ht
   cases h
   exact Bal ht h2
  ·rename_i x ht
   obtain⟨v,rfl,e⟩:=Aun ht h2
   split at h
   ·rename_i f hf'
    cases h
    rw[hh t v x f hf' e]
   ·cases h
  ·rename_i fs ds ht
   split at h
   ·rename_i ho
    obtain⟨xs,k,rfl,e,hl,hx,hg⟩:=DataW.trod_struct ht h2
    simp only[Prod.mk.injEq,DataW.agg.injEq]at e
    obtain⟨rfl,rfl⟩:=e
    rw[←hl]at ho
    have:=Ald (f:=Vc P hf n) (m:=k) (fun t d vs cs q a b=>Abg hh n k t d vs cs q a b) ho (by simpa using hx.symm) (fun i x hi=>by
     rw[Oj]at hi
     cases hj:fs.toList[i]? with
     | none=>rw[hj]at hi;cases hi
     | some f =>
      rw[hj]at hi
      cases hi
      exact hg i f (by simpa using hj)) h
    rw[Vi]at this
    exact this
   ·cases h
  ·rename_i a e ds ht
   split at h
   ·rename_i ho
    obtain⟨xs,k,rfl,e',hl,hx,hg⟩:=DataW.trod_array ht h2
    simp only[Prod.mk.injEq,DataW.agg.injEq]at e'
    obtain⟨rfl,rfl⟩:=e'
    rw[←hl]at ho
    have:=Ald (f:=Vc P hf n) (m:=k) (fun t d vs cs q a b=>Abg hh n k t d vs cs q a b) ho (by simpa using hx.symm) (fun i x hi=>by
     rw[Oj]at hi
     cases hj:(List.range a)[i]? with
     | none=>rw[hj]at hi;cases hi
     | some j =>
      rw[hj]at hi
      cases hi
      have g:=Ig.1 hj
      obtain⟨p,c⟩:=g
      rw[List.getElem_range]at c
      subst c
      exact hg i (by simpa using p)) h
    rw[Vi]at this
    exact this
   ·cases h
  ·cases h
end
/-- What a table of functions holds. -/
theorem Atd{P:Program}{W:World}{n:String}{d:DataW Unit}{g:Nat}{t:TypeId}{vs:List Value}{tab:List (String×FuncId)}(htab:tab.all (fun p=>P.funcNamed p.1==some p.2)=true)(hg:P.globalNamed n=some g)(ht:(P.globals[g]?).map (·.type)=some t)(hd:Vc P (Zq tab) 8 t d.funcsOut=some vs)(h:funcsAt P W n d):∃t' fz,roW W g=some (.cells vs.toArray t' fz):=by
 obtain⟨g',t',cs,k,p,m,u,w,y⟩:=h
 obtain rfl:=Option.some.inj (hg.symm.trans m)
 obtain rfl:=Option.some.inj (ht.symm.trans u)
 obtain⟨t',fz,hh⟩:=Zw hg w
 have:=Abg (P:=P) (hf:=Zq tab) (fun t v x f hf he=>by
  unfold Zq at hf
  split at hf
  ·cases hf
  ·rename_i b r
   split at hf
   ·rename_i q hq
    cases hf
    obtain⟨f'',fn,rfl,_,hn,hb⟩:=funcToken_tells he
    have e:q.1.toUTF8.data.toList=b::r:=by simpa using List.find?_some hq
    have i:q.1=fn.name:=Bee (e.trans hb.symm)
    have c:=Hs.1 htab q (List.mem_of_find?_eq_some hq)
    rw[i,hn]at c
    have j:f''=q.2:=by simpa using c
    rw[j]
   ·cases hf) 8 k t d.funcsOut vs cs.toList p hd y
 refine⟨t',fz,?_⟩
 rw[←this]
 exact Vz hh
/-- What a plain table holds. -/
theorem Aqy{P:Program}{W:World}{n:String}{d:DataW Unit}{g:Nat}{t:TypeId}{vs:List Value}(hg:P.globalNamed n=some g)(ht:(P.globals[g]?).map (·.type)=some t)(hd:Vc P (fun _:Unit=>none) 8 t d=some vs)(h:laidMet P [(n,d)] W):∃t' fz,roW W g=some (.cells vs.toArray t' fz):=by
 obtain⟨ps,⟨g',t',cs,a,p,q,b,c,e,i,_,_⟩,_,_⟩:=h
 obtain rfl:=Option.some.inj (hg.symm.trans b)
 obtain rfl:=Option.some.inj (ht.symm.trans c)
 obtain⟨t',fz,hh⟩:=Zw hg e
 have:=Abg (P:=P) (hf:=fun _:Unit=>none) (fun t v x f hf he=>by cases hf) 8 a t d vs cs.toList p hd i
 refine⟨t',fz,?_⟩
 rw[←this]
 exact Vz hh
end
section
open Go Go.WideShapes Go.ChangeShapes Go.RowKit Go.Conc
theorem Wd{H:Type}{enc:TypeId×Value→H}{W:World}{r:Go.Reach}{base t:Nat}{v:Value}{d:DataW H}{p:List MemPlace}(ht:Tryz.prog.underlying t=some .string)(hv:Value.okWide Tryz.prog W r base t v)(h:DataW.Trod enc Tryz.prog W 0 (fun _=>true) true t v d p):∃l:List UInt8,v = .string (bs l):=by
 obtain⟨s,rfl⟩:=okWide_string ht hv
 exact⟨s.data.toList,by cases s;rfl⟩
def laidLK:List (String×DataW Unit):=[("math/bits.deBruijn32tab",Rows.laid_math_bits_deBruijn32tab),("math/bits.deBruijn64tab",Rows.laid_math_bits_deBruijn64tab),("internal/strconv.uint64pow10",Rows.laid_internal_strconv_uint64pow10),("unicode/utf8.acceptRanges",Rows.laid_unicode_utf8_acceptRanges),("strconv.ErrRange",Rows.laid_strconv_ErrRange),("strconv.ErrSyntax",Rows.laid_strconv_ErrSyntax),("crocus/corm.kinds",Rows.laid_crocus_corm_kinds),("crocus/pool.kinds",Rows.laid_crocus_pool_kinds),("crocus/turn.checks",Rows.laid_crocus_turn_checks),("crocus/turn.nowhere",Rows.laid_crocus_turn_nowhere),("crocus/elder.kinds",Rows.laid_crocus_elder_kinds),("crocus/elder.views",Rows.laid_crocus_elder_views),("unicode/utf8.first",Rows.laid_unicode_utf8_first)]
def Bmq:List (String×DataW Unit):=[("math/bits.deBruijn32tab",Rows.laid_math_bits_deBruijn32tab),("math/bits.deBruijn64tab",Rows.laid_math_bits_deBruijn64tab),("internal/strconv.uint64pow10",Rows.laid_internal_strconv_uint64pow10),("unicode/utf8.acceptRanges",Rows.laid_unicode_utf8_acceptRanges),("strconv.ErrRange",Rows.laid_strconv_ErrRange),("strconv.ErrSyntax",Rows.laid_strconv_ErrSyntax),("crocus/turn.nowhere",Rows.laid_crocus_turn_nowhere),("crocus/elder.views",Rows.laid_crocus_elder_views),("unicode/utf8.first",Rows.laid_unicode_utf8_first)]
def Bmr:List (String×DataW Unit):=[("crocus/corm.kinds",Rows.laid_crocus_corm_kinds),("crocus/pool.kinds",Rows.laid_crocus_pool_kinds),("crocus/turn.checks",Rows.laid_crocus_turn_checks),("crocus/elder.kinds",Rows.laid_crocus_elder_kinds)]
/-- A variable's type. -/
def Vw(P:Program)(g:Nat):TypeId:=((P.globals[g]?).map (·.type)).getD 0
/-- The table in its wrapper. -/
def Aae:DataW Unit→DataW Unit
 | .iface _ d=>d
 | d=>d
theorem Bqz:Tryz.prog.globalNamed "crocus/elder.kinds" = some 0:=by kernel_rfl
theorem Brh:(Tryz.prog.globals[Fk 0]?).map (·.type)=some (Vw Tryz.prog (Fk 0)):=by kernel_rfl
theorem Bra:Tryz.prog.globalNamed "crocus/pool.kinds" = some 1:=by kernel_rfl
theorem Bri:(Tryz.prog.globals[Fk 1]?).map (·.type)=some (Vw Tryz.prog (Fk 1)):=by kernel_rfl
theorem Brb:Tryz.prog.globalNamed "crocus/corm.kinds" = some 5:=by kernel_rfl
theorem Brj:(Tryz.prog.globals[Fk 5]?).map (·.type)=some (Vw Tryz.prog (Fk 5)):=by kernel_rfl
theorem Bqy:Tryz.prog.globalNamed "crocus/turn.checks" = some 6:=by kernel_rfl
theorem Brg:(Tryz.prog.globals[Fk 6]?).map (·.type)=some (Vw Tryz.prog (Fk 6)):=by kernel_rfl
theorem Brc:Tryz.prog.globalNamed "crocus/turn.nowhere" = some 7:=by kernel_rfl
theorem Brk:(Tryz.prog.globals[Fk 7]?).map (·.type)=some (Vw Tryz.prog (Fk 7)):=by kernel_rfl
theorem Azf{P:Program}{W:World}{a:String×DataW Unit}{l:List (String×DataW Unit)}(h:laidMet P (a::l) W):laidMet P [a] W:=by
 obtain⟨ps,⟨g,t,cs,c,p,q,d,e,f,i,j,rfl⟩,hn,hc⟩:=h
 exact⟨MemPlace.row ⟨g,0,none⟩ cs.size++p++[],⟨g,t,cs,c,p,[],d,e,f,i,rfl,rfl⟩,by rw[Lz];exact(Aav.1 hn).1,fun b off hb=>hc b off (Lb _ (by rw[Lz]at hb;exact hb))⟩
theorem Mu{P:Program}{W:World}{a:String×DataW Unit}{l:List (String×DataW Unit)}(h:laidMet P (a::l) W):laidMet P l W:=by
 obtain⟨ps,⟨g,t,cs,d,p,q,e,f,i,j,c,rfl⟩,hn,hc⟩:=h
 exact⟨q,c,(Aav.1 hn).2.1,fun b off hb=>hc b off (Ix _ hb)⟩
def Bgl(W:World)(a:Nat×Cell):Prop:=∃l t fz,a.2 = .ro (.cells l)∧l.all Azy=true∧roW W a.1=some (.cells (l.map Aho).toArray t fz)
def tabK:List (String×FuncId):=[("(crocus/corm.sheet).give",idF (.func 365)),("(crocus/corm.sheet).take",idF (.func 404)),("crocus/pool.kinds$1",idF (.func 400)),("crocus/pool.kinds$2",idF (.func 401)),("crocus/pool.kinds$3",idF (.func 402)),("crocus/pool.kinds$4",idF (.func 403)),("(*crocus/turn.ditch).people",idF (.func 405)),("(*crocus/turn.ditch).times",idF (.func 406)),("(*crocus/turn.ditch).changes",idF (.func 407)),("(*crocus/turn.ditch).ground",idF (.func 408)),("crocus/elder.kinds$1",idF (.func 368)),("crocus/elder.tryCorm",idF (.func 369)),("crocus/elder.kinds$2",idF (.func 370)),("crocus/elder.tryOpen",idF (.func 371)),("crocus/elder.kinds$3",idF (.func 372)),("crocus/elder.tryPay",idF (.func 373)),("crocus/elder.kinds$4",idF (.func 374)),("crocus/elder.trySale",idF (.func 375)),("crocus/elder.kinds$5",idF (.func 376)),("crocus/elder.tryLot",idF (.func 377))]
theorem Boj:tabK.all (fun p=>Tryz.prog.funcNamed p.1==some p.2)=true:=by kernel_rfl
theorem Wt{W:World}{n:String}{d:DataW Unit}{g:Nat}{l:List CV}(hg:Tryz.prog.globalNamed n=some g)(ht:(Tryz.prog.globals[g]?).map (·.type)=some (Vw Tryz.prog g))(h:funcsAt Tryz.prog W n d)
  (hd:Vc Tryz.prog (Zq tabK) 8 (Vw Tryz.prog g) d.funcsOut=some (l.map Aho)) (hp:l.all Azy=true):Bgl W (g,.ro (.cells l)) :=
 let ⟨t,fz,h⟩:=Atd Boj hg ht hd h
 ⟨l,t,fz,rfl,hp,h⟩
theorem Bcu{W:World}{n:String}{d:DataW Unit}{g:Nat}{l:List CV}(hg:Tryz.prog.globalNamed n=some g)(ht:(Tryz.prog.globals[g]?).map (·.type)=some (Vw Tryz.prog g))(h:laidMet Tryz.prog [(n,d)] W)
  (hd:Vc Tryz.prog (fun _:Unit=>none) 8 (Vw Tryz.prog g) d=some (l.map Aho)) (hp:l.all Azy=true):Bgl W (g,.ro (.cells l)) :=
 let ⟨t,fz,h⟩:=Aqy hg ht hd h
 ⟨l,t,fz,rfl,hp,h⟩
theorem Bba{W:World}:∀{l:List (Nat×Cell)},l.foldr (fun a p=>Bgl W a∧p) True→∀a∈l,Bgl W a
 | b::l,h,a,ha=>(lZ8.1 ha).elim (fun e=>e ▸ h.1) (Bba h.2 a)
def cK23:List CV:=[.f (idF (.func 368)) [] [],.f (idF (.func 369)) [] [],.f (idF (.func 370)) [] [],.f (idF (.func 371)) [] [],.f (idF (.func 372)) [] [],.f (idF (.func 373)) [] [],.f (idF (.func 374)) [] [],.f (idF (.func 375)) [] [],.f (idF (.func 376)) [] [],.f (idF (.func 377)) [] []]
theorem Bqs:Vc Tryz.prog (Zq tabK) 8 (Vw Tryz.prog (Fk 0)) (Aae Rows.laid_crocus_elder_kinds).funcsOut=some (cK23.map Aho):=by kernel_rfl
def cK24:List CV:=[.s [112,97,121],.f (idF (.func 400)) [] [],.s [108,111,97,110],.f (idF (.func 401)) [] [],.s [98,97,99,107],.f (idF (.func 402)) [] [],.s [100,111,119,114,121],.f (idF (.func 403)) [] []]
theorem Bqt:Vc Tryz.prog (Zq tabK) 8 (Vw Tryz.prog (Fk 1)) (Aae Rows.laid_crocus_pool_kinds).funcsOut=some (cK24.map Aho):=by kernel_rfl
def cK26:List CV:=[.s [115,116,97,114,116],.fn,.f (idF (.func 365)) [] [],.b false,.s [103,105,102,116],.f (idF (.func 404)) [] [],.f (idF (.func 365)) [] [],.b true,.s [108,111,97,110],.f (idF (.func 404)) [] [],.f (idF (.func 365)) [] [],.b true,.s [98,97,99,107],.f (idF (.func 404)) [] [],.f (idF (.func 365)) [] [],.b true,.s [115,97,108,101],.f (idF (.func 404)) [] [],.fn,.b true,.s [108,111,115,115],.f (idF (.func 404)) [] [],.fn,.b false]
theorem Bqu:Vc Tryz.prog (Zq tabK) 8 (Vw Tryz.prog (Fk 5)) (Aae Rows.laid_crocus_corm_kinds).funcsOut=some (cK26.map Aho):=by kernel_rfl
def cK10:List CV:=[.f (idF (.func 405)) [] [],.f (idF (.func 406)) [] [],.f (idF (.func 407)) [] [],.f (idF (.func 408)) [] []]
theorem Bqr:Vc Tryz.prog (Zq tabK) 8 (Vw Tryz.prog (Fk 6)) (Aae Rows.laid_crocus_turn_checks).funcsOut=some (cK10.map Aho):=by kernel_rfl
def cK27:List CV:=[.i .i64 (.negSucc 0),.i .i64 (.negSucc 0)]
theorem Bqv:Vc Tryz.prog (fun _:Unit=>none) 8 (Vw Tryz.prog (Fk 7)) Rows.laid_crocus_turn_nowhere=some (cK27.map Aho):=by kernel_rfl
theorem Ahi{W:World}(h:laidMetH Tryz.prog laidLK W):GlobK (roW W):=by
 have h':laidMet Tryz.prog Bmq W∧handlesMet Tryz.prog Bmr W:=h
 refine⟨Bba ?_⟩
 unfold eKnows1
 simp only[List.foldr]
 refine⟨Wt (n:= "crocus/elder.kinds") (d:=Aae Rows.laid_crocus_elder_kinds) Bqz Brh (h.funcs (lZ0 _ (lZ0 _ (lZ0 _ (lZ0 _ (lZ0 _ (lZ0 _ (lZ0 _ (lZ0 _ (lZ0 _ (lZ0 _ mC))))))))))) Bqs (by kernel_rfl),?_⟩
 refine⟨Wt (n:= "crocus/pool.kinds") (d:=Aae Rows.laid_crocus_pool_kinds) Bra Bri (h.funcs (lZ0 _ (lZ0 _ (lZ0 _ (lZ0 _ (lZ0 _ (lZ0 _ (lZ0 _ mC)))))))) Bqt (by kernel_rfl),?_⟩
 refine⟨Wt (n:= "crocus/corm.kinds") (d:=Aae Rows.laid_crocus_corm_kinds) Brb Brj (h.funcs (lZ0 _ (lZ0 _ (lZ0 _ (lZ0 _ (lZ0 _ (lZ0 _ mC))))))) Bqu (by kernel_rfl),?_⟩
 refine⟨Wt (n:= "crocus/turn.checks") (d:=Aae Rows.laid_crocus_turn_checks) Bqy Brg (h.funcs (lZ0 _ (lZ0 _ (lZ0 _ (lZ0 _ (lZ0 _ (lZ0 _ (lZ0 _ (lZ0 _ mC))))))))) Bqr (by kernel_rfl),?_⟩
 refine⟨Bcu (n:= "crocus/turn.nowhere") (d:=Rows.laid_crocus_turn_nowhere) Brc Brk (Azf (Mu (Mu (Mu (Mu (Mu (Mu h'.1))))))) Bqv (by kernel_rfl),?_⟩
 trivial
/-- The cells of a plain table. -/
def Bqf:DataW Unit→List Value
 | .agg ds=>ds.map fun d=>match d with | .lit (.int k z)=>.int k z|_=>undef
 | _=>[]
/-- The variables as the text lays them,the great table of utf8 with them. -/
noncomputable def doorK(os:Os):World:={World.doorLaid Tryz.prog 2000 os with heap:=(World.doorLaid Tryz.prog 2000 os).heap.setIfInBounds (Fk 10) (.cells (Bqf Go.Pinned.utf8First).toArray (Vw Tryz.prog (Fk 10)) (0,0))}
theorem Bhn(os:Os)(args:Array Value):(DataW.laidRun Tryz.prog ((doorK os).forCall (fun _ _=>0) ⟨#[],args,[]⟩).memory 8 ((laidLK.filter fun x=>x.2.handleName?.isNone).map (·.1))).map (·.1)=some (laidLK.filter fun x=>x.2.handleName?.isNone):=by kernel_rfl
theorem Bho(os:Os)(args:Array Value):(DataW.laidRun Tryz.prog ((doorK os).forCall (fun _ _=>0) ⟨#[],args,[]⟩).memory 8 ((laidLK.filter fun x=>x.2.handleName?.isNone).map (·.1))).map (fun x=>decide x.2.Nodup&&laidRowsB Tryz.prog ((doorK os).forCall (fun _ _=>0) ⟨#[],args,[]⟩).memory x.2)=some true:=by kernel_rfl
theorem Bhp(os:Os)(args:Array Value):(laidLK.filter fun x=>x.2.handleName?.isSome&&x.2.funcsIn?.isNone).all (handleAtB Tryz.prog ((doorK os).forCall (fun _ _=>0) ⟨#[],args,[]⟩).memory)=true:=by kernel_rfl
theorem Bhq(os:Os)(args:Array Value):funcsRun Tryz.prog ((doorK os).forCall (fun _ _=>0) ⟨#[],args,[]⟩).memory 8 ((funcsListed laidLK).map (·.1))=some ((funcsListed laidLK).map (·.2.funcsOut)):=by kernel_rfl
theorem Yf(os:Os)(args:Array Value):laidMetH Tryz.prog laidLK ((doorK os).forCall (fun _ _=>0) ⟨#[],args,[]⟩).memory :=
 laidMetH_of_parts3 (fuel:=8) (laidMet_of_run' 8 (Bhn os args) (Bho os args)) (Bhp os args) (Bhq os args)
def Anu(H:Type)(enc:TypeId×Value→H)(s:ChangeSpec)(fn:Func):World→Array Value→Prop :=
 fun w args=>(s.pre enc Tryz.prog fn [] false w args∧laidMetH Tryz.prog laidLK w)∧sizedMet enc Tryz.prog fn (OpenSpec.ofChange s) false w args
/-- The lift of a law,with the variables of layer 10 laid. -/
theorem Vp{f:FuncId}{r:Nat}{fn:Func}{s:ChangeSpec}(os:Os)(started:os.Started)(H:Type)(enc:TypeId×Value→H)(hfn:Tryz.prog.funcs[f]?=some fn)(hvars:s.vars=[])(hres:fn.resultTypes = #[4])(hi:Tryz.prog.inits.idxOf? f=none)
  (hts:∀t∈fn.params.toList,Tryz.prog.readableRec t=true∧t<Tryz.prog.types.size)
  (hspec:∀ds:List (DataW H),ds.length=fn.params.toList.length→s.fn H ds={results:=[.lit (.bool true)],args:=ds})
  (witness:∃(w:World) (tape:Tape) (i:Input),w.os=os∧(w.forCall tape i).Shaped Tryz.prog∧i.vars=[]∧Input.okWide Tryz.prog (w.forCall tape i) .any w.heap.size f i∧Anu H enc s fn (w.forCall tape i).memory i.args∧({}:Assume).holds Tryz.prog (lone (Frame.enter Tryz.prog f i.args .normal) [] (w.forCall tape i)))
  (walk:∀(W:World) (args:List Value) (ds:List (DataW H)) (ps:List MemPlace),(∀(j:Nat) t v,fn.params[j]?=some t→args.toArray[j]?=some v→∃b,Value.okWide Tryz.prog W .any b t v)→DataW.TrodAll enc Tryz.prog W 0 (fun _=>true) true fn.params.toList args ds ps →
   (DataW.weightsEach Tryz.prog fn.params.toList ds).all (·≤reachBytes)=true→GlobK (roW W)→Agd (CY W) f r args (roW W) [] (fun w ρ' σ'=>ρ'=roW W∧σ'=[]∧w = .bool true)) :
  ReturnsInLeavingWide {} Tryz.checked os f .any (Anu H enc s fn) (s.post enc Tryz.prog fn false true false false):=by
 refine returnsInLeavingWide_of_good (C:=Tryz.checked) Art started witness ?_
 intro w tape i _ _ _ hok z _
 obtain⟨_,_,_,fn',u,_,_,_,_,B⟩:=hok
 have e:fn'=fn:=Option.some.inj (u.symm.trans hfn)
 subst e
 obtain⟨⟨⟨ds,gs,E,hw,_⟩,hL⟩,hz⟩:=z
 have hsz:=hz.weights hw
 have hw':=DataW.Whole.of_heap (w':=w.forCall tape i) (by rfl) hw
 have hL':=hL.of_heap (w':=w.forCall tape i) (by rfl)
 generalize w.forCall tape i=W at *
 obtain⟨p,q,hA,hV,hb,hnf,hnd⟩:=hw'
 have hV':DataW.TrodVars enc Tryz.prog W (fun _=>true) [] gs q:=by rw[←hvars];exact hV
 obtain⟨rfl,rfl⟩:=trodVars_none hV'
 simp only[Lz]at hb
 replace hb:=hb.symm
 subst hb
 have hvt:s.plain.varTypes Tryz.prog=[]:=by unfold DataSpec.varTypes ChangeSpec.plain;rw[hvars];rfl
 rw[show (OpenSpec.ofChange s).bare.plain.varTypes Tryz.prog=[] from hvt,Lz,Lz]at hsz
 obtain⟨F,y⟩:=Sb hA
 have g:i.args.toList.toArray=i.args:=by simp
 have n:=walk W i.args.toList ds p (fun j t v c a=>⟨_,B j t v c (by rw[g]at a;exact a)⟩) hA hsz (Ahi hL')
 have d:DataW.Whole enc Tryz.prog fn'.params.toList s.vars false W i.args.toList ds [] p:=⟨p,[],hA,hV,by simp,hnf,hnd⟩
 have hlt:∀x∈p,x.block<W.heap.size:=fun x hx=>by simpa using d.lt x hx
 have hgo:=Ani (W0:=W) (Pst:=fun v W'=>s.post enc Tryz.prog fn' false true false false W i.args v W') n hi fun v ρ' σ' ⟨_,hσ,hv⟩=>⟨hσ,fun W' hbw=>by
  subst hv
  have er:(s.fn H (ds++[]))={results:=[.lit (.bool true)],args:=ds}:=by rw[Lz];exact hspec ds y
  refine⟨ds,[],p,[],p,[],d,?_,?_,?_,hbw.frame _,fun h=>by cases h⟩
  ·rw[er,hres];exact trodAll_mk1 (shut_bool Tryz.underlying4 true)
  ·rw[er];exact Oo hbw hts hlt hA
  ·rw[er,hvars];rfl⟩
 rw[g]at hgo
 obtain⟨M,D,o,w',t',c,a,k,m⟩:=Ang hgo Anl
 exact⟨M,D,o,w',t',c,a,k,m.mono fun v hp=>ChangeSpec.post_blind hp⟩
end
end Go.Proofs.YtjdkajkimeainaaGreatDoor
