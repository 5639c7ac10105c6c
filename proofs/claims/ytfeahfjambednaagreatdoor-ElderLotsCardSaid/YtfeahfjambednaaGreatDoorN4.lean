/- Part 4 of what all laws of layer 8 need: a logic of programs that start goroutines, and what the functions yield. -/
import Derived.Test.YtfeahfjambednaaGreatDoorN3
set_option linter.unusedVariables false
set_option linter.unusedSimpArgs false
set_option maxRecDepth 100000
set_option maxHeartbeats 4000000
namespace Go.Proofs.YtfeahfjambednaaGreatDoor
open Go
noncomputable section
section
theorem Ayv{l:List LPart}{j k:Nat}{q:LPart}{s:ByteArray}(hq:l[j]?=some q)(hjk:j<k)(h:(q.of_.toList==s.toList)=true):Ib (l.take k) s=true:=by unfold Ib;rw[Aqc];exact⟨q,lZ5 (i:=j) (by rw[Afp hjk];exact hq),by rw[Bool.beq_comm];exact h⟩
theorem Bfn{b:LBook}{i:Nat}{s:ByteArray}{y:LLot}(hn:b.lots[(Dm (b.lots.take i) s).toNat]?=some y)(h:Dm (b.lots.take i) s>=0):(b.lots.take i)[(Dm (b.lots.take i) s).toNat]?=some y:=by obtain⟨z,hz,_⟩:=Wf h;have:=(lZ4.1 hz).1;rw[Jb]at this;rw[Afp (by omega)];exact hn
theorem Adx{b:LBook}{i:Nat}{s:ByteArray}(h:Dm (b.lots.take i) s>=0):(Dm (b.lots.take i) s).toNat<b.lots.length:=by obtain⟨z,hz,_⟩:=Wf h;have:=(lZ4.1 hz).1;rw[Jb]at this;omega
theorem Bfi{l:List LPart}{j:Nat}{q:LPart}{s:ByteArray}(hq:l[j]?=some q)(h:(q.of_.toList==s.toList)=false)(hs:Ib (l.take j) s=false):Ib (l.take (j+1)) s=false:=by rw[<-Acd hq s,hs,Bool.beq_comm,h];rfl
variable{mn:Bool}{X:Frame->List Frame->Ro->Own->Cy->Prop}{Y:Ro}{Z:Own}
theorem Ash{l:LLot}{vl:Value}(rl:Val Y vl l)(hn:l.parts.length<=100000)(hb:∀p∈l.parts,0<=p.grams/\p.grams<=100000):CallsH (CX mn X) 23 #[vl] Y Z (rP Y Z (iV (Eo l))):=by
 refine Bq 21 [2] Cem rfl fun Q u a3=>qA fun O w=>Arv (Jl (v:=vl) rfl fun y=>?_);refine Bb (a:=l) rl fun N H n=>Au (iV 0) (qC w fun T C=>Au (iV 0) (Ary rfl rfl C fun U V D E=>Au (iV 0) (l_k E (Ao (Cc (fun mm ee dd Y' Z'=>∃(i:Nat) (a:Int),(l.parts.length-i)=mm/\[]=dd/\N=Y'/\Z=Z'/\ee 1=pV y/\ee 3=iV a/\ee 4=iV i/\(i<=l.parts.length)/\(a=Xc (l.parts.take i))/\(0<=a/\a<=100000*(i:Int))/\True) (m:=_) ⟨0,0,rfl,rfl,rfl,rfl,rfl,rfl,rfl,Hr _,rfl,⟨by omega,by omega⟩,trivial⟩ ?_)))));rintro m6 ZQ _ _ _ ⟨i,a,rfl,rfl,rfl,rfl,d,g,e,a5,h,a6,_⟩;refine qD fun W YQ F G=>l_v (Ah (v:=iV i) e) (Arw (Ba LLot.f_parts Ccy rfl Gb n d) fun v9 M=>Arw (Ax Gb rfl M) fun a7 j=>?_);have a0:=Val.len j;refine l_v (Ci (el:=127) Ccz rfl j) (l_v (Da rfl rfl) (l_k G (Bp (t:=decide ((i:Int)<(l.parts.length:Int))) rfl (fun c=>?_) (fun c=>?_))))
 ·have I:=lZ1 c;refine Al (kk F ?_);refine Ai fun P x=>Ao (qB (l_v (Ah (v:=iV a) g) (Arw (Ba LLot.f_parts Ccy rfl Gb n d) fun a8 J=>Arw (Ax Gb rfl J) fun a9 K=>l_v (Ah (v:=iV i) e) ?_)));obtain⟨b,f⟩:=Ed (xs:=l.parts) (i:=i) (by omega);have a4:=hb _ (lZ5 f);refine Arw (Ch i Ccz Im rfl K (q:=(i:Int)) rfl rfl f) fun aa L=>Arw (Ba LPart.f_grams Ccx rfl ty3 L) fun ab k=>?_;have⟨a1,a2⟩:=At.rng k;refine l_v (Bc ty3 rfl k) (l_v (Br rfl rfl (z:=a+b.grams) (Bo (by rfl) (by omega) (by omega))) (Au (iV (a+b.grams)) (l_k x (qB (l_v (Ah (v:=iV i) e) (l_v (Em (((i+1):Nat):Int)) (Au (iV ((i+1):Nat)) (Ac ?_))))))));refine⟨_,?_,(i+1),(a+b.grams),rfl,rfl,rfl,rfl,d,rfl,rfl,(by omega),(by rw[Are f,h]),⟨by omega,by omega⟩,trivial⟩;omega
 have I:=lZ2 c;refine Bx (kk D ?_);refine qA fun R B=>l_v (Ah (v:=iV a) g) (Au (iV a) (l_k B (Aj (Cez H) (Aq (u (rT (iV a) ?_))))));rw[h,show i=l.parts.length by omega,Aav];rfl
theorem Asm{l:List LLot}{vl:Value}{s:ByteArray}(rl:Val Y vl l):CallsH (CX mn X) 83 #[vl,.string s] Y Z (rP Y Z (iV (Dm l s))):=by
 refine Bq 20 [4] Cew rfl fun Q u a0=>qA fun L y=>Au (iV 0) (qE y fun P R D E=>Au (iV 0) (l_k E (Ao (Cc (fun mm ee dd Y' Z'=>∃(i:Nat),(l.length-i)=mm/\[]=dd/\Y=Y'/\Z=Z'/\ee 0=vl/\ee 1=(.string s)/\ee 5=iV i/\(i<=l.length)/\(∀j,j<i->atP l (fun x=>x.name.toList==s.toList) j=false)/\True) (m:=_) ⟨0,rfl,rfl,rfl,rfl,rfl,rfl,rfl,Hr _,fun j h=>absurd h (Td _),trivial⟩ ?_))));rintro m4 W _ _ _ ⟨i,rfl,rfl,rfl,rfl,d,k,c,a1,f,_⟩;refine qD fun T U F G=>l_v (Ah (v:=iV i) c) (l_v (Ah (v:=vl) d) ?_);have ZQ:=Val.len rl;refine l_v (Ci (el:=51) Ccw rfl rl) (l_v (Da rfl rfl) (l_k G (Bp (t:=decide ((i:Int)<(l.length:Int))) rfl (fun b=>?_) (fun b=>?_))))
 ·have J:=lZ1 b;refine Al (kk F ?_);refine Ai fun V H=>Ao (qA fun M z=>l_v (Ah (v:=vl) d) (l_v (Ah (v:=iV i) c) ?_));obtain⟨g,e⟩:=Ed (xs:=l) (i:=i) (by omega);refine Arw (Ch i Ccw Gk rfl rl (q:=(i:Int)) rfl rfl e) fun a2 K=>Arw (Ba LLot.f_name Ccy rfl ty9 K) fun a3 w=>?_;have YQ:=At.slen w;refine l_v (Pk ty9 rfl w) (l_v (Ah (v:=.string s) k) (l_v (Ahy (p:=g.name) (q:=s) rfl rfl) (l_k z (Bp (t:=(g.name).toList==(s).toList) rfl (fun a=>?_) (fun a=>?_)))))
  ·have I:=Jr a;refine qA fun N B=>l_v (Ah (v:=iV i) c) (Au (iV i) (l_k B (Aq (u (rT (iV i) ?_)))));have hi:=Fh (n:=l.length) f (by omega) (show atP l _ i=true by simp only[atP,e,b,a]);rw[<-Amj];simp only[Oi,hi]
  have I:=Jq a;refine Al (kk H ?_);refine qB (l_v (Ah (v:=iV i) c) (l_v (Em (((i+1):Nat):Int)) (Au (iV ((i+1):Nat)) (Ac ?_))));refine⟨_,?_,(i+1),rfl,rfl,rfl,rfl,d,k,rfl,(by omega),(Eg f (by simp only[atP,e,b,a])),trivial⟩;omega
 have J:=lZ2 b;refine Bx (kk D ?_);refine qA fun O C=>Au (iV (-1)) (l_k C (Aq (u (rT (iV (-1)) ?_))));have hn:=Ep (n:=l.length) fun j hj=>f j (by omega);rw[<-Amj];simp only[Oi,hn]
theorem Bcx{l:List LLot}{vl:Value}{s:ByteArray}(rl:Val Y vl l)(h8:l.length<=8)(hb:∀x∈l,x.parts.length<=6/\∀p∈x.parts,1<=p.grams/\p.grams<=100000):CallsH (CX mn X) 84 #[vl,.string s] Y Z (rP Y Z (iV (tkO s l))):=by
 refine Bq 47 [4] Tryz.func84 rfl fun Q N ap=>qA fun K1 O=>Au (iV 0) (Arx rfl rfl O fun K2 V=>Au (iV 0) (Ary rfl rfl V fun K3 K4 YQ k4=>Au (iV 0) (l_k k4 (Ao (Cc (fun mm ee dd Y' Z'=>∃(i:Nat) (a:Int),(l.length-i)=mm/\[]=dd/\Y=Y'/\Z=Z'/\ee 0=vl/\ee 1=(.string s)/\ee 5=iV a/\ee 6=iV i/\(i<=l.length)/\(a=tkO s (l.take i))/\(0<=a/\a<=600000*(i:Int))/\True) (m:=_) ⟨0,0,rfl,rfl,rfl,rfl,rfl,rfl,rfl,rfl,Hr _,rfl,⟨by omega,by omega⟩,trivial⟩ ?_)))));rintro m5 e5 _ _ _ ⟨i,a,rfl,rfl,rfl,rfl,D,L,E,F,aw,H,ax,_⟩;refine qD fun K6 K7 k6 k7=>l_v (Ah (v:=iV i) F) (l_v (Ah (v:=vl) D) ?_);have g8:=Val.len rl;refine l_v (Ci (el:=51) Ccw rfl rl) (l_v (Da rfl rfl) (l_k k7 (Bp (t:=decide ((i:Int)<(l.length:Int))) rfl (fun y=>?_) (fun y=>?_))))
 ·have q9:=lZ1 y;refine Al (kk k6 ?_);refine Ai fun ac P=>Ao (qA fun ad R=>Au (iV 0) (l_k R (Ao ?_)));obtain⟨b,j⟩:=Ed (xs:=l) (i:=i) (by omega);obtain⟨ao,M⟩:=hb _ (lZ5 j);refine Cc (fun mm ee dd Y' Z'=>∃(k:Nat) (c:Int),(b.parts.length-k)=mm/\[]=dd/\Y=Y'/\Z=Z'/\ee 0=vl/\ee 1=(.string s)/\ee 6=iV i/\ee 5=iV c/\ee 7=iV k/\(k<=b.parts.length)/\(c=tkO s (l.take i)+Sn s (b.parts.take k))/\(0<=c/\c<=600000*(i:Int)+100000*(k:Int))/\True) (m:=_) ⟨0,a,rfl,rfl,rfl,rfl,D,L,F,E,rfl,Hr _,(by rw[H];exact(Beg _).symm),⟨by omega,by omega⟩,trivial⟩ ?_;rintro ar aj _ _ _ ⟨k,c,rfl,rfl,rfl,rfl,d,u,e,B,h,au,C,av,_⟩;refine qD fun ae af T U=>l_v (Ah (v:=iV k) h) (l_v (Ah (v:=vl) d) (l_v (Ah (v:=iV i) e) (Arw (Ch i Ccw Gk rfl rl (q:=(i:Int)) rfl rfl j) fun ay a2=>Arw (Ba LLot.f_parts Ccy rfl Gb a2) fun az a3=>Arw (Ax Gb rfl a3) fun b0 I=>?_)));have ak:=Val.len I;refine l_v (Ci (el:=127) Ccz rfl I) (l_v (Da rfl rfl) (l_k U (Bp (t:=decide ((k:Int)<(b.parts.length:Int))) rfl (fun w=>?_) (fun w=>?_))))
  ·have a0:=lZ1 w;refine Al (kk T ?_);refine Ai fun ag G=>Ao (qA fun ah W=>l_v (Ah (v:=vl) d) (l_v (Ah (v:=iV i) e) (Arw (Ch i Ccw Gk rfl rl (q:=(i:Int)) rfl rfl j) fun b1 a4=>Arw (Ba LLot.f_parts Ccy rfl Gb a4) fun b2 a5=>Arw (Ax Gb rfl a5) fun b3 a6=>l_v (Ah (v:=iV k) h) ?_)));obtain⟨f,n⟩:=Ed (xs:=b.parts) (i:=k) (by omega);have aq:=M _ (lZ5 n);refine Arw (Ch k Ccz Im rfl a6 (q:=(k:Int)) rfl rfl n) fun b4 a7=>Arw (Ba LPart.f_of_ Ccx rfl ty9 a7) fun b5 J=>?_;have al:=At.slen J;refine l_v (Pk ty9 rfl J) (l_v (Ah (v:=.string s) u) (l_v (Ahy (p:=f.of_) (q:=s) rfl rfl) (l_k W (Bp (t:=(f.of_).toList==(s).toList) rfl (fun g=>?_) (fun g=>?_)))))
   ·have a1:=Jr g;refine qB (l_v (Ah (v:=iV c) B) (l_v (Ah (v:=vl) d) (l_v (Ah (v:=iV i) e) (Arw (Ch i Ccw Gk rfl rl (q:=(i:Int)) rfl rfl j) fun b6 a8=>Arw (Ba LLot.f_parts Ccy rfl Gb a8) fun b7 a9=>Arw (Ax Gb rfl a9) fun b8 aa=>l_v (Ah (v:=iV k) h) (Arw (Ch k Ccz Im rfl aa (q:=(k:Int)) rfl rfl n) fun ba ab=>Arw (Ba LPart.f_grams Ccx rfl ty3 ab) fun bb K=>?_)))));have⟨am,an⟩:=At.rng K;refine l_v (Bc ty3 rfl K) (l_v (Br rfl rfl (z:=c+f.grams) (Bo (by rfl) (by omega) (by omega))) (Au (iV (c+f.grams)) (l_k G (qB (l_v (Ah (v:=iV k) h) (l_v (Em (((k+1):Nat):Int)) (Au (iV ((k+1):Nat)) (Ac ?_))))))));refine⟨_,?_,(k+1),(c+f.grams),rfl,rfl,rfl,rfl,d,u,e,rfl,rfl,(by omega),(by rw[Arf n,if_pos (Cbx g),C];omega),⟨by omega,by omega⟩,trivial⟩;omega
   have a1:=Jq g;refine Al (kk G ?_);refine qB (l_v (Ah (v:=iV k) h) (l_v (Em (((k+1):Nat):Int)) (Au (iV ((k+1):Nat)) (Ac ?_))));refine⟨_,?_,(k+1),c,rfl,rfl,rfl,rfl,d,u,e,B,rfl,(by omega),(by rw[Arf n,if_neg (Cbw g),C];omega),⟨by omega,by omega⟩,trivial⟩;omega
  have a0:=lZ2 w;refine Bx (kk P ?_);refine qB (l_v (Ah (v:=iV i) e) (l_v (Em (((i+1):Nat):Int)) (Au (iV ((i+1):Nat)) (Ac ?_))));refine⟨_,?_,(i+1),c,rfl,rfl,rfl,rfl,d,u,B,rfl,(by omega),(by rw[Bpw j,C,show k=b.parts.length by omega,Aav]),⟨by omega,by omega⟩,trivial⟩;omega
 have q9:=lZ2 y;refine Bx (kk YQ ?_);refine qA fun ai ZQ=>l_v (Ah (v:=iV a) E) (Au (iV a) (l_k ZQ (Aq (N (rT (iV a) ?_)))));rw[H,show i=l.length by omega,Aav]
theorem Azx{b:LBook}{i:Nat}{vb:Value}(rv:Val Y vb b)(ok:LotsOk ⟨b.fields,b.lots.take i⟩)(hn8:b.lots.length<=8)(hi:i<b.lots.length):CallsH (CX mn X) 50 #[vb,iV i] Y Z (rP Y Z (iV (Nr b i))):=by
 refine Bq 108 [4] Tryz.func50 rfl fun Q E gj=>qA fun K1 k1=>Arv (Jl (v:=vb) rfl fun k2=>?_);refine Bb (a:=b) rv fun ii F C=>Au (iV 0) (qC k1 fun K3 k3=>Arw (Ba LBook.f_lots Cct rfl Dy C) fun v4 r4=>Arw (Ax Dy rfl r4) fun v5 r5=>Av (iV i) ?_);obtain⟨g,w⟩:=Ed (xs:=b.lots) (i:=i) (by omega);refine Arw (Ch i Ccw Gk rfl r5 (q:=(i:Int)) rfl rfl w) fun v6 r6=>Arw (Ax Gk rfl r6) fun v8 r8=>Arv (Ct Auq fun k9=>?_);refine Cx rfl (Dv (v:=v8) (a:=g) (c:=Aup) Gk rfl rfl r8 rfl ?_);refine Bb (a:=g) r8 fun eg y K=>?_;replace C:=At.mono y C;refine qE k3 fun ej eo c4 c8=>Arw (Ba LLot.f_name Ccy rfl ty9 K) fun h8 bi=>?_;have g1:=At.slen bi;refine l_v (Pk ty9 rfl bi) (Arv (Cj Bkh Tryz.func48 ?_));refine l_v (Iy rfl) (l_k c8 (Bp (t:=!(Hg g.name)) rfl (fun ai=>?_) (fun ai=>?_)))
 ·have c2:=not_eq_t ai;refine qA fun f0 cj=>Au (iV 4) (l_k cj (Aj (Cez (Cfc F y)) (Aq (E (rT (iV 4) ?_)))));rw[Nh w (Bve c2)]
 have H:=Fp ai;refine Al (kk c4 ?_);refine Ai fun f1 ck=>Ai fun f2 bc=>Rw (Fd 0 (zT 1 15) rfl (Ba LBook.f_fields Cct rfl Hw C) fun hn dw=>Fd 1 (zT 2 14) rfl (Ax Hw rfl dw) fun ho dx=>Fm 2 (zT 3 13) rfl (Ba LLot.f_name Ccy rfl ty9 K) fun hq bo=>?_);have g5:=At.slen bo;refine Cf 3 (zT 4 12) rfl (Pk ty9 rfl bo) (Ma 4 (zT 5 11) rfl (Bm (Asg dx) Cei rfl rfl ⟨rfl,rfl,trivial⟩ ⟨Cfb,?_⟩));refine Cf 5 (zT 6 10) rfl (Uy rfl rfl) (Cf 6 (zT 7 9) rfl (Ah (v:=.bool (decide (Aht b.fields g.name>=0))) rfl) (Akk (decide (Aht b.fields g.name>=0)) (fun n=>?_) (fun n=>?_)))
 ·have I:=lZ1 n;refine Ds 7 (zT 8 8) rfl Cfb (gN rfl n) (Ds 8 Amg rfl Cfb (gN rfl n) (Ds 9 (zT 10 6) rfl Cfb (gN rfl n) (Ds 10 zZ9 rfl Cfb (gN rfl n) (En 11 Anr rfl Cfb (gN rfl n) (En 12 Ajy rfl Cfb (gN rfl n) (En 13 Ajz rfl Cfb (gN rfl n) (En 14 Aka rfl Cfb (gN rfl n) (Cf 15 Akb rfl (Bt rfl n (v:=bT) rfl) (Ec rfl (kk bc ?_))))))))));refine Co rfl rfl (qA fun f3 cl=>Au (iV 5) (l_k cl (Aj (Cez (Cfc F y)) (Aq (E (rT (iV 5) ?_))))));rw[Nh w (Bni H (Aos.2 (.inl I)))]
 have I:=lZ2 n;refine Gp 7 (zT 8 8) rfl Cfb (qF n) (Ba LBook.f_lots Cct rfl Dy C) fun hr dy=>Gp 8 Amg rfl Cfb (qF n) (Ax Dy rfl dy) fun hs dz=>Jd 9 (zT 10 6) rfl Cfb (qF n) (Ah (v:=iV i) rfl) (Gp 10 zZ9 rfl Cfb (qF n) (Ri i Ccw Gk rfl dz (q:=(i:Int)) rfl rfl (by omega)) fun ht e0=>Xy 11 Anr rfl Cfb (qF n) (Ba LLot.f_name Ccy rfl ty9 K) fun hu bp=>?_);have g6:=At.slen bp;refine Gh 12 Ajy rfl Cfb (qF n) (Pk ty9 rfl bp) (Vg 13 Ajz rfl (qF n) (Bm (Asm (s:=g.name) e0) Cew rfl rfl ⟨rfl,rfl,trivial⟩ ⟨Cfb,?_⟩));refine Gh 14 Aka rfl Cfb (qF n) (Uy rfl rfl) (Cf 15 Akb rfl (Bn rfl n (v:=.bool (decide ((Dm (b.lots.take i) g.name)>=0))) rfl) (Ec rfl (kk bc ?_)));refine Bp (t:=decide ((Dm (b.lots.take i) g.name)>=0)) rfl (fun ak=>?_) (fun ak=>?_)
 ·have J:=lZ1 ak;refine qA fun f4 cm=>Au (iV 5) (l_k cm (Aj (Cez (Cfc F y)) (Aq (E (rT (iV 5) ?_)))));rw[Nh w (Bni H (Aos.2 (.inr J)))]
 have J:=lZ2 ak;refine Al (kk ck ?_);refine qD fun f5 f6 cn co=>Arw (Ba LLot.f_parts Ccy rfl Gb K) fun hv e1=>Arw (Ax Gb rfl e1) fun hw bq=>?_;have g7:=Val.len bq;refine l_v (Ci (el:=127) Ccz rfl bq) (Arv (Cj Azv Cdv ?_));refine l_v (Iy rfl) (l_k co (Bp (t:=!(inR (g.parts.length:Int) 1 6)) rfl (fun al=>?_) (fun al=>?_)))
 ·have b6:=not_eq_t al;have gt:=Xo.1 b6;refine qA fun f7 cp=>Au (iV 2) (l_k cp (Aj (Cez (Cfc F y)) (Aq (E (rT (iV 2) ?_)))));rw[Nh w (Bvd H (Aot I J) b6)]
 have M:=Fp al;have gu:=Fz.1 M;refine Al (kk cn ?_);refine qD fun f8 f9 cq cr=>Au (iV 0) (l_k cr (Ao (Cc (fun mm ee dd Y' Z'=>∃(k:Nat),(g.parts.length-k)=mm/\[]=dd/\eg=Y'/\Z=Z'/\ee 1=iV i/\ee 2=pV k2/\ee 5=pV k9/\ee 6=iV k/\(k<=g.parts.length)/\(∀j,j<k->Agq (Ix (Ic b.fields) (b.lots.take i)) (tkM (b.lots.take i)) g.parts j=0)/\True) (m:=_) ⟨0,rfl,rfl,rfl,rfl,rfl,rfl,rfl,rfl,Hr _,fun j h=>absurd h (Td _),trivial⟩ ?_)));rintro gl fs _ _ _ ⟨k,rfl,rfl,rfl,rfl,au,a8,a9,aa,go,G,_⟩;refine qD fun fa fb cs ct=>l_v (Ah (v:=iV k) aa) (Arw (Ba LLot.f_parts Ccy rfl Gb K a9) fun hy e2=>Arw (Ax Gb rfl e2) fun hz br=>?_);have g8:=Val.len br;refine l_v (Ci (el:=127) Ccz rfl br) (l_v (Da rfl rfl) (l_k ct (Bp (t:=decide ((k:Int)<(g.parts.length:Int))) rfl (fun am=>?_) (fun am=>?_))))
 ·have d8:=lZ1 am;refine Al (kk cs ?_);refine Ai fun fc ae=>Ao (qA fun fd cu=>Arw (Ba LLot.f_parts Ccy rfl Gb K a9) fun i0 e3=>Arw (Ax Gb rfl e3) fun i1 e4=>l_v (Ah (v:=iV k) aa) ?_);obtain⟨d,D⟩:=Ed (xs:=g.parts) (i:=k) (by omega);refine Arw (Ch k Ccz Im rfl e4 (q:=(k:Int)) rfl rfl D) fun i2 e5=>Arw (Ax Im rfl e5) fun ef bt=>Arv (Ct Aod fun bd=>?_);refine Cx rfl (Dv (v:=ef) (a:=d) (c:=Aoc) Im rfl rfl bt rfl ?_);refine Bb (a:=d) bt fun c1 B L=>?_;replace C:=At.mono B C;replace K:=At.mono B K;refine Asa cu fun fe cv=>Rw (Fd 0 (zT 1 7) rfl (Ba LBook.f_lots Cct rfl Dy C a8) fun i3 e6=>Fd 1 (zT 2 6) rfl (Ax Dy rfl e6) fun i4 e7=>Ef 2 (zT 3 5) rfl (Ah (v:=iV i) au) (Fd 3 (zT 4 4) rfl (Ri i Ccw Gk rfl e7 (q:=(i:Int)) rfl rfl (by omega)) fun i5 e8=>Fm 4 (zT 5 3) rfl (Ba LPart.f_of_ Ccx rfl ty9 L) fun i6 bu=>?_));have g9:=At.slen bu;refine Cf 5 (zT 6 2) rfl (Pk ty9 rfl bu) (Ma 6 (zT 7 1) rfl (Bm (Asm (s:=d.of_) e8) Cew rfl rfl ⟨rfl,rfl,trivial⟩ ⟨Cfb,?_⟩));refine Cf 7 (zT 8 0) rfl (Cp (v:=iV (Dm (b.lots.take i) d.of_)) rfl) (Ec rfl (kk cv ?_));refine qD fun ff fg be bf=>Av (iV (Dm (b.lots.take i) d.of_)) (l_v (Da rfl rfl) (Av (.bool (decide ((Dm (b.lots.take i) d.of_)<0))) (Cn (decide ((Dm (b.lots.take i) d.of_)<0)) (fun u=>?_) (fun u=>?_))))
  ·have d9:=lZ1 u;refine Ak (qF u) (Ba LBook.f_fields Cct rfl Hw C a8) fun i7 e9=>Ak (qF u) (Ax Hw rfl e9) fun i8 ea=>Ak (qF u) (Ba LPart.f_of_ Ccx rfl ty9 L) fun i9 bv=>?_;have ga:=At.slen bv;refine Aa (qF u) (Pk ty9 rfl bv) (Ae (qF u) (Cj (Asg ea) Cei ?_));refine Aa (qF u) (Da rfl rfl) (l_v (Bt rfl u (v:=.bool (decide (Aht b.fields d.of_<0))) rfl) (l_k bf (Bp (t:=decide (Aht b.fields d.of_<0)) rfl (fun an=>?_) (fun an=>?_))))
   ·have da:=lZ1 an;refine qA fun fh cw=>Au (iV 6) (l_k cw (Aj (Cez (Cfc (Cfc F y) B)) (Aq (E (rT (iV 6) ?_)))));rw[Nh w ((Yj H (Aot I J) M).trans (by rw[Hv,Db G (by omega) (Ia D (Ben (Aot (by omega) (by omega)))) (by decide)]))]
   have da:=lZ2 an;refine Al (kk be ?_);refine qD fun fi fj cx cy=>Au (iV 0) (l_k cy (Ao (Cc (fun mm ee dd Y' Z'=>∃(j:Nat),(k-j)=mm/\[]=dd/\c1=Y'/\Z=Z'/\ee 1=iV i/\ee 2=pV k2/\ee 5=pV k9/\ee 6=iV k/\ee 7=pV bd/\ee 8=(iV (Dm (b.lots.take i) d.of_))/\ee 9=iV j/\(j<=k)/\(Ib (g.parts.take j) d.of_=false)/\True) (m:=_) ⟨0,rfl,rfl,rfl,rfl,au,a8,a9,aa,rfl,rfl,rfl,Hr _,rfl,trivial⟩ ?_)));rintro gm ft _ _ _ ⟨j,rfl,rfl,rfl,rfl,ab,V,ac,ad,W,av,aw,gp,a1,_⟩;refine qD fun fk fl cz d0=>l_v (Ah (v:=iV j) aw) (l_v (Ah (v:=iV k) ad) (l_v (Da rfl rfl) (l_k d0 (Bp (t:=decide ((j:Int)<(k:Int))) rfl (fun ao=>?_) (fun ao=>?_)))))
   ·have db:=lZ1 ao;refine Al (kk cz ?_);refine Ai fun fm d1=>Ao (Ai fun fn d2=>Rw (Fd 0 zZ2 rfl (Ba LLot.f_parts Ccy rfl Gb K ac) fun ia eb=>Fd 1 zZ3 rfl (Ax Gb rfl eb) fun ib ec=>Ef 2 zZ4 rfl (Ah (v:=iV j) aw) ?_));obtain⟨b4,ay⟩:=Ed (xs:=g.parts) (i:=j) (by omega);refine Fd 3 zZ6 rfl (Ch j Ccz Im rfl ec (q:=(j:Int)) rfl rfl ay) fun ic ed=>Fd 4 zZ7 rfl (Ba LPart.f_of_ Ccx rfl ty9 ed) fun ie bx=>?_;have gb:=At.slen bx;refine Ef 5 zZ8 rfl (Pk ty9 rfl bx) (Fm 6 zZ5 rfl (Ba LPart.f_of_ Ccx rfl ty9 L W) fun ig bz=>?_);have gc:=At.slen bz;refine Cf 7 zZ0 rfl (Pk ty9 rfl bz) (Cf 8 zZ1 rfl (Ahy (p:=b4.of_) (q:=d.of_) rfl rfl) (Ec rfl (kk d2 ?_)));refine Bp (t:=(b4.of_).toList==(d.of_).toList) rfl (fun R=>?_) (fun R=>?_)
    ·have dc:=Jr R;refine qA fun fo d3=>Au (iV 5) (l_k d3 (Aj (Cez (Cfc (Cfc F y) B)) (Aq (E (rT (iV 5) ?_)))));rw[Nh w ((Yj H (Aot I J) M).trans (by rw[Hv,Db G (by omega) (Ia D (Atv (Aos.2 (.inl (by omega))) (Ayv ay (by omega) R))) (by decide)]))]
    have dc:=Jq R;refine Al (kk d1 ?_);refine qB (l_v (Ah (v:=iV j) aw) (l_v (Em (((j+1):Nat):Int)) (Au (iV ((j+1):Nat)) (Ac ?_))));refine⟨_,?_,(j+1),rfl,rfl,rfl,rfl,ab,V,ac,ad,W,av,rfl,(by omega),(Bfi ay R a1),trivial⟩;omega
   have db:=lZ2 ao;refine Bx (kk cx ?_);refine qD fun fp fq d4 d5=>Arw (Ba LPart.f_grams Ccx rfl ty3 L W) fun ih c0=>?_;have⟨gd,ge⟩:=At.rng c0;refine l_v (Bc ty3 rfl c0) (Arv (Cj Azv Cdv ?_));refine l_v (Iy rfl) (l_k d5 (Bp (t:=!(inR d.grams 1 100000)) rfl (fun ap=>?_) (fun ap=>?_)))
   ·have b7:=not_eq_t ap;have gv:=Xo.1 b7;refine qA fun eh c3=>Au (iV 1) (l_k c3 (Aj (Cez (Cfc (Cfc F y) B)) (Aq (E (rT (iV 1) ?_)))));rw[Nh w ((Yj H (Aot I J) M).trans (by rw[Hv,Db G (by omega) (Ia D (Atu (Aos.2 (.inl (by omega))) (show Ib (g.parts.take k) _=false by rw[show k=j by omega];exact a1) b7)) (by decide)]))]
   have a2:=Fp ap;have gq:=Fz.1 a2;refine Al (kk d4 ?_);refine Ai fun ei ba=>Rw (Cf 0 (zT 1 20) rfl (Ah (v:=iV (Dm (b.lots.take i) d.of_)) av) (Cf 1 (zT 2 19) rfl (Uy rfl rfl) (Cf 2 (zT 3 18) rfl (Ah (v:=.bool (decide ((Dm (b.lots.take i) d.of_)>=0))) rfl) (Akk (decide ((Dm (b.lots.take i) d.of_)>=0)) (fun e=>?_) (fun e=>?_)))))
   ·have hkb:=Bch (s:=d.of_) (l:=b.lots.take i) (fun x hx=>Rx ok x hx);have hkl:(b.lots.take i).length<=8:=by rw[Jb];omega
    have N:=lZ1 e;refine Gp 3 (zT 4 17) rfl Cfb (qF e) (Ba LBook.f_lots Cct rfl Dy C V) fun gw de=>Gp 4 (zT 5 16) rfl Cfb (qF e) (Ax Dy rfl de) fun gx df=>Jd 5 (zT 6 15) rfl Cfb (qF e) (Ah (v:=iV i) ab) (Gp 6 (zT 7 14) rfl Cfb (qF e) (Ri i Ccw Gk rfl df (q:=(i:Int)) rfl rfl (by first|omega|exact Adx N)) fun gy dg=>Gp 7 (zT 8 13) rfl Cfb (qF e) (Ba LPart.f_of_ Ccx rfl ty9 L W) fun gz bg=>?_);have fu:=At.slen bg;refine Jd 8 (zT 9 12) rfl Cfb (qF e) (Pk ty9 rfl bg) (Gp 10 [o1,o1,o1,o1,o1,o1,o1,o1,o1,o0,o1,o0,o0,o0,o0,o0,o0,o0,o0,o0,o0] rfl Cfb (qF e) (Ba LPart.f_grams Ccx rfl ty3 L W) fun h0 bh=>?_);have⟨fv,fw⟩:=At.rng bh;refine Jd 11 [o1,o1,o1,o1,o1,o1,o1,o1,o1,o0,o1,o1,o0,o0,o0,o0,o0,o0,o0,o0,o0] rfl Cfb (qF e) (Bc ty3 rfl bh) (Gp 13 [o1,o1,o1,o1,o1,o1,o1,o1,o1,o0,o1,o1,o0,o1,o0,o0,o0,o0,o0,o0,o0] rfl Cfb (qF e) (Ba LBook.f_lots Cct rfl Dy C V) fun h1 dh=>Gp 14 [o1,o1,o1,o1,o1,o1,o1,o1,o1,o0,o1,o1,o0,o1,o1,o0,o0,o0,o0,o0,o0] rfl Cfb (qF e) (Ax Dy rfl dh) fun h2 di=>Jd 15 [o1,o1,o1,o1,o1,o1,o1,o1,o1,o0,o1,o1,o0,o1,o1,o1,o0,o0,o0,o0,o0] rfl Cfb (qF e) (Ah (v:=iV (Dm (b.lots.take i) d.of_)) av) ?_);obtain⟨b1,b8⟩:=Ed (xs:=b.lots) (i:=((Dm (b.lots.take i) d.of_)).toNat) (by first|omega|exact Adx N);have YQ:=Bfn b8 N;have gh:=Pq ok YQ;have gf:=(ok.lnm _ _ YQ).2.2.2.2;refine Gp 16 [o1,o1,o1,o1,o1,o1,o1,o1,o1,o0,o1,o1,o0,o1,o1,o1,o1,o0,o0,o0,o0] rfl Cfb (qF e) (Ch (((Dm (b.lots.take i) d.of_)).toNat) Ccw Gk rfl di (q:=Dm (b.lots.take i) d.of_) rfl (by omega) b8) fun h3 dj=>Gp 17 [o1,o1,o1,o1,o1,o1,o1,o1,o1,o0,o1,o1,o0,o1,o1,o1,o1,o1,o0,o0,o0] rfl Cfb (qF e) (Ax Gk rfl dj) fun h4 dk=>Vg 9 [o1,o1,o1,o1,o1,o1,o1,o1,o1,o1,o1,o1,o0,o1,o1,o1,o1,o1,o0,o0,o0] rfl (qF e) (Bm (Bcx (s:=d.of_) dg (by rw[Jb];omega) (fun x hx=>Rx ok x hx)) Tryz.func84 rfl rfl ⟨rfl,rfl,trivial⟩ ⟨Cfb,?_⟩);refine Jd 12 (zT 18 3) rfl Cfb (qF e) (Br rfl rfl (z:=(tkO d.of_ (b.lots.take i))+d.grams) (Bo (by rfl) (by omega) (by omega))) (Vg 18 (zT 19 2) rfl (qF e) (Bm (Ash dk (by omega) (fun p hp=>by have:=(Rx ok _ (lZ5 YQ)).2 p hp;omega)) Cem rfl rfl ⟨rfl,trivial⟩ ⟨Cfb,?_⟩));refine Gh 19 (zT 20 1) rfl Cfb (qF e) (Gl rfl rfl) (Cf 20 (zT 21 0) rfl (Bt rfl e (v:=.bool (decide (((tkO d.of_ (b.lots.take i))+d.grams)>(Eo b1)))) rfl) (Ec rfl (kk ba ?_)));refine Bp (t:=decide (((tkO d.of_ (b.lots.take i))+d.grams)>(Eo b1))) rfl (fun af=>?_) (fun af=>?_)
    ·have az:=lZ1 af;refine qA fun ek c5=>Au (iV 8) (l_k c5 (Aj (Cez (Cfc (Cfc F y) B)) (Aq (E (rT (iV 8) ?_)))));rw[Nh w ((Yj H (Aot I J) M).trans (by rw[Hv,Db G (by omega) (Ia D (Bfb ok (show Ib (g.parts.take k) _=false by rw[show k=j by omega];exact a1) a2 N YQ az)) (by decide)]))]
    have az:=lZ2 af;refine Al (kk ae ?_);refine qB (l_v (Ah (v:=iV k) ad) (l_v (Em (((k+1):Nat):Int)) (Au (iV ((k+1):Nat)) (Bj (Cez B) (Ac ?_)))));refine⟨_,?_,(k+1),rfl,rfl,rfl,rfl,ab,V,ac,rfl,(by omega),(Eg G (Ia D (Axy ok (show Ib (g.parts.take k) _=false by rw[show k=j by omega];exact a1) a2 N YQ az))),trivial⟩;omega
   have N:=lZ2 e;refine Ds 3 (zT 4 17) rfl Cfb (gN rfl e) (Ds 4 (zT 5 16) rfl Cfb (gN rfl e) (Ds 5 (zT 6 15) rfl Cfb (gN rfl e) (Ds 6 (zT 7 14) rfl Cfb (gN rfl e) (Ds 7 (zT 8 13) rfl Cfb (gN rfl e) (Ds 8 (zT 9 12) rfl Cfb (gN rfl e) (Ds 10 [o1,o1,o1,o1,o1,o1,o1,o1,o1,o0,o1,o0,o0,o0,o0,o0,o0,o0,o0,o0,o0] rfl Cfb (gN rfl e) (Ds 11 [o1,o1,o1,o1,o1,o1,o1,o1,o1,o0,o1,o1,o0,o0,o0,o0,o0,o0,o0,o0,o0] rfl Cfb (gN rfl e) (Ds 13 [o1,o1,o1,o1,o1,o1,o1,o1,o1,o0,o1,o1,o0,o1,o0,o0,o0,o0,o0,o0,o0] rfl Cfb (gN rfl e) (Ds 14 [o1,o1,o1,o1,o1,o1,o1,o1,o1,o0,o1,o1,o0,o1,o1,o0,o0,o0,o0,o0,o0] rfl Cfb (gN rfl e) (Ds 15 [o1,o1,o1,o1,o1,o1,o1,o1,o1,o0,o1,o1,o0,o1,o1,o1,o0,o0,o0,o0,o0] rfl Cfb (gN rfl e) (Ds 16 [o1,o1,o1,o1,o1,o1,o1,o1,o1,o0,o1,o1,o0,o1,o1,o1,o1,o0,o0,o0,o0] rfl Cfb (gN rfl e) (Ds 17 [o1,o1,o1,o1,o1,o1,o1,o1,o1,o0,o1,o1,o0,o1,o1,o1,o1,o1,o0,o0,o0] rfl Cfb (gN rfl e) (En 9 [o1,o1,o1,o1,o1,o1,o1,o1,o1,o1,o1,o1,o0,o1,o1,o1,o1,o1,o0,o0,o0] rfl Cfb (gN rfl e) (Ds 12 (zT 18 3) rfl Cfb (gN rfl e) (En 18 (zT 19 2) rfl Cfb (gN rfl e) (En 19 (zT 20 1) rfl Cfb (gN rfl e) (Cf 20 (zT 21 0) rfl (Bn rfl e (v:=bF) rfl) (Ec rfl (kk ba ?_)))))))))))))))))));refine Cg rfl rfl (Al (kk ae ?_));refine qB (l_v (Ah (v:=iV k) ad) (l_v (Em (((k+1):Nat):Int)) (Au (iV ((k+1):Nat)) (Bj (Cez B) (Ac ?_)))));refine⟨_,?_,(k+1),rfl,rfl,rfl,rfl,ab,V,ac,rfl,(by omega),(Eg G (Ia D (Axx (show Ib (g.parts.take k) _=false by rw[show k=j by omega];exact a1) a2 N (by omega)))),trivial⟩;omega
  have d9:=lZ2 u;refine Ap (gN rfl u) (Ap (gN rfl u) (Ap (gN rfl u) (Ap (gN rfl u) (Ap (gN rfl u) (Ap (gN rfl u) (l_v (Bn rfl u (v:=bF) rfl) (l_k bf (Cg rfl rfl (Al (kk be ?_))))))))));refine qD fun em en c6 c7=>Au (iV 0) (l_k c7 (Ao (Cc (fun mm ee dd Y' Z'=>∃(j:Nat),(k-j)=mm/\[]=dd/\c1=Y'/\Z=Z'/\ee 1=iV i/\ee 2=pV k2/\ee 5=pV k9/\ee 6=iV k/\ee 7=pV bd/\ee 8=(iV (Dm (b.lots.take i) d.of_))/\ee 9=iV j/\(j<=k)/\(Ib (g.parts.take j) d.of_=false)/\True) (m:=_) ⟨0,rfl,rfl,rfl,rfl,au,a8,a9,aa,rfl,rfl,rfl,Hr _,rfl,trivial⟩ ?_)));rintro gk fr _ _ _ ⟨j,rfl,rfl,rfl,rfl,a4,T,a5,a6,U,aq,ar,gn,a0,_⟩;refine qD fun ep eq c9 ca=>l_v (Ah (v:=iV j) ar) (l_v (Ah (v:=iV k) a6) (l_v (Da rfl rfl) (l_k ca (Bp (t:=decide ((j:Int)<(k:Int))) rfl (fun ag=>?_) (fun ag=>?_)))))
  ·have d6:=lZ1 ag;refine Al (kk c9 ?_);refine Ai fun er cb=>Ao (Ai fun es cc=>Rw (Fd 0 zZ2 rfl (Ba LLot.f_parts Ccy rfl Gb K a5) fun h5 dl=>Fd 1 zZ3 rfl (Ax Gb rfl dl) fun h6 dm=>Ef 2 zZ4 rfl (Ah (v:=iV j) ar) ?_));obtain⟨b2,ax⟩:=Ed (xs:=g.parts) (i:=j) (by omega);refine Fd 3 zZ6 rfl (Ch j Ccz Im rfl dm (q:=(j:Int)) rfl rfl ax) fun h7 dn=>Fd 4 zZ7 rfl (Ba LPart.f_of_ Ccx rfl ty9 dn) fun h9 bj=>?_;have fx:=At.slen bj;refine Ef 5 zZ8 rfl (Pk ty9 rfl bj) (Fm 6 zZ5 rfl (Ba LPart.f_of_ Ccx rfl ty9 L U) fun ha bk=>?_);have fy:=At.slen bk;refine Cf 7 zZ0 rfl (Pk ty9 rfl bk) (Cf 8 zZ1 rfl (Ahy (p:=b2.of_) (q:=d.of_) rfl rfl) (Ec rfl (kk cc ?_)));refine Bp (t:=(b2.of_).toList==(d.of_).toList) rfl (fun P=>?_) (fun P=>?_)
   ·have d7:=Jr P;refine qA fun et cd=>Au (iV 5) (l_k cd (Aj (Cez (Cfc (Cfc F y) B)) (Aq (E (rT (iV 5) ?_)))));rw[Nh w ((Yj H (Aot I J) M).trans (by rw[Hv,Db G (by omega) (Ia D (Atv (Aos.2 (.inr (by omega))) (Ayv ax (by omega) P))) (by decide)]))]
   have d7:=Jq P;refine Al (kk cb ?_);refine qB (l_v (Ah (v:=iV j) ar) (l_v (Em (((j+1):Nat):Int)) (Au (iV ((j+1):Nat)) (Ac ?_))));refine⟨_,?_,(j+1),rfl,rfl,rfl,rfl,a4,T,a5,a6,U,aq,rfl,(by omega),(Bfi ax P a0),trivial⟩;omega
  have d6:=lZ2 ag;refine Bx (kk c6 ?_);refine qD fun eu ev ce cf=>Arw (Ba LPart.f_grams Ccx rfl ty3 L U) fun hb bl=>?_;have⟨fz,g0⟩:=At.rng bl;refine l_v (Bc ty3 rfl bl) (Arv (Cj Azv Cdv ?_));refine l_v (Iy rfl) (l_k cf (Bp (t:=!(inR d.grams 1 100000)) rfl (fun ah=>?_) (fun ah=>?_)))
  ·have b5:=not_eq_t ah;have gr:=Xo.1 b5;refine qA fun ew cg=>Au (iV 1) (l_k cg (Aj (Cez (Cfc (Cfc F y) B)) (Aq (E (rT (iV 1) ?_)))));rw[Nh w ((Yj H (Aot I J) M).trans (by rw[Hv,Db G (by omega) (Ia D (Atu (Aos.2 (.inr (by omega))) (show Ib (g.parts.take k) _=false by rw[show k=j by omega];exact a0) b5)) (by decide)]))]
  have a3:=Fp ah;have gs:=Fz.1 a3;refine Al (kk ce ?_);refine Ai fun ex bb=>Rw (Cf 0 (zT 1 20) rfl (Ah (v:=iV (Dm (b.lots.take i) d.of_)) aq) (Cf 1 (zT 2 19) rfl (Uy rfl rfl) (Cf 2 (zT 3 18) rfl (Ah (v:=.bool (decide ((Dm (b.lots.take i) d.of_)>=0))) rfl) (Akk (decide ((Dm (b.lots.take i) d.of_)>=0)) (fun f=>?_) (fun f=>?_)))))
  ·have hkb:=Bch (s:=d.of_) (l:=b.lots.take i) (fun x hx=>Rx ok x hx);have hkl:(b.lots.take i).length<=8:=by rw[Jb];omega
   have O:=lZ1 f;refine Gp 3 (zT 4 17) rfl Cfb (qF f) (Ba LBook.f_lots Cct rfl Dy C T) fun hc dp=>Gp 4 (zT 5 16) rfl Cfb (qF f) (Ax Dy rfl dp) fun hd dq=>Jd 5 (zT 6 15) rfl Cfb (qF f) (Ah (v:=iV i) a4) (Gp 6 (zT 7 14) rfl Cfb (qF f) (Ri i Ccw Gk rfl dq (q:=(i:Int)) rfl rfl (by first|omega|exact Adx O)) fun he dr=>Gp 7 (zT 8 13) rfl Cfb (qF f) (Ba LPart.f_of_ Ccx rfl ty9 L U) fun hf bm=>?_);have g2:=At.slen bm;refine Jd 8 (zT 9 12) rfl Cfb (qF f) (Pk ty9 rfl bm) (Gp 10 [o1,o1,o1,o1,o1,o1,o1,o1,o1,o0,o1,o0,o0,o0,o0,o0,o0,o0,o0,o0,o0] rfl Cfb (qF f) (Ba LPart.f_grams Ccx rfl ty3 L U) fun hg bn=>?_);have⟨g3,g4⟩:=At.rng bn;refine Jd 11 [o1,o1,o1,o1,o1,o1,o1,o1,o1,o0,o1,o1,o0,o0,o0,o0,o0,o0,o0,o0,o0] rfl Cfb (qF f) (Bc ty3 rfl bn) (Gp 13 [o1,o1,o1,o1,o1,o1,o1,o1,o1,o0,o1,o1,o0,o1,o0,o0,o0,o0,o0,o0,o0] rfl Cfb (qF f) (Ba LBook.f_lots Cct rfl Dy C T) fun hh ds=>Gp 14 [o1,o1,o1,o1,o1,o1,o1,o1,o1,o0,o1,o1,o0,o1,o1,o0,o0,o0,o0,o0,o0] rfl Cfb (qF f) (Ax Dy rfl ds) fun hk dt=>Jd 15 [o1,o1,o1,o1,o1,o1,o1,o1,o1,o0,o1,o1,o0,o1,o1,o1,o0,o0,o0,o0,o0] rfl Cfb (qF f) (Ah (v:=iV (Dm (b.lots.take i) d.of_)) aq) ?_);obtain⟨b3,b9⟩:=Ed (xs:=b.lots) (i:=((Dm (b.lots.take i) d.of_)).toNat) (by first|omega|exact Adx O);have ZQ:=Bfn b9 O;have gi:=Pq ok ZQ;have gg:=(ok.lnm _ _ ZQ).2.2.2.2;refine Gp 16 [o1,o1,o1,o1,o1,o1,o1,o1,o1,o0,o1,o1,o0,o1,o1,o1,o1,o0,o0,o0,o0] rfl Cfb (qF f) (Ch (((Dm (b.lots.take i) d.of_)).toNat) Ccw Gk rfl dt (q:=Dm (b.lots.take i) d.of_) rfl (by omega) b9) fun hl du=>Gp 17 [o1,o1,o1,o1,o1,o1,o1,o1,o1,o0,o1,o1,o0,o1,o1,o1,o1,o1,o0,o0,o0] rfl Cfb (qF f) (Ax Gk rfl du) fun hm dv=>Vg 9 [o1,o1,o1,o1,o1,o1,o1,o1,o1,o1,o1,o1,o0,o1,o1,o1,o1,o1,o0,o0,o0] rfl (qF f) (Bm (Bcx (s:=d.of_) dr (by rw[Jb];omega) (fun x hx=>Rx ok x hx)) Tryz.func84 rfl rfl ⟨rfl,rfl,trivial⟩ ⟨Cfb,?_⟩);refine Jd 12 (zT 18 3) rfl Cfb (qF f) (Br rfl rfl (z:=(tkO d.of_ (b.lots.take i))+d.grams) (Bo (by rfl) (by omega) (by omega))) (Vg 18 (zT 19 2) rfl (qF f) (Bm (Ash dv (by omega) (fun p hp=>by have:=(Rx ok _ (lZ5 ZQ)).2 p hp;omega)) Cem rfl rfl ⟨rfl,trivial⟩ ⟨Cfb,?_⟩));refine Gh 19 (zT 20 1) rfl Cfb (qF f) (Gl rfl rfl) (Cf 20 (zT 21 0) rfl (Bt rfl f (v:=.bool (decide (((tkO d.of_ (b.lots.take i))+d.grams)>(Eo b3)))) rfl) (Ec rfl (kk bb ?_)));refine Bp (t:=decide (((tkO d.of_ (b.lots.take i))+d.grams)>(Eo b3))) rfl (fun aj=>?_) (fun aj=>?_)
   ·have b0:=lZ1 aj;refine qA fun ey ch=>Au (iV 8) (l_k ch (Aj (Cez (Cfc (Cfc F y) B)) (Aq (E (rT (iV 8) ?_)))));rw[Nh w ((Yj H (Aot I J) M).trans (by rw[Hv,Db G (by omega) (Ia D (Bfb ok (show Ib (g.parts.take k) _=false by rw[show k=j by omega];exact a0) a3 O ZQ b0)) (by decide)]))]
   have b0:=lZ2 aj;refine Al (kk ae ?_);refine qB (l_v (Ah (v:=iV k) a6) (l_v (Em (((k+1):Nat):Int)) (Au (iV ((k+1):Nat)) (Bj (Cez B) (Ac ?_)))));refine⟨_,?_,(k+1),rfl,rfl,rfl,rfl,a4,T,a5,rfl,(by omega),(Eg G (Ia D (Axy ok (show Ib (g.parts.take k) _=false by rw[show k=j by omega];exact a0) a3 O ZQ b0))),trivial⟩;omega
  have O:=lZ2 f;refine Ds 3 (zT 4 17) rfl Cfb (gN rfl f) (Ds 4 (zT 5 16) rfl Cfb (gN rfl f) (Ds 5 (zT 6 15) rfl Cfb (gN rfl f) (Ds 6 (zT 7 14) rfl Cfb (gN rfl f) (Ds 7 (zT 8 13) rfl Cfb (gN rfl f) (Ds 8 (zT 9 12) rfl Cfb (gN rfl f) (Ds 10 [o1,o1,o1,o1,o1,o1,o1,o1,o1,o0,o1,o0,o0,o0,o0,o0,o0,o0,o0,o0,o0] rfl Cfb (gN rfl f) (Ds 11 [o1,o1,o1,o1,o1,o1,o1,o1,o1,o0,o1,o1,o0,o0,o0,o0,o0,o0,o0,o0,o0] rfl Cfb (gN rfl f) (Ds 13 [o1,o1,o1,o1,o1,o1,o1,o1,o1,o0,o1,o1,o0,o1,o0,o0,o0,o0,o0,o0,o0] rfl Cfb (gN rfl f) (Ds 14 [o1,o1,o1,o1,o1,o1,o1,o1,o1,o0,o1,o1,o0,o1,o1,o0,o0,o0,o0,o0,o0] rfl Cfb (gN rfl f) (Ds 15 [o1,o1,o1,o1,o1,o1,o1,o1,o1,o0,o1,o1,o0,o1,o1,o1,o0,o0,o0,o0,o0] rfl Cfb (gN rfl f) (Ds 16 [o1,o1,o1,o1,o1,o1,o1,o1,o1,o0,o1,o1,o0,o1,o1,o1,o1,o0,o0,o0,o0] rfl Cfb (gN rfl f) (Ds 17 [o1,o1,o1,o1,o1,o1,o1,o1,o1,o0,o1,o1,o0,o1,o1,o1,o1,o1,o0,o0,o0] rfl Cfb (gN rfl f) (En 9 [o1,o1,o1,o1,o1,o1,o1,o1,o1,o1,o1,o1,o0,o1,o1,o1,o1,o1,o0,o0,o0] rfl Cfb (gN rfl f) (Ds 12 (zT 18 3) rfl Cfb (gN rfl f) (En 18 (zT 19 2) rfl Cfb (gN rfl f) (En 19 (zT 20 1) rfl Cfb (gN rfl f) (Cf 20 (zT 21 0) rfl (Bn rfl f (v:=bF) rfl) (Ec rfl (kk bb ?_)))))))))))))))))));refine Cg rfl rfl (Al (kk ae ?_));refine qB (l_v (Ah (v:=iV k) a6) (l_v (Em (((k+1):Nat):Int)) (Au (iV ((k+1):Nat)) (Bj (Cez B) (Ac ?_)))));refine⟨_,?_,(k+1),rfl,rfl,rfl,rfl,a4,T,a5,rfl,(by omega),(Eg G (Ia D (Axx (show Ib (g.parts.take k) _=false by rw[show k=j by omega];exact a0) a3 O (by omega)))),trivial⟩;omega
 have d8:=lZ2 am;refine Bx (kk cq ?_);refine qA fun ez ci=>Au (iV 0) (l_k ci (Aj (Cez (Cfc F y)) (Aq (E (rT (iV 0) ?_)))));rw[Nh w ((Yj H (Aot I J) M).trans (by rw[Hv,Fb fun j hj=>G j (by omega)]))]
theorem Acw{b:LBook}{vb:Value}(rv:Val Y vb b):CallsH (CX mn X) 17 #[vb] Y Z (rP Y Z (iV (Hd b))):=by
 refine Bq 52 [2] Tryz.func17 rfl fun Q g bv=>qA fun K1 V=>Arv (Jl (v:=vb) rfl fun K=>?_);refine Bb (a:=b) rv fun T k c=>Au (iV 0) (Ary rfl rfl V fun K3 K4 k3 k4=>Arw (Ba LBook.f_fields Cct rfl Hw c) fun v5 r5=>Arw (Ax Hw rfl r5) fun v6 R=>?_);have g7:=Val.len R;refine l_v (Ci (el:=9) Ccv rfl R) (l_v (Gl rfl rfl) (l_k k4 (Bp (t:=decide ((b.fields.length:Int)>5)) rfl (fun D=>?_) (fun D=>?_))))
 ·have q8:=lZ1 D;refine qA fun K9 k9=>Au (iV 2) (l_k k9 (Aj (Cez k) (Aq (g (rT (iV 2) ?_)))));rw[Bel (by omega)]
 have q8:=lZ2 D;refine Al (kk k3 ?_);refine qD fun b0 b1 W YQ=>Au (iV 0) (l_k YQ (Ao (Cc (fun mm ee dd Y' Z'=>∃(f:Nat),(b.fields.length-f)=mm/\[]=dd/\T=Y'/\Z=Z'/\ee 1=pV K/\ee 3=iV f/\(f<=b.fields.length)/\(∀j,j<f->Jp b.fields j=0)/\True) (m:=_) ⟨0,rfl,rfl,rfl,rfl,rfl,rfl,Hr _,fun j h=>absurd h (Td _),trivial⟩ ?_)));rintro bx bn _ _ _ ⟨f,rfl,rfl,rfl,rfl,d,p,c0,e,_⟩;refine qD fun b2 b3 ZQ a0=>l_v (Ah (v:=iV f) p) (Arw (Ba LBook.f_fields Cct rfl Hw c d) fun c2 an=>Arw (Ax Hw rfl an) fun c3 L=>?_);have bp:=Val.len L;refine l_v (Ci (el:=9) Ccv rfl L) (l_v (Da rfl rfl) (l_k a0 (Bp (t:=decide ((f:Int)<(b.fields.length:Int))) rfl (fun y=>?_) (fun y=>?_))))
 ·have aj:=lZ1 y;refine Al (kk ZQ ?_);refine Ai fun b4 a1=>Ao (qD fun b5 b6 a2 a3=>Arw (Ba LBook.f_fields Cct rfl Hw c d) fun c4 ao=>Arw (Ax Hw rfl ao) fun c5 ap=>l_v (Ah (v:=iV f) p) ?_);obtain⟨H,u⟩:=Ed (xs:=b.fields) (i:=f) (by omega);refine Arw (Ch f Ccv ty9 rfl ap (q:=(f:Int)) rfl rfl u) fun c6 M=>?_;have bq:=At.slen M;refine l_v (Pk ty9 rfl M) (Arv (Cj Bkh Tryz.func48 ?_));refine l_v (Iy rfl) (l_k a3 (Bp (t:=!(Hg H)) rfl (fun z=>?_) (fun z=>?_)))
  ·have U:=not_eq_t z;refine qA fun b7 a4=>Au (iV 4) (l_k a4 (Aj (Cez k) (Aq (g (rT (iV 4) ?_)))));rw[Bbl (by omega) (Db e (by omega) (Bkz u U) (by decide)) (by decide)]
  have I:=Fp z;refine Al (kk a2 ?_);refine Ai fun b9 a5=>Rw (Fd 0 (zT 1 10) rfl (Ba LBook.f_fields Cct rfl Hw c d) fun c7 aq=>Fd 1 (zT 2 9) rfl (Ax Hw rfl aq) fun c8 ar=>Ef 2 (zT 3 8) rfl (Ah (v:=iV f) p) (Fd 3 (zT 4 7) rfl (Ri f Ccv ty9 rfl ar (q:=(f:Int)) rfl rfl (by omega)) fun c9 au=>Fd 4 (zT 5 6) rfl (Ba LBook.f_fields Cct rfl Hw c d) fun ca av=>Fd 5 (zT 6 5) rfl (Ax Hw rfl av) fun cb aw=>Cf 6 (zT 7 4) rfl (Ah (v:=iV f) p) (Fm 7 (zT 8 3) rfl (Ch f Ccv ty9 rfl aw (q:=(f:Int)) rfl rfl u) fun cc N=>?_)));have br:=At.slen N;refine Cf 8 (zT 9 2) rfl (Pk ty9 rfl N) (Ma 9 (zT 10 1) rfl (Bm (Asg au) Cei rfl rfl ⟨rfl,rfl,trivial⟩ ⟨Cfb,?_⟩));refine Cf 10 (zT 11 0) rfl (Uy rfl rfl) (Ec rfl (kk a5 ?_));refine Bp (t:=decide (Aht (b.fields.take f) H>=0)) rfl (fun B=>?_) (fun B=>?_)
  ·have G:=lZ1 B;refine qA fun ba a6=>Au (iV 5) (l_k a6 (Aj (Cez k) (Aq (g (rT (iV 5) ?_)))));rw[Bbl (by omega) (Db e (by omega) (Bla u I G) (by decide)) (by decide)]
  have G:=lZ2 B;refine Al (kk a1 ?_);refine qB (l_v (Ah (v:=iV f) p) (l_v (Em (((f+1):Nat):Int)) (Au (iV ((f+1):Nat)) (Ac ?_))));refine⟨_,?_,(f+1),rfl,rfl,rfl,rfl,d,rfl,(by omega),(Eg e (Bky u I G)),trivial⟩;omega
 have aj:=lZ2 y;refine Bx (kk W ?_);refine qD fun bb bc a7 a8=>Arw (Ba LBook.f_lots Cct rfl Dy c d) fun cd ax=>Arw (Ax Dy rfl ax) fun ce O=>?_;have bt:=Val.len O;refine l_v (Ci (el:=51) Ccw rfl O) (l_v (Gl rfl rfl) (l_k a8 (Bp (t:=decide ((b.lots.length:Int)>8)) rfl (fun w=>?_) (fun w=>?_))))
 ·have ak:=lZ1 w;refine qA fun bd a9=>Au (iV 2) (l_k a9 (Aj (Cez k) (Aq (g (rT (iV 2) ?_)))));rw[Bem (by omega) (Fb fun j hj=>e j (by omega)) (by omega)]
 have J:b.lots.length<=8:=by have:=lZ2 w;omega
 have ak:=lZ2 w;refine Al (kk a7 ?_);refine qD fun be bf aa ab=>Au (iV 0) (l_k ab (Ao (Cc (fun mm ee dd Y' Z'=>∃(l:Nat),(b.lots.length-l)=mm/\[]=dd/\T=Y'/\Z=Z'/\ee 1=pV K/\ee 4=iV l/\(l<=b.lots.length)/\(∀j,j<l->Nr b j=0)/\True) (m:=_) ⟨0,rfl,rfl,rfl,rfl,d,rfl,Hr _,fun j h=>absurd h (Td _),trivial⟩ ?_)));rintro bz bo _ _ _ ⟨l,rfl,rfl,rfl,rfl,E,F,c1,x,_⟩;refine qD fun bg bh ac ad=>l_v (Ah (v:=iV l) F) (Arw (Ba LBook.f_lots Cct rfl Dy c E) fun cf ay=>Arw (Ax Dy rfl ay) fun cg P=>?_);have bu:=Val.len P;refine l_v (Ci (el:=51) Ccw rfl P) (l_v (Da rfl rfl) (l_k ad (Bp (t:=decide ((l:Int)<(b.lots.length:Int))) rfl (fun C=>?_) (fun C=>?_))))
 ·have al:=lZ1 C;refine Al (kk ac ?_);refine Ai fun bi ae=>Ao (qA fun bj af=>Arw (Ax Gt E c) fun ch az=>l_v (Ah (v:=iV l) F) (Arv (Cj (Azx az (Btc (by omega) (fun j hj=>e j (by omega)) J x) J (by omega)) Tryz.func50 ?_)));refine Au (iV (Nr b l)) (qC af fun bk ag=>Av (iV (Nr b l)) (l_v (Dg rfl rfl) (l_k ag (Bp (t:=(Nr b l) != 0) rfl (fun n=>?_) (fun n=>?_)))))
  ·have am:=Ls n;refine qA fun bl ah=>Av (iV (Nr b l)) (Au (iV (Nr b l)) (l_k ah (Aj (Cez k) (Aq (g (rT (iV (Nr b l)) ?_))))));rw[Yk (by omega) (Fb fun j hj=>e j (by omega)) (by omega) (Db x (by omega) rfl (Ls n))]
  have am:=Jh n;refine Al (kk ae ?_);refine qB (l_v (Ah (v:=iV l) F) (l_v (Em (((l+1):Nat):Int)) (Au (iV ((l+1):Nat)) (Ac ?_))));refine⟨_,?_,(l+1),rfl,rfl,rfl,rfl,E,rfl,(by omega),(Eg x (Jh n)),trivial⟩;omega
 have al:=lZ2 C;refine Bx (kk aa ?_);refine qA fun bm ai=>Au (iV 0) (l_k ai (Aj (Cez k) (Aq (g (rT (iV 0) ?_)))));rw[Yk (by omega) (Fb fun j hj=>e j (by omega)) (by omega) (Fb fun j hj=>x j (by omega))]
theorem Brj{l:LLot}{vl:Value}(rl:Val Y vl l):CallsH (CX mn X) 24 #[vl] Y Z (fun w Y' Z'=>Y'=Y/\Z'=Z/\∃z,w = .int .i64 z):=by
 refine Bq 29 [2] Tryz.func24 rfl fun Q j ab=>qA fun ZQ C=>Arv (Jl (v:=vl) rfl fun I=>?_);refine Bb (a:=l) rl fun YQ k c=>Au (iV 0) (Ary rfl rfl C fun K3 K4 L M=>Arw (Ba LLot.f_parts Ccy rfl Gb c) fun v5 W=>Arw (Ax Gb rfl W) fun v6 y=>?_);have g7:=Val.len y;refine l_v (Ci (el:=127) Ccz rfl y) (l_v (Gl rfl rfl) (l_k M (Bp (t:=decide ((l.parts.length:Int)>40)) rfl (fun e=>?_) (fun e=>?_))))
 ·have P:=lZ1 e;refine qA fun K9 N=>Au (iV 1001) (l_k N (Aj (Cez k) (Aq (j ⟨rfl,rfl,_,rfl⟩))))
 have P:=lZ2 e;refine Al (kk L ?_);refine qA fun a0 D=>Arw (Ba LLot.f_name Ccy rfl ty9 c) fun ae p=>?_;have a8:=At.slen p;refine l_v (Pk ty9 rfl p) (l_v (Afz Ccs (s:=l.name) rfl) (Au (iV (l.name.size:Int)) (Ary rfl rfl D fun a1 a2 E F=>Au (iV 0) (l_k F (Ao (Cc (fun mm ee dd Y' Z'=>∃(i:Nat) (n:Int),(l.parts.length-i)=mm/\[]=dd/\YQ=Y'/\Z=Z'/\ee 1=pV I/\ee 3=iV n/\ee 4=iV i/\(i<=l.parts.length)/\True) (m:=_) ⟨0,(l.name.size:Int),rfl,rfl,rfl,rfl,rfl,rfl,rfl,Hr _,trivial⟩ ?_))))));rintro ac a7 _ _ _ ⟨i,n,rfl,rfl,rfl,rfl,f,h,g,ad,_⟩;refine qD fun a3 a4 G H=>l_v (Ah (v:=iV i) g) (Arw (Ba LLot.f_parts Ccy rfl Gb c f) fun af R=>Arw (Ax Gb rfl R) fun ag u=>?_);have a9:=Val.len u;refine l_v (Ci (el:=127) Ccz rfl u) (l_v (Da rfl rfl) (l_k H (Bp (t:=decide ((i:Int)<(l.parts.length:Int))) rfl (fun d=>?_) (fun d=>?_))))
 ·have O:=lZ1 d;refine Al (kk G ?_);refine Ai fun a5 J=>Ao (qB (l_v (Ah (v:=iV n) h) (Arw (Ba LLot.f_parts Ccy rfl Gb c f) fun ah T=>Arw (Ax Gb rfl T) fun ai U=>l_v (Ah (v:=iV i) g) ?_)));obtain⟨b,B⟩:=Ed (xs:=l.parts) (i:=i) (by omega);refine Arw (Ch i Ccz Im rfl U (q:=(i:Int)) rfl rfl B) fun aj V=>Arw (Ba LPart.f_of_ Ccx rfl ty9 V) fun ak x=>?_;have aa:=At.slen x;refine l_v (Pk ty9 rfl x) (l_v (Afz Ccs (s:=b.of_) rfl) (l_v (Br rfl rfl (z:=IntKind.i64.wrap (n+(b.of_.size:Int))) rfl) (Au (iV (IntKind.i64.wrap (n+(b.of_.size:Int)))) (l_k J (qB (l_v (Ah (v:=iV i) g) (l_v (Em (((i+1):Nat):Int)) (Au (iV ((i+1):Nat)) (Ac ?_)))))))));refine⟨_,?_,(i+1),(IntKind.i64.wrap (n+(b.of_.size:Int))),rfl,rfl,rfl,rfl,f,rfl,rfl,(by omega),trivial⟩;omega
 have O:=lZ2 d;refine Bx (kk E ?_);refine qA fun a6 K=>l_v (Ah (v:=iV n) h) (Au (iV n) (l_k K (Aj (Cez k) (Aq (j ⟨rfl,rfl,_,rfl⟩)))))
theorem Bkc{b:LBook}{vb:Value}(rv:Val Y vb b):CallsH (CX mn X) 6 #[vb] Y Z (fun w Y' Z'=>Y'=Y/\Z'=Z/\∃b,w = .bool b):=by
 refine Bq 48 [2] Tryz.func6 rfl fun Q y b9=>qA fun K1 U=>Arv (Jl (v:=vb) rfl fun G=>?_);refine Bb (a:=b) rv fun N C d=>Au bF (Ary rfl rfl U fun K3 K4 k3 H=>Arw (Ba LBook.f_fields Cct rfl Hw d) fun v5 r5=>Arw (Ax Hw rfl r5) fun v6 M=>?_);have g7:=Val.len M;refine l_v (Ci (el:=9) Ccv rfl M) (l_v (Gl rfl rfl) (Av (.bool (decide ((b.fields.length:Int)>40))) (Cn (decide ((b.fields.length:Int)>40)) (fun c=>?_) (fun c=>?_))))
 ·have q8:=lZ1 c;refine Ap (gN rfl c) (Ap (gN rfl c) (Ap (gN rfl c) (Ap (gN rfl c) (l_v (Bt rfl c (v:=bT) rfl) (l_k H (Co rfl rfl (qA fun K9 k9=>Au bT (l_k k9 (Aj (Cez C) (Aq (y ⟨rfl,rfl,_,rfl⟩)))))))))))
 have q8:=lZ2 c;refine Ak (qF c) (Ba LBook.f_lots Cct rfl Dy d) fun be ac=>Ak (qF c) (Ax Dy rfl ac) fun bf I=>?_;have b4:=Val.len I;refine Aa (qF c) (Ci (el:=51) Ccw rfl I) (Aa (qF c) (Gl rfl rfl) (l_v (Bn rfl c (v:=.bool (decide ((b.lots.length:Int)>40))) rfl) (l_k H (Bp (t:=decide ((b.lots.length:Int)>40)) rfl (fun g=>?_) (fun g=>?_)))))
 ·have a9:=lZ1 g;refine qA fun am V=>Au bT (l_k V (Aj (Cez C) (Aq (y ⟨rfl,rfl,_,rfl⟩))))
 have a9:=lZ2 g;refine Al (kk k3 ?_);refine qA fun an W=>Au (iV 0) (Ary rfl rfl W fun ao ap YQ ZQ=>Au (iV 0) (l_k ZQ (Ao (Cc (fun mm ee dd Y' Z'=>∃(i:Nat) (n:Int),(b.fields.length-i)=mm/\[]=dd/\N=Y'/\Z=Z'/\ee 1=pV G/\ee 3=iV n/\ee 4=iV i/\(i<=b.fields.length)/\True) (m:=_) ⟨0,0,rfl,rfl,rfl,rfl,rfl,rfl,rfl,Hr _,trivial⟩ ?_))));rintro ba b2 _ _ _ ⟨i,n,rfl,rfl,rfl,rfl,f,E,k,bc,_⟩;refine qD fun aq ar a0 a1=>l_v (Ah (v:=iV i) k) (Arw (Ba LBook.f_fields Cct rfl Hw d f) fun bg ad=>Arw (Ax Hw rfl ad) fun bh J=>?_);have b5:=Val.len J;refine l_v (Ci (el:=9) Ccv rfl J) (l_v (Da rfl rfl) (l_k a1 (Bp (t:=decide ((i:Int)<(b.fields.length:Int))) rfl (fun h=>?_) (fun h=>?_))))
 ·have aa:=lZ1 h;refine Al (kk a0 ?_);refine Ai fun au a2=>Ao (qB (l_v (Ah (v:=iV n) E) (Arw (Ba LBook.f_fields Cct rfl Hw d f) fun bi ae=>Arw (Ax Hw rfl ae) fun bj af=>l_v (Ah (v:=iV i) k) ?_)));obtain⟨e,O⟩:=Ed (xs:=b.fields) (i:=i) (by omega);refine Arw (Ch i Ccv ty9 rfl af (q:=(i:Int)) rfl rfl O) fun bk K=>?_;have b6:=At.slen K;refine l_v (Pk ty9 rfl K) (l_v (Afz Ccs (s:=e) rfl) (l_v (Br rfl rfl (z:=IntKind.i64.wrap (n+(e.size:Int))) rfl) (Au (iV (IntKind.i64.wrap (n+(e.size:Int)))) (l_k a2 (qB (l_v (Ah (v:=iV i) k) (l_v (Em (((i+1):Nat):Int)) (Au (iV ((i+1):Nat)) (Ac ?_)))))))));refine⟨_,?_,(i+1),(IntKind.i64.wrap (n+(e.size:Int))),rfl,rfl,rfl,rfl,f,rfl,rfl,(by omega),trivial⟩;omega
 have aa:=lZ2 h;refine Bx (kk YQ ?_);refine qD fun av aw a3 a4=>Au (iV 0) (l_k a4 (Ao (Cc (fun mm ee dd Y' Z'=>∃(i:Nat) (n:Int),(b.lots.length-i)=mm/\[]=dd/\N=Y'/\Z=Z'/\ee 1=pV G/\ee 3=iV n/\ee 5=iV i/\(i<=b.lots.length)/\True) (m:=_) ⟨0,n,rfl,rfl,rfl,rfl,f,E,rfl,Hr _,trivial⟩ ?_)));rintro bb b3 _ _ _ ⟨i,n,rfl,rfl,rfl,rfl,p,F,u,bd,_⟩;refine qD fun ax ay a5 a6=>l_v (Ah (v:=iV i) u) (Arw (Ba LBook.f_lots Cct rfl Dy d p) fun bl ag=>Arw (Ax Dy rfl ag) fun bm L=>?_);have b7:=Val.len L;refine l_v (Ci (el:=51) Ccw rfl L) (l_v (Da rfl rfl) (l_k a6 (Bp (t:=decide ((i:Int)<(b.lots.length:Int))) rfl (fun j=>?_) (fun j=>?_))))
 ·have ab:=lZ1 j;refine Al (kk a5 ?_);refine Ai fun az a7=>Ao (qB (l_v (Ah (v:=iV n) F) (Arw (Ba LBook.f_lots Cct rfl Dy d p) fun bn ah=>Arw (Ax Dy rfl ah) fun bo ai=>l_v (Ah (v:=iV i) u) ?_)));obtain⟨b1,P⟩:=Ed (xs:=b.lots) (i:=i) (by omega);refine Arw (Ch i Ccw Gk rfl ai (q:=(i:Int)) rfl rfl P) fun bp aj=>Arw (Ax Gk rfl aj) fun al ak=>Arv (Cm (vs:=[al]) (Brj ak) Tryz.func24 rfl rfl ⟨rfl,trivial⟩ fun bq br bt R=>?_);obtain⟨x,B,D,T⟩:=R;replace x:=x.symm;replace B:=B.symm;subst x B T;refine l_v (Br rfl rfl (z:=IntKind.i64.wrap (n+D)) rfl) (Au (iV (IntKind.i64.wrap (n+D))) (l_k a7 (qB (l_v (Ah (v:=iV i) u) (l_v (Em (((i+1):Nat):Int)) (Au (iV ((i+1):Nat)) (Ac ?_)))))));refine⟨_,?_,(i+1),(IntKind.i64.wrap (n+D)),rfl,rfl,rfl,rfl,p,rfl,rfl,(by omega),trivial⟩;omega
 have ab:=lZ2 j;refine Bx (kk a3 ?_);refine qA fun b0 a8=>l_v (Ah (v:=iV n) F) (l_v (Gl rfl rfl) (Au (.bool (decide (n>1000))) (l_k a8 (Aj (Cez C) (Aq (y ⟨rfl,rfl,_,rfl⟩))))))
end
section
theorem Ll:∀{m s e:Nat} {l:List Nat},l∈Fv m s e↔l.length=m/\l.Pairwise (·<·)/\∀a∈l,s<=a/\a<e
 | 0,s,e,l=>by
  unfold Fv;constructor
  ·intro h;rw[Mk.1 h];exact⟨rfl,.nil,fun a h=>by cases h⟩
  ·rintro⟨h,_⟩;rw[Atp h];exact Mk.2 rfl
 | m+1,s,e,l=>by
  unfold Fv;rw[Aqe];constructor
  ·rintro⟨i,hi,h⟩;obtain⟨t,ht,rfl⟩:=Iq.1 h;obtain⟨c,d,b⟩:=Ll.1 ht;have hi':=Awt.1 hi;refine⟨by rw[lZ9,c],Bmo.2 ⟨fun a ha=>by have:=b a ha;omega,d⟩,fun a ha=>?_⟩;rcases lZ7.1 ha with rfl|ha
   ·omega
   ·have:=b a ha;omega
  ·rintro⟨c,d,b⟩
   match l,c,d,b with
   | i::t,c,d,b =>
    obtain⟨f,g⟩:=Bmo.1 d;have hi:=b i mC;refine⟨i,Awt.2 ⟨by omega,by omega⟩,Iq.2 ⟨t,Ll.2 ⟨by simpa using c,g,fun a ha=>?_⟩,rfl⟩⟩;have:=f a ha;have:=(b a (lZ0 _ ha)).2;omega
theorem Ami:∀{m s e:Nat},(Fv m s e).Pairwise fun a b=>Mm a b=true
 | 0,s,e=>by unfold Fv;exact List.pairwise_singleton ..
 | m+1,s,e=>by
  unfold Fv;rw[List.pairwise_flatMap];refine⟨fun i _=>?_,?_⟩
  ·rw[List.pairwise_map];refine(Ami (m:=m)).imp fun {a b} h=>?_;simp[Mm,h]
  ·refine(List.pairwise_lt_range' (s:=s) (n:=e-s)).imp fun {i j} hij x hx y hy=>?_;obtain⟨a,_,rfl⟩:=Iq.1 hx;obtain⟨c,_,rfl⟩:=Iq.1 hy;simp[Mm,hij]
def Bij(a b:List Nat):Prop:=a.length<b.length∨a.length=b.length/\Mm a b=true
def Vc(n m:Nat):List (List Nat):=(List.range' 1 m).flatMap fun k=>Fv k 0 n
theorem Bgv{n m:Nat}:(Vc n m).Pairwise Bij:=by
 unfold Vc;rw[List.pairwise_flatMap];refine⟨fun k _=>?_,?_⟩
 ·refine List.Pairwise.imp_of_mem (fun {a b} ha hb h=>?_) (Ami (m:=k) (s:=0) (e:=n));exact .inr ⟨(Ll.1 ha).1.trans (Ll.1 hb).1.symm,h⟩
 ·refine(List.pairwise_lt_range' (s:=1) (n:=m)).imp fun {i j} hij x hx y hy=>?_;left;rw[(Ll.1 hx).1,(Ll.1 hy).1];exact hij
theorem Apb{n m:Nat}{l:List Nat}:l∈Vc n m↔1<=l.length/\l.length<=m/\l.Pairwise (·<·)/\∀a∈l,a<n:=by
 unfold Vc;rw[Aqe];constructor
 ·rintro⟨k,hk,h⟩;obtain⟨c,d,b⟩:=Ll.1 h;have:=Awt.1 hk;exact⟨by omega,by omega,d,fun a ha=>(b a ha).2⟩
 ·rintro⟨c,d,b,e⟩;exact⟨l.length,Awt.2 ⟨c,by omega⟩,Ll.2 ⟨rfl,b,fun a ha=>⟨Hr _,e a ha⟩⟩⟩
theorem Baf{n m:Nat}:Vc n (m+1)=Vc n m++Fv (m+1) 0 n:=by unfold Vc;rw[List.range'_concat,List.flatMap_append];simp[Alu]
def Aaw(g:List Nat->Int)(lot:Nat)(acc:Option (List Nat))(l:List Nat):Option (List Nat) :=
 if lot∈l then (match acc with|none=>some l|some c=>if g l<g c then some l else acc) else acc
def Ayb(g:List Nat->Int)(lot:Nat)(L:List (List Nat)):Option (List Nat):=L.foldl (Aaw g lot) none
theorem Zy{g:List Nat->Int}{lot:Nat}{L M:List (List Nat)}{i:Nat}{l:List Nat}(h:M[i]?=some l):Ayb g lot (L++M.take (i+1))=Aaw g lot (Ayb g lot (L++M.take i)) l:=by unfold Ayb;rw[Wa,h,<-Gv,Axd];rfl
def Vb(g:List Nat->Int)(o:Option (List Nat)):Int:=match o with|none=>-1|some c=>g c
theorem Ayd{g:List Nat->Int}{lot:Nat}:∀{L A:List (List Nat)} {acc:Option (List Nat)},(A++L).Pairwise Bij ->
  (∀c,acc=some c->c∈A/\lot∈c)->(∀l∈A,lot∈l->∃c,acc=some c/\g c<=g l/\(g l=g c->l=c∨Bij c l)) ->
  (∀c,L.foldl (Aaw g lot) acc=some c->c∈A++L/\lot∈c)/\∀l∈A++L,lot∈l->∃c,L.foldl (Aaw g lot) acc=some c/\g c<=g l/\(g l=g c->l=c∨Bij c l)
 | [],A,acc,_,h1,h2=>by simpa using ⟨h1,h2⟩
 | x::L,A,acc,hp,h1,h2=>by
  have hx:∀c∈A,Bij c x:=fun c hc=>(List.pairwise_append.1 hp).2.2 c hc x mC;have hp':((A++[x])++L).Pairwise Bij:=by simpa using hp
  have:=Ayd (g:=g) (lot:=lot) (L:=L) (A:=A++[x]) (acc:=Aaw g lot acc x) hp' (fun c hc=>?_) (fun l hl hm=>?_)
  ·simpa using this
  ·unfold Aaw at hc;split at hc
   ·rename_i hm;split at hc
    ·cases hc;exact⟨by simp,hm⟩
    ·rename_i c0;split at hc
     ·cases hc;exact⟨by simp,hm⟩
     ·have:=h1 c hc;exact⟨by simp[this.1],this.2⟩
   ·have:=h1 c hc;exact⟨by simp[this.1],this.2⟩
  ·rcases Ho.1 hl with hl|hl
   ·obtain⟨c,hc,hg,he⟩:=h2 l hl hm;subst hc;unfold Aaw;split
    ·simp only;split
     ·rename_i hlt;exact⟨x,rfl,by omega,fun e=>by omega⟩
     ·exact⟨c,rfl,hg,he⟩
    ·exact⟨c,rfl,hg,he⟩
   ·have hlx:l=x:=Mk.1 hl;subst hlx;unfold Aaw;rw[if_pos hm];cases acc with
    | none=>exact⟨l,rfl,Abx _,fun _=>.inl rfl⟩
    | some c =>
     simp only;split
     ·exact⟨l,rfl,Abx _,fun _=>.inl rfl⟩
     ·exact⟨c,rfl,by omega,fun _=>.inr (hx c (h1 c rfl).1)⟩
theorem Amy{l:List Nat}{n:Nat}(h:l.Pairwise (·<·))(hb:∀a∈l,a<n)(hn:n<=8):elems (Bf l)=l/\Bf l<2^n:=by
 refine⟨Tl ?_,Sl hb⟩;have key:∀(m s:Nat) (l:List Nat),l.Pairwise (·<·)->(∀a∈l,s<=a/\a<s+m)->l.Sublist (List.range' s m):=by
  intro m;induction m with
  | zero =>
   intro s l _ hb;cases l with
   | nil=>exact .slnil
   | cons a t=>have:=hb a mC;omega
  | succ m ih =>
   intro s l hp hb;rw[Abo];cases l with
   | nil=>exact List.nil_sublist _
   | cons a t =>
    obtain⟨b,d⟩:=Bmo.1 hp;have ha:=hb a mC;by_cases he:a=s
    ·subst he;refine .cons_cons _ (ih _ _ d fun c hc=>?_);have:=b c hc;have:=hb c (lZ0 _ hc);omega
    ·refine .cons _ (ih _ _ hp fun c hc=>?_);have:=hb c hc;rcases lZ7.1 hc with rfl|hc
     ·omega
     ·have:=b c hc;omega
 rw[Bhp];exact key 16 0 l h fun a ha=>by have:=hb a ha;omega
theorem Ayc{b:LBook}{k:Nat}{x:LLot}(hx:b.lots[k]?=some x)(h8:b.lots.length<=8)(F:Nat):Ayb (fun l=>Bu b F (Bf l)) k (Vc b.lots.length b.lots.length)=some (Bv (Hx b F k)):=by
 have hk:=(lZ4.1 hx).1;have hm:=Aqr hx F;have hlt:Hx b F k<256:=Nn hm.2 (Aih (by omega) h8:2^b.lots.length<=2^8);have hsp:=Ayd (g:=fun l=>Bu b F (Bf l)) (lot:=k) (L:=Vc b.lots.length b.lots.length) (A:=[]) (acc:=none) (by simpa using Bgv) (fun c h=>by cases h) (fun l h=>by cases h);obtain⟨n,p⟩:=hsp;have hC:Bv (Hx b F k)∈Vc b.lots.length b.lots.length:=by
  rw[Agz hm.2 h8];refine Apb.2 ⟨?_,?_,Brr,Brq⟩
  ·have:k∈Ahf b.lots.length (Hx b F k):=Ql.2 ⟨by simpa using hk,by rw[Pz];exact hm.1⟩;exact List.length_pos_of_mem this
  ·have:=List.length_filter_le (Gw (Hx b F k)) (List.range b.lots.length);rw[Aws]at this;exact this
 have hkC:k∈Bv (Hx b F k):=by
  rw[Agz hm.2 h8];exact Ql.2 ⟨by simpa using hk,by rw[Pz];exact hm.1⟩
 obtain⟨c,hc,hg,he⟩:=p _ (by simpa using hC) hkC;obtain⟨e,f⟩:=n c hc;have a:=Apb.1 (by simpa using e);obtain⟨i,j⟩:=Amy a.2.2.1 a.2.2.2 h8;have m:(Bf c).testBit k=true:=by rw[Ng];exact Awk.2 f
 have hb:=Ajl.1 ((Zj (g:=Bu b F) hk).1 |> fun _=>(Zj (g:=Bu b F) hk).2 (Bf c) j m);show List.foldl _ none _=_;rw[hc];have hmm:Bf (Bv (Hx b F k))=Hx b F k:=Aqq hlt;simp only[hmm]at hg he;have hge:Bu b F (Hx b F k)<=Bu b F (Bf c):=hb.1;have heq:Bu b F (Bf c)=Bu b F (Hx b F k):=by omega
 rcases he heq.symm with h|h
 ·rw[h]
 ·exfalso;have d:=hb.2 heq;rw[i,show Bag (Bu b F) b.lots.length k=Hx b F k from rfl,Pb hlt]at d;rcases h with h|⟨h,h'⟩
  ·omega
  ·rw[d.2 h]at h';cases h'
def Btr(b:LBook)(i:Nat):List LPart:=(b.lots[i]?.map LLot.parts).getD []
def Alj(b:LBook)(F C:Nat)(cs:List Nat):Int:=(cs.map fun i=>Mi F.testBit C.testBit (Mf b i (Btr b i))).sum
theorem Bff{b:LBook}{i:Nat}{x:LLot}(h:b.lots[i]?=some x):Btr b i=x.parts:=by unfold Btr;rw[h];rfl
theorem Apv{b:LBook}{F C:Nat}:∀{n:Nat},n<=b.lots.length->Mi F.testBit C.testBit (Axq b n)=Df n fun i=>Mi F.testBit C.testBit (Mf b i (Btr b i))
 | 0,_=>rfl
 | n+1,h=>by
  have hx:b.lots[n]?=some b.lots[n]:=Qj (by omega);rw[Agl hx,Ue,Apv (by omega),Df,Bff hx]
theorem Avl{f:Nat->Int}{C:Nat}:∀{n:Nat},((Ahf n C).map f).sum=Df n fun i=>if C.testBit i then f i else 0
 | 0=>rfl
 | n+1=>by
  have ih:=Avl (f:=f) (C:=C) (n:=n);unfold Ahf at ih ⊢;rw[Awy,Bmn,Lo,List.sum_append,ih,Df];cases h:C.testBit n with
  | true=>simp[List.filter,Pz,h]
  | false=>simp[List.filter,Pz,h]
theorem Bhi{b:LBook}{F:Nat}{cs:List Nat}(hp:cs.Pairwise (·<·))(hb:∀a∈cs,a<b.lots.length)(h8:b.lots.length<=8):Alj b F (Bf cs) cs=Bu b F (Bf cs):=by
 obtain⟨d,c⟩:=Amy hp hb h8;have hC:Bf cs<256:=Nn c (Aih (by omega) h8:2^b.lots.length<=2^8);have e:cs=Ahf b.lots.length (Bf cs):=by
  conv=>lhs;rw[<-d]
  rw[Pb hC,Agz c h8]
 unfold Alj Bu;rw[<-Beq (Ii _),Apv (Ii _)];have g:∀f:Nat->Int,(cs.map f).sum=((Ahf b.lots.length (Bf cs)).map f).sum:=fun f=>by rw[<-e]
 rw[g,Avl];refine Et fun i hi=>?_;cases h:(Bf cs).testBit i with
 | true=>rfl
 | false=>rw[Akq h];rfl
theorem Bbc{b:LBook}{F C:Nat}{cs:List Nat}{i c:Nat}{x:LLot}(h:cs[i]?=some c)(hx:b.lots[c]?=some x):Alj b F C (cs.take (i+1))=Alj b F C (cs.take i)+Mi F.testBit C.testBit (Mf b c x.parts):=by unfold Alj;rw[Wa,h,Lo,List.sum_append,<-Bff hx];simp
theorem Agb{b:LBook}(ok:LotsOk b){i k:Nat}{x:LLot}{p:LPart}(hx:b.lots[i]?=some x)(hp:x.parts[k]?=some p) :
  (0<=(Gn b i p).field->Dm b.lots p.of_ = -1)/\(¬0<=(Gn b i p).field->Dm b.lots p.of_=(Gn b i p).lot/\0<=(Gn b i p).lot):=by
 constructor
 ·intro h;have a:=Rh.1 h;have c:-1<=Dm b.lots p.of_:=Bde;rcases (show Dm b.lots p.of_ = -1∨0<=Dm b.lots p.of_ by omega) with h3|h3
  ·exact h3
  ·exfalso;obtain⟨y,hy,hn⟩:=Wf h3;exact(ok.lnm _ y hy).2.1 (hn ▸ a)
 ·intro h;have a:=Bpo ok hx hp h;refine⟨?_,a⟩;obtain⟨y,hy,hn⟩:=Wf (l:=b.lots.take i) a;have hlt:=(lZ4.1 hy).1;rw[Jb]at hlt;have hy':b.lots[(Gn b i p).lot.toNat]?=some y:=by
   rw[Afp (by show (Dm (b.lots.take i) p.of_).toNat<i;omega)]at hy;exact hy
  have hd:p.of_∉(Fl b.lots).take (Gn b i p).lot.toNat:=by
   rw[<-hn];have:=(ok.lnm _ y hy').2.2.1;unfold Fl at this ⊢;rw[<-Bee];exact this
  have hnj:(Fl b.lots)[(Gn b i p).lot.toNat]?=some p.of_:=by unfold Fl;rw[Oz,hy',<-hn];rfl
  have:=Avw hnj hd;show Aht (Fl b.lots) p.of_=_;rw[this];omega
theorem Adq{xs:List Nat}{z:Int}(h:0<=z):decide (z∈Bw xs)=(Bf xs).testBit z.toNat:=by
 rw[Ng,<-List.elem_eq_contains,List.elem_eq_mem];refine decide_eq_decide.2 ⟨fun hm=>?_,fun hm=>?_⟩
 ·obtain⟨a,ha,rfl⟩:=Iq.1 hm;exact ha
 ·exact Iq.2 ⟨z.toNat,hm,by show ((z.toNat:Nat):Int)=z;omega⟩
def Sf(N:Nat)(xs:List Nat):List Nat:=(List.range N).filter fun i=>!decide ((i:Int)∈Bw xs)
theorem Bnl{N:Nat}{xs:List Nat}:Bf (Sf N xs)=Qa N (Bf xs):=by
 apply Awm;intro j;rw[Btm,Ng];have a:decide ((j:Int)∈Bw xs)=(Bf xs).testBit j:=by rw[Adq (by omega)];simp
 cases hb:(Sf N xs).contains j with
 | true =>
  have:=Ql.1 (Awk.1 hb);rw[a]at this;simp at this;simp[this]
 | false =>
  symm
  refine Aqb.2 fun h=>?_;simp only[Oc,decide_eq_true_eq,Bool.not_eq_true']at h;have:j∈Sf N xs:=Ql.2 ⟨by simpa using h.1,by rw[a,h.2];rfl⟩;rw[Awk.2 this]at hb;cases hb
theorem Bnk{i:Nat}:Bf [i]=1 <<< i:=by show 0 ||| 1 <<< i=_;rw[Nat.zero_or]
def gB(b:LBook)(xs:List Nat)(l:List Nat):Int:=Bu b (Bf xs) (Bf l)
theorem Bzz{b:LBook}(ok:LotsOk b)(xs l:List Nat):0<=gB b xs l:=Ado ok _ _
section
variable{g:List Nat->Int}{k:Nat}{acc:Option (List Nat)}{l:List Nat}
theorem Aiv:decide ((k:Int)∈Bw l)=decide (k∈l):=decide_eq_decide.2 ⟨fun h=>by
 obtain⟨a,ha,he⟩:=Iq.1 h;rw[<-Int.ofNat.inj he];exact ha,fun h=>Iq.2 ⟨k,h,rfl⟩⟩
theorem Bxy(h:decide ((k:Int)∈Bw l)=false):Aaw g k acc l=acc:=by rw[Aiv]at h;unfold Aaw;rw[if_neg (lZ2 h)]
theorem Btp(hg:∀c,0<=g c)(q:Vb g acc<0)(h:decide ((k:Int)∈Bw l)=true):Aaw g k acc l=some l:=by
 rw[Aiv]at h;unfold Aaw;rw[if_pos (lZ1 h)];cases acc with
 | none=>rfl
 | some c=>have:=hg c;unfold Vb at q;simp only at q;omega
theorem Bxx(q0:¬Vb g acc<0)(q:g l<Vb g acc)(h:decide ((k:Int)∈Bw l)=true):Aaw g k acc l=some l:=by
 rw[Aiv]at h;unfold Aaw;rw[if_pos (lZ1 h)];cases acc with
 | none=>rfl
 | some c=>unfold Vb at q;simp only at q ⊢;rw[if_pos q]
theorem Bxw(q0:¬Vb g acc<0)(q:¬g l<Vb g acc)(h:decide ((k:Int)∈Bw l)=true):Aaw g k acc l=acc:=by
 rw[Aiv]at h;unfold Aaw;rw[if_pos (lZ1 h)];cases acc with
 | none=>unfold Vb at q0;simp at q0
 | some c=>unfold Vb at q;simp only at q ⊢;rw[if_neg q]
end
theorem Boo{g:List Nat->Int}{k:Nat}{n c:Nat}{j:Nat}(h:(Fv (c+1) 0 n).length<=j):Ayb g k (Vc n c++(Fv (c+1) 0 n).take j)=Ayb g k (Vc n (c+1)):=by rw[Aom h,Baf]
section
variable{b:LBook}{c k:Nat}{x:LLot}{p:LPart}{xs cs:List Nat}
theorem Bkn{i:Nat}(h:cs[i]?=some c):(Bf cs).testBit c=true:=by rw[Ng];exact Awk.2 (lZ5 h)
theorem Bln(ok:LotsOk b)(hx:b.lots[c]?=some x)(hp:x.parts[k]?=some p)(q:Dm b.lots p.of_<0):0<=(Gn b c p).field:=by
 rcases (show 0<=(Gn b c p).field∨¬0<=(Gn b c p).field by omega) with h|h
 ·exact h
 ·have:=(Agb ok hx hp).2 h;omega
theorem Blo(ok:LotsOk b)(hx:b.lots[c]?=some x)(hp:x.parts[k]?=some p)(q:¬Dm b.lots p.of_<0):¬0<=(Gn b c p).field/\Dm b.lots p.of_=(Gn b c p).lot:=by
 rcases (show 0<=(Gn b c p).field∨¬0<=(Gn b c p).field by omega) with h|h
 ·have:=(Agb ok hx hp).1 h;omega
 ·exact⟨h,((Agb ok hx hp).2 h).1⟩
theorem Cab(ok:LotsOk b)(hx:b.lots[c]?=some x)(hp:x.parts[k]?=some p)(hC:(Bf cs).testBit c=true)(q:Dm b.lots p.of_<0)(h:decide (Aht b.fields p.of_∈Bw xs)=true) :
  Mi (Bf xs).testBit (Bf cs).testBit (Mf b c (x.parts.take (k+1)))=Mi (Bf xs).testBit (Bf cs).testBit (Mf b c (x.parts.take k))+p.grams :=
 have hf:=Bln ok hx hp q
 Buy hp hC hf ((Adq hf).symm.trans h)
theorem Caa(ok:LotsOk b)(hx:b.lots[c]?=some x)(hp:x.parts[k]?=some p)(q:Dm b.lots p.of_<0)(h:decide (Aht b.fields p.of_∈Bw xs)=false) :
  Mi (Bf xs).testBit (Bf cs).testBit (Mf b c (x.parts.take (k+1)))=Mi (Bf xs).testBit (Bf cs).testBit (Mf b c (x.parts.take k)) :=
 have hf:=Bln ok hx hp q
 Buw hp hf ((Adq hf).symm.trans h)
theorem Cad(ok:LotsOk b)(hx:b.lots[c]?=some x)(hp:x.parts[k]?=some p)(hC:(Bf cs).testBit c=true)(q:¬Dm b.lots p.of_<0)(h:decide (Dm b.lots p.of_∈Bw cs)=false) :
  Mi (Bf xs).testBit (Bf cs).testBit (Mf b c (x.parts.take (k+1)))=Mi (Bf xs).testBit (Bf cs).testBit (Mf b c (x.parts.take k))+p.grams:=by obtain⟨a,d⟩:=Blo ok hx hp q;exact Buz hp hC a (by rw[<-d];exact(Adq (by omega)).symm.trans h)
theorem Cac(ok:LotsOk b)(hx:b.lots[c]?=some x)(hp:x.parts[k]?=some p)(q:¬Dm b.lots p.of_<0)(h:decide (Dm b.lots p.of_∈Bw cs)=true) :
  Mi (Bf xs).testBit (Bf cs).testBit (Mf b c (x.parts.take (k+1)))=Mi (Bf xs).testBit (Bf cs).testBit (Mf b c (x.parts.take k)):=by obtain⟨a,d⟩:=Blo ok hx hp q;exact Bux hp a (by rw[<-d];exact(Adq (by omega)).symm.trans h)
end
theorem Bts{cs:List Nat}{n i c:Nat}(hb:∀a∈cs,a<n)(h:cs[i]?=some c):c<n:=hb c (lZ5 h)
theorem Bxz{cs:List Nat}{n:Nat}(hp:cs.Pairwise (·<·))(hb:∀a∈cs,a<n)(hn:n<=8):cs.length<=16:=by have:=(Amy hp hb hn).1;rw[<-this];exact Bha _
theorem Bhu{m n:Nat}{l:List Nat}(h:l∈Fv m 0 n):l.Pairwise (·<·)/\∀a∈l,a<n:=⟨(Ll.1 h).2.1,fun a ha=>((Ll.1 h).2.2 a ha).2⟩
def Acb(b:LBook)(l:List Int):Int:=orF (Hd b) (Er l b.fields.length)
end
section
variable{mn:Bool}{X:Frame->List Frame->Ro->Own->Cy->Prop}{Y:Ro}{Z:Own}
theorem Ako{l:List Int}{vl:Value}{n:Int}(rl:Val Y vl l):CallsH (CX mn X) 57 #[vl,iV n] Y Z (rP Y Z (.bool (decide (n∈l)))):=by
 refine Bq 18 [4] Cec rfl fun Q k YQ=>qA fun I x=>Au bF (qE x fun M N C D=>Au (iV 0) (l_k D (Ao (Cc (fun mm ee dd Y' Z'=>∃(i:Nat),(l.length-i)=mm/\[]=dd/\Y=Y'/\Z=Z'/\ee 0=vl/\ee 1=iV n/\ee 5=iV i/\(i<=l.length)/\(∀j,j<i->l[j]?≠some n)/\True) (m:=_) ⟨0,rfl,rfl,rfl,rfl,rfl,rfl,rfl,Hr _,fun j h=>absurd h (Td _),trivial⟩ ?_))));rintro ZQ T _ _ _ ⟨i,rfl,rfl,rfl,rfl,c,g,d,a0,p,_⟩;refine qD fun O P E F=>l_v (Ah (v:=iV i) d) (l_v (Ah (v:=vl) c) ?_);have W:=Val.len rl;refine l_v (Ci (el:=3) Ccu rfl rl) (l_v (Da rfl rfl) (l_k F (Bp (t:=decide ((i:Int)<(l.length:Int))) rfl (fun b=>?_) (fun b=>?_))))
 ·have H:=lZ1 b;refine Al (kk E ?_);refine Ai fun R G=>Ao (qA fun J y=>l_v (Ah (v:=vl) c) (l_v (Ah (v:=iV i) d) ?_));obtain⟨w,e⟩:=Ed (xs:=l) (i:=i) (by omega);refine Arw (Ch i Ccu ty3 rfl rl (q:=(i:Int)) rfl rfl e) fun a1 u=>?_;have⟨U,V⟩:=At.rng u;refine l_v (Bc ty3 rfl u) (l_v (Ah (v:=iV n) g) (l_v (Ek rfl rfl) (l_k y (Bp (t:=w==n) rfl (fun a=>?_) (fun a=>?_)))))
  ·have f:=Jr a;refine qA fun K z=>Au bT (l_k z (Aq (k (rT bT ?_))));rw[Qn (lZ5 (i:=i) (by rw[e,f]))]
  have f:=Jq a;refine Al (kk G ?_);refine qB (l_v (Ah (v:=iV i) d) (l_v (Em (((i+1):Nat):Int)) (Au (iV ((i+1):Nat)) (Ac ?_))));refine⟨_,?_,(i+1),rfl,rfl,rfl,rfl,c,g,rfl,(by omega),(Eg p (by rw[e];exact fun h=>f (Option.some.inj h))),trivial⟩;omega
 have H:=lZ2 b;refine Bx (kk C ?_);refine qA fun L B=>Au bF (l_k B (Aq (k (rT bF ?_))));rw[Px (Bbq fun j hj=>p j (by omega))]
theorem Avh{b:LBook}{xs cs:List Nat}{vb vx vc:Value}(rv:Val Y vb b)(rx:Val Y vx (Bw xs:List Int))(rc:Val Y vc (Bw cs:List Int))(ok:LotsOk b)(hcp:cs.Pairwise (·<·))(hct:∀a∈cs,a<b.lots.length):CallsH (CX mn X) 58 #[vb,vx,vc] Y Z (rP Y Z (iV (gB b xs cs))):=by
 have hnl:=ok.nl;have hcl:=Bxz hcp hct hnl;have hil:=Fc (l:=cs);refine Bq 73 [6] Tryz.func58 rfl fun Q aa bl=>qA fun K1 k1=>Arv (Jl (v:=vb) rfl fun ZQ=>?_);refine Bb (a:=b) rv fun a6 T U=>?_;replace rx:=Val.mono T rx;replace rc:=Val.mono T rc;refine Au (iV 0) (qC k1 fun K3 k3=>Au (iV 0) (qE k3 fun K4 K5 k4 k5=>Au (iV 0) (l_k k5 (Ao (Cc (fun mm ee dd Y' Z'=>∃(i:Nat) (g:Int),((Bw cs).length-i)=mm/\[]=dd/\a6=Y'/\Z=Z'/\ee 1=vx/\ee 2=vc/\ee 3=pV ZQ/\ee 7=iV g/\ee 8=iV i/\(i<=(Bw cs).length)/\(g=Alj b (Bf xs) (Bf cs) (cs.take i))/\(0<=g/\g<=600000*(i:Int))/\True) (m:=_) ⟨0,0,rfl,rfl,rfl,rfl,rfl,rfl,rfl,rfl,rfl,Hr _,rfl,⟨by omega,by omega⟩,trivial⟩ ?_)))));rintro m6 e6 _ _ _ ⟨i,g,rfl,rfl,rfl,rfl,a9,O,V,W,P,bq,a0,br,_⟩;refine qD fun K7 K8 k7 k8=>l_v (Ah (v:=iV i) P) (l_v (Ah (v:=vc) O) ?_);have g9:=Val.len rc;refine l_v (Ci (el:=3) Ccu rfl rc) (l_v (Da rfl rfl) (l_k k8 (Bp (t:=decide ((i:Int)<(((Bw cs).length:Nat):Int))) rfl (fun L=>?_) (fun L=>?_))))
 ·have aj:=lZ1 L;refine Al (kk k7 ?_);refine Ai fun az ac=>Ao (Ai fun b0 ad=>Rw (Fd 0 (zT 1 9) rfl (Ba LBook.f_lots Cct rfl Dy U V) fun bt al=>Fd 1 (zT 2 8) rfl (Ax Dy rfl al) fun bu am=>Ef 2 (zT 3 7) rfl (Ah (v:=vc) O) (Cf 3 (zT 4 6) rfl (Ah (v:=iV i) P) ?_)));obtain⟨b8,YQ⟩:=Ed (xs:=Bw cs) (i:=i) (by omega);obtain⟨I,J,ab⟩:=Ts YQ;subst ab;have bk:=Bts hct J;refine Fm 4 (zT 5 5) rfl (Ch i Ccu ty3 rfl rc (q:=(i:Int)) rfl rfl YQ) fun bv a1=>?_;have⟨ba,bb⟩:=At.rng a1;refine Cf 5 (zT 6 4) rfl (Bc ty3 rfl a1) ?_;obtain⟨y,u⟩:=Ed (xs:=b.lots) (i:=I) (by omega);have bj:=(ok.lnm _ _ u).2.2.2.2;refine Fm 6 (zT 7 3) rfl (Ch I Ccw Gk rfl am (q:=(I:Int)) rfl rfl u) fun bx an=>Fm 7 (zT 8 2) rfl (Ba LLot.f_parts Ccy rfl Gb an) fun bz ao=>Fm 8 (zT 9 1) rfl (Ax Gb rfl ao) fun x D=>Cf 9 (zT 10 0) rfl (Cp (v:=x) rfl) (Ec rfl (kk ad ?_));refine qA fun b1 ae=>Au (iV 0) (l_k ae (Ao (Cc (fun mm ee dd Y' Z'=>∃(k:Nat) (h:Int),(y.parts.length-k)=mm/\[]=dd/\a6=Y'/\Z=Z'/\ee 1=vx/\ee 2=vc/\ee 3=pV ZQ/\ee 8=iV i/\ee 9=x/\ee 7=iV h/\ee 10=iV k/\(k<=y.parts.length)/\(h=Alj b (Bf xs) (Bf cs) (cs.take i)+Mi (Bf xs).testBit (Bf cs).testBit (Mf b I (y.parts.take k)))/\(0<=h/\h<=600000*(i:Int)+100000*(k:Int))/\True) (m:=_) ⟨0,g,rfl,rfl,rfl,rfl,a9,O,V,P,rfl,W,rfl,Hr _,(by rw[a0];exact(Beg _).symm),⟨by omega,by omega⟩,trivial⟩ ?_)));rintro bn b9 _ _ _ ⟨k,h,rfl,rfl,rfl,rfl,B,C,w,F,j,E,f,bo,G,bp,_⟩;refine qD fun b2 b3 af ag=>l_v (Ah (v:=iV k) f) (l_v (Ah (v:=x) j) ?_);have bc:=Val.len D;refine l_v (Ci (el:=127) Ccz rfl D) (l_v (Da rfl rfl) (l_k ag (Bp (t:=decide ((k:Int)<(y.parts.length:Int))) rfl (fun M=>?_) (fun M=>?_))))
  ·have ak:=lZ1 M;refine Al (kk af ?_);refine Ai fun b4 K=>Ao (Ai fun b5 ah=>Rw (Fd 0 zZ2 rfl (Ba LBook.f_lots Cct rfl Dy U w) fun c0 ap=>Fd 1 zZ3 rfl (Ax Dy rfl ap) fun c1 aq=>Ef 2 zZ4 rfl (Ah (v:=x) j) (Cf 3 zZ6 rfl (Ah (v:=iV k) f) ?_)));obtain⟨d,p⟩:=Ed (xs:=y.parts) (i:=k) (by omega);have bm:=(Rx ok _ (lZ5 u)).2 _ (lZ5 p);refine Fm 4 zZ7 rfl (Ch k Ccz Im rfl D (q:=(k:Int)) rfl rfl p) fun c2 ar=>Fm 5 zZ8 rfl (Ba LPart.f_of_ Ccx rfl ty9 ar) fun c3 a2=>?_;have bd:=At.slen a2;refine Cf 6 zZ5 rfl (Pk ty9 rfl a2) (Ma 7 zZ0 rfl (Bm (Asm (s:=d.of_) aq) Cew rfl rfl ⟨rfl,rfl,trivial⟩ ⟨Cfb,?_⟩));refine Cf 8 zZ1 rfl (Cp (v:=iV (Dm b.lots d.of_)) rfl) (Ec rfl (kk ah ?_));refine Ai fun b6 R=>Rw (Cf 0 (zT 1 23) rfl (Ah (v:=iV (Dm b.lots d.of_)) rfl) (Cf 1 (zT 2 22) rfl (Da rfl rfl) (Cf 2 (zT 3 21) rfl (Ah (v:=.bool (decide ((Dm b.lots d.of_)<0))) rfl) (Akk (decide ((Dm b.lots d.of_)<0)) (fun c=>?_) (fun c=>?_)))))
   ·have H:=lZ1 c;refine Jd 3 (zT 4 20) rfl Cfb (qF c) (Ah (v:=vx) B) (Gp 4 (zT 5 19) rfl Cfb (qF c) (Ba LBook.f_fields Cct rfl Hw U w) fun c4 au=>Gp 5 (zT 6 18) rfl Cfb (qF c) (Ax Hw rfl au) fun c5 av=>Jd 6 (zT 7 17) rfl Cfb (qF c) (Ah (v:=x) j) (Gh 7 (zT 8 16) rfl Cfb (qF c) (Ah (v:=iV k) f) (Xy 8 (zT 9 15) rfl Cfb (qF c) (Ch k Ccz Im rfl D (q:=(k:Int)) rfl rfl p) fun c6 aw=>Xy 9 (zT 10 14) rfl Cfb (qF c) (Ba LPart.f_of_ Ccx rfl ty9 aw) fun c7 a3=>?_)));have be:=At.slen a3;refine Gh 10 (zT 11 13) rfl Cfb (qF c) (Pk ty9 rfl a3) (Vg 11 (zT 12 12) rfl (qF c) (Bm (Asg av) Cei rfl rfl ⟨rfl,rfl,trivial⟩ ⟨Cfb,?_⟩));refine Vg 12 (zT 13 11) rfl (qF c) (Bm (Ako (n:=Aht b.fields d.of_) rx) Cec rfl rfl ⟨rfl,rfl,trivial⟩ ⟨Cfb,?_⟩);refine Cf 13 (zT 14 10) rfl (Bt rfl c (v:=.bool (decide (Aht b.fields d.of_∈(Bw xs)))) rfl) (Cf 14 (zT 15 9) rfl (Ah (v:=.bool (decide (Aht b.fields d.of_∈(Bw xs)))) rfl) (Akk (decide (Aht b.fields d.of_∈(Bw xs))) (fun e=>?_) (fun e=>?_)))
    ·refine En 15 (zT 16 8) rfl Cfb (gN rfl e) (En 16 (zT 17 7) rfl Cfb (gN rfl e) (En 17 (zT 18 6) rfl Cfb (gN rfl e) (Ds 18 (zT 19 5) rfl Cfb (Jf rfl rfl rfl) (En 19 (zT 20 4) rfl Cfb (Jf rfl rfl rfl) (En 20 (zT 21 3) rfl Cfb (Jf rfl rfl rfl) (En 21 (zT 22 2) rfl Cfb (Jf rfl rfl rfl) (En 22 (zT 23 1) rfl Cfb (gN rfl e) (Cf 23 (zT 24 0) rfl (Bt rfl e (v:=bT) rfl) (Ec rfl (kk R ?_))))))))));refine Co rfl rfl (qB (l_v (Ah (v:=iV h) E) (l_v (Ah (v:=x) j) (l_v (Ah (v:=iV k) f) (Arw (Ch k Ccz Im rfl D (q:=(k:Int)) rfl rfl p) fun c8 ax=>Arw (Ba LPart.f_grams Ccx rfl ty3 ax) fun c9 a4=>?_)))));have⟨bf,bg⟩:=At.rng a4;refine l_v (Bc ty3 rfl a4) (l_v (Br rfl rfl (z:=h+d.grams) (Bo (by rfl) (by omega) (by omega))) (Au (iV (h+d.grams)) (l_k K (qB (l_v (Ah (v:=iV k) f) (l_v (Em (((k+1):Nat):Int)) (Au (iV ((k+1):Nat)) (Ac ?_))))))));refine⟨_,?_,(k+1),(h+d.grams),rfl,rfl,rfl,rfl,B,C,w,F,j,rfl,rfl,(by omega),(by rw[Cab ok u p (Bkn J) H e,G];omega),⟨by omega,by omega⟩,trivial⟩;omega
    refine Gh 15 (zT 16 8) rfl Cfb (qF e) (Ah (v:=iV (Dm b.lots d.of_)) rfl) (Gh 16 (zT 17 7) rfl Cfb (qF e) (Uy rfl rfl) (Gh 17 (zT 18 6) rfl Cfb (qF e) (Ah (v:=.bool (decide ((Dm b.lots d.of_)>=0))) rfl) (Ds 18 (zT 19 5) rfl Cfb (gN rfl (Px (by omega))) (En 19 (zT 20 4) rfl Cfb (gN rfl (Px (by omega))) (En 20 (zT 21 3) rfl Cfb (gN rfl (Px (by omega))) (En 21 (zT 22 2) rfl Cfb (gN rfl (Px (by omega))) (Gh 22 (zT 23 1) rfl Cfb (qF e) (Bn rfl (Px (by omega)) (v:=bF) rfl) (Cf 23 (zT 24 0) rfl (Bn rfl e (v:=bF) rfl) (Ec rfl (kk R ?_))))))))));refine Cg rfl rfl (Al (kk K ?_));refine qB (l_v (Ah (v:=iV k) f) (l_v (Em (((k+1):Nat):Int)) (Au (iV ((k+1):Nat)) (Ac ?_))));refine⟨_,?_,(k+1),h,rfl,rfl,rfl,rfl,B,C,w,F,j,E,rfl,(by omega),(by rw[Caa ok u p H e,G]),⟨by omega,by omega⟩,trivial⟩;omega
   have H:=lZ2 c;refine Ds 3 (zT 4 20) rfl Cfb (gN rfl c) (Ds 4 (zT 5 19) rfl Cfb (gN rfl c) (Ds 5 (zT 6 18) rfl Cfb (gN rfl c) (Ds 6 (zT 7 17) rfl Cfb (gN rfl c) (En 7 (zT 8 16) rfl Cfb (gN rfl c) (En 8 (zT 9 15) rfl Cfb (gN rfl c) (En 9 (zT 10 14) rfl Cfb (gN rfl c) (En 10 (zT 11 13) rfl Cfb (gN rfl c) (En 11 (zT 12 12) rfl Cfb (gN rfl c) (En 12 (zT 13 11) rfl Cfb (gN rfl c) (Cf 13 (zT 14 10) rfl (Bn rfl c (v:=bF) rfl) (Cf 14 (zT 15 9) rfl (Ah (v:=bF) rfl) (Gh 15 (zT 16 8) rfl Cfb (gY rfl rfl) (Ah (v:=iV (Dm b.lots d.of_)) rfl) (Gh 16 (zT 17 7) rfl Cfb (gY rfl rfl) (Uy rfl rfl) (Gh 17 (zT 18 6) rfl Cfb (gY rfl rfl) (Ah (v:=.bool (decide ((Dm b.lots d.of_)>=0))) rfl) (Jd 18 (zT 19 5) rfl Cfb (gY rfl (Qn (by omega))) (Ah (v:=vc) C) (Gh 19 (zT 20 4) rfl Cfb (gY rfl (Qn (by omega))) (Ah (v:=iV (Dm b.lots d.of_)) rfl) (Vg 20 (zT 21 3) rfl (gY rfl (Qn (by omega))) (Bm (Ako (n:=Dm b.lots d.of_) rc) Cec rfl rfl ⟨rfl,rfl,trivial⟩ ⟨Cfb,?_⟩))))))))))))))))));refine Gh 21 (zT 22 2) rfl Cfb (gY rfl (Qn (by omega))) (Iy rfl) (Gh 22 (zT 23 1) rfl Cfb (gY rfl rfl) (Bt rfl (Qn (by omega)) (v:=.bool (!(decide ((Dm b.lots d.of_)∈(Bw cs))))) rfl) (Cf 23 (zT 24 0) rfl (Bn rfl rfl (v:=.bool (!(decide ((Dm b.lots d.of_)∈(Bw cs))))) rfl) (Ec rfl (kk R ?_))));refine Bp (t:=!(decide ((Dm b.lots d.of_)∈(Bw cs)))) rfl (fun N=>?_) (fun N=>?_)
   ·have a7:=not_eq_t N;refine qB (l_v (Ah (v:=iV h) E) (l_v (Ah (v:=x) j) (l_v (Ah (v:=iV k) f) (Arw (Ch k Ccz Im rfl D (q:=(k:Int)) rfl rfl p) fun ca ay=>Arw (Ba LPart.f_grams Ccx rfl ty3 ay) fun cb a5=>?_))));have⟨bh,bi⟩:=At.rng a5;refine l_v (Bc ty3 rfl a5) (l_v (Br rfl rfl (z:=h+d.grams) (Bo (by rfl) (by omega) (by omega))) (Au (iV (h+d.grams)) (l_k K (qB (l_v (Ah (v:=iV k) f) (l_v (Em (((k+1):Nat):Int)) (Au (iV ((k+1):Nat)) (Ac ?_))))))));refine⟨_,?_,(k+1),(h+d.grams),rfl,rfl,rfl,rfl,B,C,w,F,j,rfl,rfl,(by omega),(by rw[Cad (xs:=xs) ok u p (Bkn J) H a7,G];omega),⟨by omega,by omega⟩,trivial⟩;omega
   have a8:=Fp N;refine Al (kk K ?_);refine qB (l_v (Ah (v:=iV k) f) (l_v (Em (((k+1):Nat):Int)) (Au (iV ((k+1):Nat)) (Ac ?_))));refine⟨_,?_,(k+1),h,rfl,rfl,rfl,rfl,B,C,w,F,j,E,rfl,(by omega),(by rw[Cac (xs:=xs) ok u p H a8,G]),⟨by omega,by omega⟩,trivial⟩;omega
  have ak:=lZ2 M;refine Bx (kk ac ?_);refine qB (l_v (Ah (v:=iV i) F) (l_v (Em (((i+1):Nat):Int)) (Au (iV ((i+1):Nat)) (Ac ?_))));refine⟨_,?_,(i+1),h,rfl,rfl,rfl,rfl,B,C,w,E,rfl,(by omega),(by rw[Bbc J u,G,show k=y.parts.length by omega,Aav]),⟨by omega,by omega⟩,trivial⟩;omega
 have aj:=lZ2 L;refine Bx (kk k4 ?_);refine qA fun b7 ai=>l_v (Ah (v:=iV g) W) (Au (iV g) (l_k ai (Aj (Cez T) (Aq (aa (rT (iV g) ?_))))));rw[a0,show i=cs.length by omega,Aav,Bhi hcp hct hnl];rfl
theorem Bkj{k f b:Nat}(hk:k<=8)(hb:b<=8)(hf:f<=9):CallsH (CX mn X) 89 #[iV k,iV f,iV b] Y Z (fun w Y' Z'=>Ro.le Y Y'/\Z'=Z/\Val Y' w (Qi (Fv k f b):List (List Int))):=by
 induction k using Nat.strongRecOn generalizing f Y Z;rename_i k ih;refine Bq 43 [6] Tryz.func89 rfl fun Q W bl=>qA fun K1 p=>Au nS (qE p fun K2 K3 k2 k3=>Av (iV k) (l_v (Ek rfl rfl) (l_k k3 (Bp (t:=(k:Int)==0) rfl (fun D=>?_) (fun D=>?_)))))
 ·have q4:=Jr D;refine qA fun K5 k5=>Arv (Bi (α:=List Int) (xs:=[[]]) (vs:=[nS]) Cde Vh Cbh rfl (by decide) (Dk (os:=[.const nS]) ⟨rfl,trivial⟩) ⟨Gx,trivial⟩ rfl (by decide) fun u ab R6=>?_);have G6:Grow Y 26 (.slice (some ⟨u,0,none⟩) 1 1) ([[]]:List (List Int)) [(u,oC ab.toArray 26)]:=Bs R6 rfl (by decide);refine Au (.slice (some ⟨u,0,none⟩) 1 1) (l_k k5 (Hc G6 fun c0 l7 r7=>Aq (W ⟨l7,rfl,Abz (v:=.slice (some ⟨u,0,none⟩) 1 1) rfl (Val.cast ?_ r7)⟩)))
  ·obtain rfl:k=0:=by omega
   rfl
 have q4:=Jq D;refine Al (kk k2 ?_);refine qA fun K8 k8=>Au nS (qE k8 fun K9 b6 k9 ah=>Av (iV f) (Au (iV f) (l_k ah (Ao (Cc (fun mm ee dd Y' Z'=>∃(i:Nat) (a:Value) (x:Own),(b-i)=mm/\[]=dd/\Ro.le Y Y'/\(x++Z)=Z'/\ee 0=iV k/\ee 2=iV b/\ee 7=a/\ee 8=iV i/\(f<=i/\(i=f∨i<=b))/\Grow Y' 26 a (Qi (Jm (k-1) f i b)) x/\True) (m:=_) ⟨f,nS,[],rfl,rfl,Cfb,rfl,rfl,rfl,rfl,rfl,(by omega),Fy (by simp[Jm,Qi]) Hm,trivial⟩ ?_)))));rintro bo bh _ bv _ ⟨i,a,x,rfl,rfl,ZQ,rfl,N,E,O,F,bq,n,_⟩;refine qD fun b7 b8 ai aj=>l_v (Ah (v:=iV i) F) (l_v (Ah (v:=iV b) E) (l_v (Da rfl rfl) (l_k aj (Bp (t:=decide ((i:Int)<(b:Int))) rfl (fun B=>?_) (fun B=>?_)))))
 ·have au:=lZ1 B;refine Al (kk ai ?_);refine Ai fun b9 ak=>Ao (qA fun ba al=>l_v (Ah (v:=iV k) N) (l_v (Ou rfl rfl (z:=(((k-1):Nat):Int)) (Bo (by omega) (by omega) (by omega))) (l_v (Ah (v:=iV i) F) (l_v (Em (((i+1):Nat):Int)) (l_v (Ah (v:=iV b) E) (Arv (Cm (vs:=[iV ((k-1):Nat),iV ((i+1):Nat),iV b]) (ih (k-1) (by omega) (by omega) (by omega)) Tryz.func89 rfl rfl ⟨rfl,rfl,rfl,trivial⟩ fun y b2 c1 ad=>?_)))))));obtain⟨a0,L,h⟩:=ad;replace L:=L.symm;subst L;replace n:=Grow.mono a0 n;refine Au y (qC al fun bb am=>Au (iV 0) (l_k am (Ao (Cc (fun mm ee dd Y' Z'=>∃(j:Nat) (g:Value) (d:Own),((Qi (Fv (k-1) (i+1) b)).length-j)=mm/\[]=dd/\Ro.le b2 Y'/\(d++Z)=Z'/\ee 0=iV k/\ee 2=iV b/\ee 8=iV i/\ee 9=y/\ee 7=g/\ee 10=iV j/\(j<=(Qi (Fv (k-1) (i+1) b)).length)/\Grow Y' 26 g (Qi (Jm (k-1) f i b++((Fv (k-1) (i+1) b).take j).map (i::·))) d/\True) (m:=_) ⟨0,a,x,rfl,rfl,Cfb,rfl,N,E,F,rfl,O,rfl,Hr _,Fy (by simp) n,trivial⟩ ?_))));rintro bp bi _ b3 _ ⟨j,g,d,rfl,rfl,K,rfl,P,R,H,I,T,G,br,c,_⟩;replace h:=Val.mono K h;refine qD fun bc bd an ao=>l_v (Ah (v:=iV j) G) (l_v (Ah (v:=y) I) ?_);have bj:=Val.len h;refine l_v (Ci (el:=26) Cde rfl h) (l_v (Da rfl rfl) (l_k ao (Bp (t:=decide ((j:Int)<(((Qi (Fv (k-1) (i+1) b)).length:Nat):Int))) rfl (fun C=>?_) (fun C=>?_))))
  ·have av:=lZ1 C;refine Al (kk an ?_);refine Ai fun be ap=>Ao (qB (l_v (Ah (v:=g) T) (l_v (Ah (v:=iV i) H) (Arv (Bi (α:=Int) (xs:=[(i:Int)]) (vs:=[iV i]) Ccu ty3 zr3 rfl (by decide) (Dk (os:=[.tmp 33]) ⟨rfl,trivial⟩) ⟨Cv.2 ⟨rfl,by constructor<;>omega⟩,trivial⟩ rfl (by decide) fun J M a8=>?_)))))
   have a4:Grow b3 3 (.slice (some ⟨J,0,none⟩) 1 1) ([(i:Int)]:List Int) [(J,oC M.toArray 3)]:=Bs a8 rfl (by decide);refine l_v (Ah (v:=y) I) (l_v (Ah (v:=iV j) G) ?_);obtain⟨bg,U⟩:=Ed (xs:=Qi (Fv (k-1) (i+1) b)) (i:=j) (by omega);obtain⟨e,V,ag⟩:=Apx U;subst ag;have bm:=(Agh.1 (lZ5 V)).1;have bn:=Fc (l:=e);refine Arw (Ch j Cde Vh rfl h (q:=(j:Int)) rfl rfl U) fun bt aw=>Arw (Ax Vh rfl aw) fun bu ax=>Arv (Gc (Z:=d++Z) (gr:=[(J,oC M.toArray 3)]) (xs:=([(i:Int)]:List Int)) (ys:=Bw e) Ccu Ccu (Ab Cea) rfl nL rfl rfl rfl rfl a4 ax (by simp only[Tm,Fc,lZ3,lZ9,Nq,Uu,Jb]at *;first|omega|(have ae:=(Ve (k:=k-1) (f:=f) (i:=i) hb).1;have af:=(Ve (k:=k-1) (f:=f) (i:=i) hb).2;omega)) fun b1 bk a5=>?_);refine Ca a5 fun b5 a1 ay=>?_;replace c:=Grow.mono a1 c;refine Arv (Bi (α:=List Int) (xs:=[([(i:Int)]:List Int)++(Bw e)]) (vs:=[b1]) Cde Vh Cbh rfl (by decide) (Dk (os:=[.tmp 39]) ⟨rfl,trivial⟩) ⟨ay,trivial⟩ rfl (by decide) fun YQ aa a9=>?_);have a6:Grow b5 26 (.slice (some ⟨YQ,0,none⟩) 1 1) ([([(i:Int)]:List Int)++(Bw e)]:List (List Int)) [(YQ,oC aa.toArray 26)]:=Bs a9 rfl (by decide);refine Ca a6 fun bx a2 az=>?_;replace c:=Grow.mono a2 c;refine Arv (Gc (Z:=Z) (gr:=d) (xs:=Qi (Jm (k-1) f i b++((Fv (k-1) (i+1) b).take j).map (i::·))) (ys:=([([(i:Int)]:List Int)++(Bw e)]:List (List Int))) Cde Cde (Ab Cek) rfl nL rfl rfl rfl rfl c az (by simp only[Tm,Fc,lZ3,lZ9,Nq,Uu,Jb]at *;first|omega|(have ae:=(Ve (k:=k-1) (f:=f) (i:=i) hb).1;have af:=(Ve (k:=k-1) (f:=f) (i:=i) hb).2;omega)) fun a3 ac a7=>?_);refine Au a3 (l_k ap (qB (l_v (Ah (v:=iV j) G) (l_v (Em (((j+1):Nat):Int)) (Au (iV ((j+1):Nat)) (Ac ?_))))));refine⟨_,?_,(j+1),a3,ac,rfl,rfl,(Cfc (Cfc K a1) a2),rfl,P,R,H,I,rfl,rfl,(by omega),(Fy (by rw[map_take V,<-Gv];simp[Qi,Bw]) a7),trivial⟩;omega
  have av:=lZ2 C;refine Bx (kk ak ?_);refine qB (l_v (Ah (v:=iV i) H) (l_v (Em (((i+1):Nat):Int)) (Au (iV ((i+1):Nat)) (Ac ?_))));refine⟨_,?_,(i+1),g,d,rfl,rfl,(Cfc (Cfc ZQ a0) K),rfl,P,R,T,rfl,(by omega),(Fy (by rw[Adu (by omega),show j=(Qi (Fv (k-1) (i+1) b)).length by omega,Tm,Aav]) c),trivial⟩;omega
 have au:=lZ2 B;refine Bx (kk k9 ?_);refine qA fun bf aq=>l_v (Ah (v:=a) O) (Au a (l_k aq (Hc n fun bz ar b0=>Aq (W ⟨Cfc ZQ ar,rfl,Abz (v:=a) rfl (Val.cast ?_ b0)⟩))))
 ·obtain⟨p,rfl⟩:∃p,k=p+1:=⟨k-1,by omega⟩;simp only[Nat.add_sub_cancel];rcases Re f b with hlt|hge
  ·rw[show i=b by omega,Axh]
  ·rw[Bhv hge,show i=f by omega];simp[Jm]
theorem Asp{b:LBook}{xs:List Nat}{k:Nat}{x:LLot}{vb vx:Value}(rv:Val Y vb b)(rx:Val Y vx (Bw xs:List Int))(ok:LotsOk b)(hx:b.lots[k]?=some x):CallsH (CX mn X) 53 #[vb,vx,iV k] Y Z (fun w Y' Z'=>Ro.le Y Y'/\Z'=Z/\∃vm,w=(.tuple #[iV (Cw b (Bf xs) k),vm])/\Val Y' vm (Bw (Bv (Hx b (Bf xs) k)):List Int)):=by
 have hnl:=ok.nl;have hk:=(lZ4.1 hx).1;refine Bq 60 [6,7] Cet rfl fun Q ah bp=>qA fun K1 k1=>Arv (Jl (v:=vb) rfl fun k2=>?_);refine Bb (a:=b) rv fun b8 l2 p=>?_;replace rx:=Val.mono l2 rx;refine Au (iV 0) (Au nS (qC k1 fun K3 k3=>Au (iV (-1)) (qC k3 fun K4 k4=>Au nS (qE k4 fun K5 K6 k5 k6=>Au (iV 1) (l_k k6 (Ao (Cc (fun mm ee dd Y' Z'=>∃(c:Nat) (acc:Option (List Nat)) (u:Value),(b.lots.length-c)=mm/\[]=dd/\Ro.le b8 Y'/\Z=Z'/\ee 1=vx/\ee 2=iV k/\ee 3=pV k2/\ee 8=(iV (Vb (gB b xs) acc))/\ee 9=u/\ee 10=(iV ((c+1):Nat))/\(c<=b.lots.length)/\(acc=(Ayb (gB b xs) k (Vc b.lots.length c)))/\Val Y' u (Bw (acc.getD []):List Int)/\True) (m:=_) ⟨0,none,nS,rfl,rfl,Cfb,rfl,rfl,rfl,rfl,rfl,rfl,rfl,Hr _,rfl,Val.cast (rfl) Gx,trivial⟩ ?_)))))));rintro m7 e7 _ c8 _ ⟨c,acc,u,rfl,rfl,O,rfl,ae,af,a1,a5,a6,a0,bt,a2,L,_⟩;replace rx:=Val.mono O rx;replace p:=At.mono O p;refine qD fun K8 K9 k8 k9=>l_v (Ah (v:=iV ((c+1):Nat)) a0) (Arw (Ba LBook.f_lots Cct rfl Dy p a1) fun bu aw=>Arw (Ax Dy rfl aw) fun bv a9=>?_);have bm:=Val.len a9;refine l_v (Ci (el:=51) Ccw rfl a9) (l_v (Uz rfl rfl) (l_k k9 (Bp (t:=decide ((((c+1):Nat):Int)<=(b.lots.length:Int))) rfl (fun T=>?_) (fun T=>?_))))
 ·have au:=lZ1 T;refine Al (kk k8 ?_);refine Ai fun b9 aj=>Ao (qA fun ba ak=>l_v (Ah (v:=iV ((c+1):Nat)) a0) (Arw (Ba LBook.f_lots Cct rfl Dy p a1) fun bx ax=>Arw (Ax Dy rfl ax) fun bz aa=>?_));have bn:=Val.len aa;refine l_v (Ci (el:=51) Ccw rfl aa) (Arv (Cm (vs:=[iV ((c+1):Nat),iV 0,iV (b.lots.length:Int)]) (Bkj (k:=c+1) (f:=0) (b:=b.lots.length) (by omega) (by omega) (by omega)) Tryz.func89 rfl rfl ⟨rfl,rfl,rfl,trivial⟩ fun B b7 c9 ag=>?_));obtain⟨N,a4,z⟩:=ag;replace a4:=a4.symm;subst a4;replace rx:=Val.mono N rx;replace p:=At.mono N p;replace L:=Val.mono N L;refine Au B (qC ak fun bb al=>Au (iV 0) (l_k al (Ao (Cc (fun mm ee dd Y' Z'=>∃(j:Nat) (acc:Option (List Nat)) (F:Value),((Qi (Fv (c+1) 0 b.lots.length)).length-j)=mm/\[]=dd/\Ro.le b7 Y'/\Z=Z'/\ee 1=vx/\ee 2=iV k/\ee 3=pV k2/\ee 10=(iV ((c+1):Nat))/\ee 11=B/\ee 8=(iV (Vb (gB b xs) acc))/\ee 9=F/\ee 12=iV j/\(j<=(Qi (Fv (c+1) 0 b.lots.length)).length)/\(acc=(Ayb (gB b xs) k (Vc b.lots.length c++(Fv (c+1) 0 b.lots.length).take j)))/\Val Y' F (Bw (acc.getD []):List Int)/\True) (m:=_) ⟨0,acc,u,rfl,rfl,Cfb,rfl,ae,af,a1,a0,rfl,a5,a6,rfl,Hr _,(by rw[a2];simp),Val.cast (rfl) L,trivial⟩ ?_))));rintro bq bl _ c7 _ ⟨j,acc,F,rfl,rfl,y,rfl,C,D,E,G,g,H,ZQ,h,br,K,R,_⟩;replace rx:=Val.mono y rx;replace p:=At.mono y p;replace z:=Val.mono y z;refine qD fun bc bd am an=>l_v (Ah (v:=iV j) h) (l_v (Ah (v:=B) g) ?_);have bo:=Val.len z;refine l_v (Ci (el:=26) Cde rfl z) (l_v (Da rfl rfl) (l_k an (Bp (t:=decide ((j:Int)<(((Qi (Fv (c+1) 0 b.lots.length)).length:Nat):Int))) rfl (fun U=>?_) (fun U=>?_))))
  ·have av:=lZ1 U;refine Al (kk am ?_);refine Ai fun be M=>Ao (qD fun bf bg ao ap=>l_v (Ah (v:=B) g) (l_v (Ah (v:=iV j) h) ?_));obtain⟨bk,I⟩:=Ed (xs:=Qi (Fv (c+1) 0 b.lots.length)) (i:=j) (by omega);obtain⟨e,J,ai⟩:=Apx I;subst ai;have a7:=Bhu (lZ5 J);refine Arw (Ch j Cde Vh rfl z (q:=(j:Int)) rfl rfl I) fun c0 ay=>Arw (Ax Vh rfl ay) fun c1 az=>l_v (Ah (v:=iV k) D) (Arv (Cj (Ako (n:=(k:Int)) az) Cec ?_));refine l_v (Iy rfl) (l_k ap (Bp (t:=!(decide ((k:Int)∈(Bw e)))) rfl (fun V=>?_) (fun V=>?_)))
   ·have ad:=not_eq_t V;refine Bx (kk M ?_);refine qB (l_v (Ah (v:=iV j) h) (l_v (Em (((j+1):Nat):Int)) (Au (iV ((j+1):Nat)) (Ac ?_))));refine⟨_,?_,(j+1),acc,F,rfl,rfl,y,rfl,C,D,E,G,g,H,ZQ,rfl,(by omega),(by rw[Zy J,<-K,Bxy ad]),(Val.cast rfl R),trivial⟩;omega
   have W:=Fp V;refine Al (kk ao ?_);refine Ai fun bh aq=>Rw (Fd 0 (zT 1 7) rfl (Ax Gt E p) fun c2 b0=>Ef 1 (zT 2 6) rfl (Ah (v:=vx) C) (Ef 2 (zT 3 5) rfl (Ah (v:=B) g) (Cf 3 (zT 4 4) rfl (Ah (v:=iV j) h) (Fm 4 (zT 5 3) rfl (Ch j Cde Vh rfl z (q:=(j:Int)) rfl rfl I) fun c3 b1=>Fm 5 (zT 6 2) rfl (Ax Vh rfl b1) fun c4 b2=>Ma 6 (zT 7 1) rfl (Bm (Avh b0 rx b2 ok a7.1 a7.2) Tryz.func58 rfl rfl ⟨rfl,rfl,rfl,trivial⟩ ⟨Cfb,?_⟩)))));refine Cf 7 (zT 8 0) rfl (Cp (v:=iV (gB b xs e)) rfl) (Ec rfl (kk aq ?_));refine qA fun bi a8=>l_v (Ah (v:=iV (Vb (gB b xs) acc)) H) (l_v (Da rfl rfl) (Av (.bool (decide ((Vb (gB b xs) acc)<0))) (Cn (decide ((Vb (gB b xs) acc)<0)) (fun d=>?_) (fun d=>?_))))
   ·have P:=lZ1 d;refine Ap (gN rfl d) (Ap (gN rfl d) (Ap (gN rfl d) (l_v (Bt rfl d (v:=bT) rfl) (l_k a8 (Co rfl rfl (Rw (Ef 0 (zT 1 6) rfl (Ah (v:=iV (gB b xs e)) rfl) (Ef 1 (zT 2 5) rfl (Ah (v:=B) g) (Ef 2 (zT 3 4) rfl (Ah (v:=iV j) h) (Fd 3 (zT 4 3) rfl (Ch j Cde Vh rfl z (q:=(j:Int)) rfl rfl I) fun c5 b3=>Fd 4 (zT 5 2) rfl (Ax Vh rfl b3) fun ab b4=>Cf 5 (zT 6 1) rfl (Cp (v:=iV (gB b xs e)) rfl) (Cf 6 (zT 7 0) rfl (Cp (v:=ab) rfl) (Ec rfl (kk M ?_)))))))))))));refine qB (l_v (Ah (v:=iV j) h) (l_v (Em (((j+1):Nat):Int)) (Au (iV ((j+1):Nat)) (Ac ?_))));refine⟨_,?_,(j+1),(some e),ab,rfl,rfl,y,rfl,C,D,E,G,g,rfl,rfl,rfl,(by omega),(by rw[Zy J,<-K,Btp (Bzz ok xs) P W]),(Val.cast rfl b4),trivial⟩;omega
   have P:=lZ2 d;refine l_M (iV (gB b xs e)) (qF d) rfl (Aa (qF d) (Ah (v:=iV (Vb (gB b xs) acc)) H) (Aa (qF d) (Da rfl rfl) (l_v (Bn rfl d (v:=.bool (decide ((gB b xs e)<(Vb (gB b xs) acc)))) rfl) (l_k a8 (Bp (t:=decide ((gB b xs e)<(Vb (gB b xs) acc))) rfl (fun YQ=>?_) (fun YQ=>?_))))))
   ·have a3:=lZ1 YQ;refine Rw (Ef 0 (zT 1 6) rfl (Ah (v:=iV (gB b xs e)) rfl) (Ef 1 (zT 2 5) rfl (Ah (v:=B) g) (Ef 2 (zT 3 4) rfl (Ah (v:=iV j) h) (Fd 3 (zT 4 3) rfl (Ch j Cde Vh rfl z (q:=(j:Int)) rfl rfl I) fun c6 b5=>Fd 4 (zT 5 2) rfl (Ax Vh rfl b5) fun ac b6=>Cf 5 (zT 6 1) rfl (Cp (v:=iV (gB b xs e)) rfl) (Cf 6 (zT 7 0) rfl (Cp (v:=ac) rfl) (Ec rfl (kk M ?_)))))));refine qB (l_v (Ah (v:=iV j) h) (l_v (Em (((j+1):Nat):Int)) (Au (iV ((j+1):Nat)) (Ac ?_))));refine⟨_,?_,(j+1),(some e),ac,rfl,rfl,y,rfl,C,D,E,G,g,rfl,rfl,rfl,(by omega),(by rw[Zy J,<-K,Bxx P a3 W]),(Val.cast rfl b6),trivial⟩;omega
   have a3:=lZ2 YQ;refine Al (kk M ?_);refine qB (l_v (Ah (v:=iV j) h) (l_v (Em (((j+1):Nat):Int)) (Au (iV ((j+1):Nat)) (Ac ?_))));refine⟨_,?_,(j+1),acc,F,rfl,rfl,y,rfl,C,D,E,G,g,H,ZQ,rfl,(by omega),(by rw[Zy J,<-K,Bxw P a3 W]),(Val.cast rfl R),trivial⟩;omega
  have av:=lZ2 U;refine Bx (kk aj ?_);refine qB (l_v (Ah (v:=iV ((c+1):Nat)) G) (l_v (Em ((((c+1)+1):Nat):Int)) (Au (iV ((((c+1)+1):Nat):Int)) (Ac ?_))));refine⟨_,?_,(c+1),acc,F,rfl,rfl,(Cfc (Cfc O N) y),rfl,C,D,E,H,ZQ,rfl,(by omega),(by rw[K,Boo (by rw[<-Tm];omega)]),(Val.cast rfl R),trivial⟩;omega
 have au:=lZ2 T;refine Bx (kk k5 ?_);refine qA fun bj ar=>l_v (Ah (v:=iV (Vb (gB b xs) acc)) a5) (l_v (Ah (v:=u) a6) (Au (iV (Vb (gB b xs) acc)) (Au u (l_k ar (Aq (ah ⟨Cfc l2 O,rfl,u,Eq.trans (b:=.tuple #[iV (Vb (gB b xs) acc),u]) (Mp (r:=6) (r':=7) (rs:=[]) (v:=iV (Vb (gB b xs) acc)) (v':=u) (vs:=[]) ⟨rfl,rfl,trivial⟩) ?_,Val.cast ?_ L⟩))))))
 ·have hpm:acc=some (Bv (Hx b (Bf xs) k)):=by rw[a2,show c=b.lots.length by omega];exact Ayc hx hnl _
  have hpe:Vb (gB b xs) (some (Bv (Hx b (Bf xs) k)))=Cw b (Bf xs) k:=by
   show Bu b (Bf xs) (Bf (Bv (Hx b (Bf xs) k)))=_;rw[Aqq (Axn ok hx _)];rfl
  rw[hpm,hpe]
 ·have hpm:acc=some (Bv (Hx b (Bf xs) k)):=by rw[a2,show c=b.lots.length by omega];exact Ayc hx hnl _
  rw[hpm];rfl
end
section
theorem Ayn{b:LBook}{l:List Int}(h:Acb b l=0):Hd b=0/\Er l b.fields.length=0:=Jx.1 h
theorem Bqs{b:LBook}{l:List Int}{k:Int}(h:Acb b l≠0):Dz b l k=Acb b l:=by
 unfold Acb at h ⊢;unfold Dz;by_cases h1:Hd b=0
 ·rw[Gr h1]at h ⊢;rw[Gr h1,Ry h]
 ·rw[Ry h1,Ry h1]
variable{mn:Bool}{X:Frame->List Frame->Ro->Own->Cy->Prop}{Y:Ro}{Z:Own}
theorem Bgs{b:LBook}{xs:List Nat}{vb vx:Value}(rv:Val Y vb b)(rx:Val Y vx (Bw xs:List Int))(hn:b.fields.length<=40):CallsH (CX mn X) 39 #[vb,vx] Y Z (fun w Y' Z'=>Ro.le Y Y'/\Z'=Z/\Val Y' w (Bw (Sf b.fields.length xs):List Int)):=by
 refine Bq 23 [4] Tryz.func39 rfl fun Q M a9=>qA fun K1 N=>Arv (Jl (v:=vb) rfl fun P=>?_);refine Bb (a:=b) rv fun a3 C x=>?_;replace rx:=Val.mono C rx;refine Au nS (Arx rfl rfl N fun K3 T=>Au nS (Ary rfl rfl T fun K4 K5 U V=>Au (iV 0) (l_k V (Ao (Cc (fun mm ee dd Y' Z'=>∃(i:Nat) (c:Value) (g:Own),(b.fields.length-i)=mm/\[]=dd/\Ro.le a3 Y'/\(g++Z)=Z'/\ee 1=vx/\ee 2=pV P/\ee 5=c/\ee 6=iV i/\(i<=b.fields.length)/\Grow Y' 3 c (Bw ((List.range i).filter (fun i:Nat=>!decide ((i:Int)∈Bw xs)))) g/\True) (m:=_) ⟨0,nS,[],rfl,rfl,Cfb,rfl,rfl,rfl,rfl,rfl,Hr _,Hm,trivial⟩ ?_)))));rintro m6 e6 _ a4 _ ⟨i,c,g,rfl,rfl,f,rfl,k,q,u,e,aa,d,_⟩;replace rx:=Val.mono f rx;replace x:=At.mono f x;refine qD fun K7 K8 W YQ=>l_v (Ah (v:=iV i) e) (Arw (Ba LBook.f_fields Cct rfl Hw x q) fun v9 r9=>Arw (Ax Hw rfl r9) fun ab D=>?_);have a8:=Val.len D;refine l_v (Ci (el:=9) Ccv rfl D) (l_v (Da rfl rfl) (l_k YQ (Bp (t:=decide ((i:Int)<(b.fields.length:Int))) rfl (fun h=>?_) (fun h=>?_))))
 ·have a0:=lZ1 h;refine Al (kk W ?_);refine Ai fun a5 y=>Ao (qA fun a6 O=>l_v (Ah (v:=vx) k) (l_v (Ah (v:=iV i) e) (Arv (Cj (Ako (n:=(i:Int)) rx) Cec ?_))));refine l_v (Iy rfl) (l_k O (Bp (t:=!(decide ((i:Int)∈(Bw xs)))) rfl (fun j=>?_) (fun j=>?_)))
  ·have I:=not_eq_t j;refine qB (l_v (Ah (v:=c) u) (l_v (Ah (v:=iV i) e) (Arv (Bi (α:=Int) (xs:=[(i:Int)]) (vs:=[iV i]) Ccu ty3 zr3 rfl (by decide) (Dk (os:=[.tmp 19]) ⟨rfl,trivial⟩) ⟨Cv.2 ⟨rfl,by constructor<;>omega⟩,trivial⟩ rfl (by decide) fun z K H=>?_))))
   have F:Grow a4 3 (.slice (some ⟨z,0,none⟩) 1 1) ([(i:Int)]:List Int) [(z,oC K.toArray 3)]:=Bs H rfl (by decide);refine Ca F fun ac B a1=>?_;replace d:=Grow.mono B d;refine Arv (Gc (Z:=Z) (gr:=g) (xs:=Bw ((List.range i).filter (fun i:Nat=>!decide ((i:Int)∈Bw xs)))) (ys:=([(i:Int)]:List Int)) Ccu Ccu (Ab Cea) rfl nL rfl rfl rfl rfl d a1 (by have:=Alb (p:=fun i:Nat=>!decide ((i:Int)∈Bw xs)) (i:=i);simp only[lZ3,lZ9,Nq];omega) fun E L G=>?_);refine Au E (l_k y (qB (l_v (Ah (v:=iV i) e) (l_v (Em (((i+1):Nat):Int)) (Au (iV ((i+1):Nat)) (Ac ?_))))));refine⟨_,?_,(i+1),E,L,rfl,rfl,(Cfc f B),rfl,k,q,rfl,rfl,(by omega),(Fy (by rw[Aps (p:=fun i:Nat=>!decide ((i:Int)∈Bw xs)) (by show (!decide _)=true;rw[I];rfl)]) G),trivial⟩;omega
  have J:=Fp j;refine Al (kk y ?_);refine qB (l_v (Ah (v:=iV i) e) (l_v (Em (((i+1):Nat):Int)) (Au (iV ((i+1):Nat)) (Ac ?_))));refine⟨_,?_,(i+1),c,g,rfl,rfl,f,rfl,k,q,u,rfl,(by omega),(Fy (by rw[Apr (p:=fun i:Nat=>!decide ((i:Int)∈Bw xs)) (by show (!decide _)=false;rw[J];rfl)]) d),trivial⟩;omega
 have a0:=lZ2 h;refine Bx (kk U ?_);refine qA fun a7 R=>l_v (Ah (v:=c) u) (Au c (l_k R (Hc d fun ad ZQ a2=>Aq (M ⟨Cfc (Cfc C f) ZQ,rfl,Abz (v:=c) rfl (Val.cast ?_ a2)⟩))))
 ·rw[show i=b.fields.length by omega];rfl
theorem Azz{b:LBook}{xs:List Nat}{k:Nat}{x:LLot}{vb vx:Value}(rv:Val Y vb b)(rx:Val Y vx (Bw xs:List Int))(ok:LotsOk b)(hx:b.lots[k]?=some x):CallsH (CX mn X) 38 #[vb,vx,iV k] Y Z (fun w Y' Z'=>Ro.le Y Y'/\Z'=Z/\Val Y' w (Sm b (Bf xs) k:Span)):=by
 have hnf:=ok.nf;have h6:=(ok.lnm _ _ hx).2.2.2.2;have hmb:=Pq ok hx;have a1:=Zs ok hx (Bf (Sf b.fields.length xs));have a2:=Zs ok hx (Bf xs);have hk:=(lZ4.1 hx).1;refine Lt (n:=37) (args:=[vb,vx,iV k]) [.cell 6 53] Tryz.func38 rfl rfl rfl rfl fun Q E a3=>qA fun K1 F=>Arv (Jl (v:=vb) rfl fun k2=>?_);refine Bb (a:=b) rv fun ad u c=>?_;replace rx:=Val.mono u rx;refine Arv (Ct Aak fun k3=>?_);refine Arx rfl rfl F fun K4 H=>Arw (Ax Gt rfl c) fun U P=>Av vx (Av (iV k) (Arv (Cm (vs:=[U,vx,iV k]) (Asp (xs:=xs) P rx ok hx) Cet rfl rfl ⟨rfl,rfl,rfl,trivial⟩ fun w6 ae ah D=>?_)));obtain⟨f,m,t,ZQ,a6⟩:=D;replace m:=m.symm;subst m ZQ;replace rx:=Val.mono f rx;replace c:=At.mono f c;refine Av (.tuple #[iV (Cw b (Bf xs) k),t]) (l_v (Cr (iV (Cw b (Bf xs) k))) (l_v (Cr t) (Au (iV (Cw b (Bf xs) k)) (Au t (Asa H fun K7 I=>Rw (Fd 0 (zT 1 10) rfl (Ax Gt rfl c) fun V g=>Fd 1 (zT 2 9) rfl (Ax Gt rfl c) fun W R=>Ef 2 (zT 3 8) rfl (Ah (v:=vx) rfl) (Ef 4 [o1,o1,o1,o0,o1,o0,o0,o0,o0,o0,o0] rfl (Ah (v:=iV k) rfl) (Ma 3 (zT 5 6) rfl (Cm (vs:=[W,vx]) (Bgs (xs:=xs) R rx (by omega)) Tryz.func39 rfl rfl ⟨rfl,rfl,trivial⟩ fun T ac af B=>?_)))))))));obtain⟨d,h,J⟩:=B;replace h:=h.symm;subst h;replace c:=At.mono d c;replace g:=Val.mono d g;refine⟨d,?_⟩;refine Ma 5 (zT 6 5) rfl (Cm (vs:=[V,T,iV k]) (Asp (xs:=Sf b.fields.length xs) g J ok hx) Cet rfl rfl ⟨rfl,rfl,rfl,trivial⟩ fun ab y ag C=>?_);obtain⟨e,j,p,YQ,a4⟩:=C;replace j:=j.symm;subst j YQ;replace c:=At.mono e c;refine⟨(Cfc d e),?_⟩;refine Gh 6 (zT 7 4) rfl (Cfc d e) rfl (Ah (v:=.tuple #[iV (Cw b (Bf (Sf b.fields.length xs)) k),p]) rfl) (Pm (by kernel_rfl) (Cfc d e) Cfb (Ef 7 (zT 8 3) rfl (Cr (iV (Cw b (Bf (Sf b.fields.length xs)) k))) (Ef 8 (zT 9 2) rfl (Cr p) (Cf 9 (zT 10 1) rfl (Cp (v:=iV (Cw b (Bf (Sf b.fields.length xs)) k)) rfl) (Cf 10 (zT 11 0) rfl (Cp (v:=p) rfl) (Ec rfl (kk I ?_)))))));refine qA fun a0 G=>Arw (Ba LBook.f_lots Cct rfl Dy c) fun a7 K=>Arw (Ax Dy rfl K) fun a8 L=>Av (iV k) (Arw (Ch k Ccw Gk rfl L (q:=(k:Int)) rfl rfl hx) fun a9 M=>Arw (Ax Gk rfl M) fun aa N=>Arv (Cj (Ash N (by omega) (Axz ok hx)) Cem ?_));refine Av (iV (Cw b (Bf (Sf b.fields.length xs)) k)) (l_v (Ou rfl rfl (z:=(Eo x)-(Cw b (Bf (Sf b.fields.length xs)) k)) (Bo (by rfl) (by omega) (by omega))) (Av (iV (Cw b (Bf xs) k)) ?_));have a5:Val y (.agg #[iV ((Eo x)-(Cw b (Bf (Sf b.fields.length xs)) k)),iV (Cw b (Bf xs) k)]) (⟨(Eo x)-(Cw b (Bf (Sf b.fields.length xs)) k),Cw b (Bf xs) k⟩:Span):=Span.shut (x:=(⟨(Eo x)-(Cw b (Bf (Sf b.fields.length xs)) k),Cw b (Bf xs) k⟩:Span)) (iC ((Eo x)-(Cw b (Bf (Sf b.fields.length xs)) k))) (iC (Cw b (Bf xs) k));refine l_v (Dn (ns:=[1,1]) (vs:=[(0,(iV ((Eo x)-(Cw b (Bf (Sf b.fields.length xs)) k)))),(1,(iV (Cw b (Bf xs) k)))]) (zc:=Arm) (cs:=[iV ((Eo x)-(Cw b (Bf (Sf b.fields.length xs)) k)),iV (Cw b (Bf xs) k)]) Ceb Aak rfl ⟨ty3.2,ty3.2,trivial⟩ (EvB.map ⟨⟨rfl,rfl⟩,⟨rfl,rfl⟩,trivial⟩) ((Be (cs:=[iV ((Eo x)-(Cw b (Bf (Sf b.fields.length xs)) k))]) rfl rfl nL).trans ((Be (cs:=[iV (Cw b (Bf xs) k)]) rfl rfl nL).trans rfl))) (Cx rfl (Li (i:=0) (vs:=[iV ((Eo x)-(Cw b (Bf (Sf b.fields.length xs)) k)),iV (Cw b (Bf xs) k)]) (c':=[iV ((Eo x)-(Cw b (Bf (Sf b.fields.length xs)) k)),iV (Cw b (Bf xs) k)]) Mx.2 rfl rfl rfl rfl (Zh ⟨rfl,rfl,trivial⟩) rfl nL rfl ?_));refine l_k G (Aq ?_);have O:Val y (.agg #[iV ((Eo x)-(Cw b (Bf (Sf b.fields.length xs)) k)),iV (Cw b (Bf xs) k)]) (⟨(Eo x)-(Cw b (Bf (Sf b.fields.length xs)) k),Cw b (Bf xs) k⟩:Span):=Span.shut (x:=(⟨(Eo x)-(Cw b (Bf (Sf b.fields.length xs)) k),Cw b (Bf xs) k⟩:Span)) (iC ((Eo x)-(Cw b (Bf (Sf b.fields.length xs)) k))) (iC (Cw b (Bf xs) k));refine E _ _ _ _ _ [.agg #[iV ((Eo x)-(Cw b (Bf (Sf b.fields.length xs)) k)),iV (Cw b (Bf xs) k)]] ⟨Qh Mx.1 Mx.2 rfl (i:=0) rfl rfl,trivial⟩ Ghost.drop ⟨Cfc (Cfc (Cfc u f) d) e,rfl,Abz (v:=.agg #[iV ((Eo x)-(Cw b (Bf (Sf b.fields.length xs)) k)),iV (Cw b (Bf xs) k)]) rfl (Val.cast ?_ O)⟩
 ·unfold Sm;rw[Axm hx,Bnl]
theorem Bgo{b:LBook}{l:List Int}{vb vl:Value}(rv:Val Y vb b)(rl:Val Y vl l):CallsH (CX mn X) 42 #[vb,vl] Y Z (rP Y Z (iV (Acb b l))):=by
 refine Bq 42 [4] Tryz.func42 rfl fun Q w aq=>qA fun K1 O=>Arv (Jl (v:=vb) rfl fun W=>?_);refine Bb (a:=b) rv fun a6 k K=>?_;replace rl:=Val.mono k rl;refine Au (iV 0) (Ary rfl rfl O fun K3 K4 ZQ k4=>Arw (Ax Gt rfl K) fun v5 r5=>Arv (Cj (Acw r5) Tryz.func17 ?_));refine Au (iV (Hd b)) (qC k4 fun K6 k6=>Av (iV (Hd b)) (l_v (Dg rfl rfl) (l_k k6 (Bp (t:=(Hd b) != 0) rfl (fun g=>?_) (fun g=>?_)))))
 ·have q7:=Ls g;refine qA fun K8 k8=>Av (iV (Hd b)) (Au (iV (Hd b)) (l_k k8 (Aj (Cez k) (Aq (w (rT (iV (Hd b)) ?_))))));unfold Acb;rw[Ry (Ls g)]
 have u:Hd b=0:=Jh g;have ok:=Tp u;have hnf:=ok.nf;have hnl:=ok.nl;have q7:=Jh g;refine Al (kk ZQ ?_);refine qD fun K9 a7 k9 P=>Au (iV 0) (l_k P (Ao (Cc (fun mm ee dd Y' Z'=>∃(i:Nat),(l.length-i)=mm/\[]=dd/\a6=Y'/\Z=Z'/\ee 1=vl/\ee 2=pV W/\ee 6=iV i/\(i<=l.length)/\(∀j,j<i->Tf l (b.fields.length:Int) j=0)/\True) (m:=_) ⟨0,rfl,rfl,rfl,rfl,rfl,rfl,rfl,Hr _,fun j h=>absurd h (Td _),trivial⟩ ?_)));rintro ar ah _ _ _ ⟨i,rfl,rfl,rfl,rfl,e,D,d,au,n,_⟩;refine qD fun a8 a9 R T=>l_v (Ah (v:=iV i) d) (l_v (Ah (v:=vl) e) ?_);have ai:=Val.len rl;refine l_v (Ci (el:=3) Ccu rfl rl) (l_v (Da rfl rfl) (l_k T (Bp (t:=decide ((i:Int)<(l.length:Int))) rfl (fun y=>?_) (fun y=>?_))))
 ·have a2:=lZ1 y;refine Al (kk R ?_);refine Ai fun aa H=>Ao (Ai fun ab U=>Ai fun ac V=>Rw (Ef 0 (zT 1 9) rfl (Ah (v:=vl) e) (Ef 1 (zT 2 8) rfl (Ah (v:=iV i) d) ?_)));obtain⟨x,f⟩:=Ed (xs:=l) (i:=i) (by omega);refine Fd 2 (zT 3 7) rfl (Ch i Ccu ty3 rfl rl (q:=(i:Int)) rfl rfl f) fun ax J=>?_;have⟨aj,ak⟩:=At.rng J;refine Ef 3 (zT 4 6) rfl (Bc ty3 rfl J) (Fm 4 (zT 5 5) rfl (Ba LBook.f_fields Cct rfl Hw K D) fun ay a5=>Fm 5 (zT 6 4) rfl (Ax Hw rfl a5) fun az L=>?_);have al:=Val.len L;refine Cf 6 (zT 7 3) rfl (Ci (el:=9) Ccv rfl L) (Cf 7 (zT 8 2) rfl (Ou rfl rfl (z:=(b.fields.length:Int)-1) wrE) (Ma 8 (zT 9 1) rfl (Bm Azv Cdv rfl rfl ⟨rfl,rfl,rfl,trivial⟩ ⟨Cfb,?_⟩)));refine Cf 9 (zT 10 0) rfl (Iy rfl) (Ec rfl (kk V ?_));refine Bp (t:=!(inR x 0 ((b.fields.length:Int)-1))) rfl (fun B=>?_) (fun B=>?_)
  ·have G:=not_eq_t B;have av:=Xo.1 G;refine qA fun ad YQ=>Au (iV 6) (l_k YQ (Aj (Cez k) (Aq (w (rT (iV 6) ?_)))));unfold Acb;rw[Gr u,Er,Db n (by omega) (Bca f G) (by decide)]
  have p:=Fp B;have aw:=Fz.1 p;refine Al (kk U ?_);refine Ai fun ae I=>Rw (Cf 0 (zT 1 13) rfl (Ah (v:=iV i) d) (Cf 1 (zT 2 12) rfl (Gl rfl rfl) (Cf 2 (zT 3 11) rfl (Ah (v:=.bool (decide ((i:Int)>0))) rfl) (Akk (decide ((i:Int)>0)) (fun c=>?_) (fun c=>?_)))))
  ·have a3:=lZ1 c;refine Jd 3 (zT 4 10) rfl Cfb (qF c) (Ah (v:=vl) e) (Jd 4 (zT 5 9) rfl Cfb (qF c) (Ah (v:=iV i) d) (Gp 5 (zT 6 8) rfl Cfb (qF c) (Ch i Ccu ty3 rfl rl (q:=(i:Int)) rfl rfl f) fun b0 M=>?_));have⟨am,an⟩:=At.rng M;refine Jd 6 (zT 7 7) rfl Cfb (qF c) (Bc ty3 rfl M) (Jd 7 (zT 8 6) rfl Cfb (qF c) (Ah (v:=vl) e) (Gh 8 (zT 9 5) rfl Cfb (qF c) (Ah (v:=iV i) d) (Gh 9 (zT 10 4) rfl Cfb (qF c) (Ou rfl rfl (z:=(i:Int)-1) wrE) ?_)));obtain⟨F,E⟩:=Ed (xs:=l) (i:=(((i:Int)-1)).toNat) (by omega);refine Xy 10 (zT 11 3) rfl Cfb (qF c) (Ch ((((i:Int)-1)).toNat) Ccu ty3 rfl rl (q:=(i:Int)-1) rfl (by omega) E) fun b1 N=>?_;have⟨ao,ap⟩:=At.rng N;refine Gh 11 (zT 12 2) rfl Cfb (qF c) (Bc ty3 rfl N) (Gh 12 (zT 13 1) rfl Cfb (qF c) (Uz rfl rfl) (Cf 13 (zT 14 0) rfl (Bt rfl c (v:=.bool (decide (x<=F))) rfl) (Ec rfl (kk I ?_))));refine Bp (t:=decide (x<=F)) rfl (fun C=>?_) (fun C=>?_)
   ·have a4:=lZ1 C;refine qA fun af a0=>Au (iV 7) (l_k a0 (Aj (Cez k) (Aq (w (rT (iV 7) ?_)))));unfold Acb;rw[Gr u,Er,Db n (by omega) (Bcb f p (by omega) E (by omega)) (by decide)]
   have a4:=lZ2 C;refine Al (kk H ?_);refine qB (l_v (Ah (v:=iV i) d) (l_v (Em (((i+1):Nat):Int)) (Au (iV ((i+1):Nat)) (Ac ?_))));refine⟨_,?_,(i+1),rfl,rfl,rfl,rfl,e,D,rfl,(by omega),(Eg n (Agw f p fun h=>⟨_,E,by omega⟩)),trivial⟩;omega
  have a3:=lZ2 c;refine Ds 3 (zT 4 10) rfl Cfb (gN rfl c) (Ds 4 (zT 5 9) rfl Cfb (gN rfl c) (Ds 5 (zT 6 8) rfl Cfb (gN rfl c) (Ds 6 (zT 7 7) rfl Cfb (gN rfl c) (Ds 7 (zT 8 6) rfl Cfb (gN rfl c) (En 8 (zT 9 5) rfl Cfb (gN rfl c) (En 9 (zT 10 4) rfl Cfb (gN rfl c) (En 10 (zT 11 3) rfl Cfb (gN rfl c) (En 11 (zT 12 2) rfl Cfb (gN rfl c) (En 12 (zT 13 1) rfl Cfb (gN rfl c) (Cf 13 (zT 14 0) rfl (Bn rfl c (v:=bF) rfl) (Ec rfl (kk I ?_))))))))))));refine Cg rfl rfl (Al (kk H ?_));refine qB (l_v (Ah (v:=iV i) d) (l_v (Em (((i+1):Nat):Int)) (Au (iV ((i+1):Nat)) (Ac ?_))));refine⟨_,?_,(i+1),rfl,rfl,rfl,rfl,e,D,rfl,(by omega),(Eg n (Agw f p fun h=>by omega)),trivial⟩;omega
 have a2:=lZ2 y;refine Bx (kk k9 ?_);refine qA fun ag a1=>Au (iV 0) (l_k a1 (Aj (Cez k) (Aq (w (rT (iV 0) ?_)))));unfold Acb;rw[Gr u,Er,Fb fun j hj=>n j (by omega)]
theorem Akf{b:LBook}{l:List Int}{k:Int}{vb vl:Value}(rv:Val Y vb b)(rl:Val Y vl l):CallsH (CX mn X) 37 #[vb,vl,iV k] Y Z (rP Y Z (iV (Dz b l k))):=by
 refine Bq 21 [6] Cep rfl fun Q h T=>qA fun H p=>Arv (Jl (v:=vb) rfl fun U=>?_);refine Bb (a:=b) rv fun a0 d n=>?_;replace rl:=Val.mono d rl;refine Au (iV 0) (qE p fun L M x y=>Arw (Ax Gt rfl n) fun v5 G=>Av vl (Arv (Cj (Bgo G rl) Tryz.func42 ?_)));refine Au (iV (Acb b l)) (qC y fun N B=>Av (iV (Acb b l)) (l_v (Dg rfl rfl) (l_k B (Bp (t:=(Acb b l) != 0) rfl (fun c=>?_) (fun c=>?_)))))
 ·have E:=Ls c;refine qA fun O C=>Av (iV (Acb b l)) (Au (iV (Acb b l)) (l_k C (Aj (Cez d) (Aq (h (rT (iV (Acb b l)) ?_))))));rw[Bqs (Ls c)]
 have E:=Jh c;refine Al (kk x ?_);refine qD fun P I D q=>Av (iV k) (Arw (Ba LBook.f_lots Cct rfl Dy n) fun YQ F=>Arw (Ax Dy rfl F) fun ZQ m=>?_);have R:=Val.len m;refine l_v (Ci (el:=51) Ccw rfl m) (l_v (Ou rfl rfl (z:=(b.lots.length:Int)-1) wrE) (Arv (Cj Azv Cdv ?_)));refine l_v (Iy rfl) (l_k q (Bp (t:=!(inR k 0 ((b.lots.length:Int)-1))) rfl (fun e=>?_) (fun e=>?_)))
 ·have i:=not_eq_t e;have V:=Xo.1 i;refine qA fun J u=>Au (iV 6) (l_k u (Aj (Cez d) (Aq (h (rT (iV 6) ?_)))));obtain⟨f,g⟩:=Ayn (Jh c);rw[Bju f g i]
 have j:=Fp e;have W:=Fz.1 j;refine Al (kk D ?_);refine qA fun K w=>Au (iV 0) (l_k w (Aj (Cez d) (Aq (h (rT (iV 0) ?_)))));obtain⟨f,g⟩:=Ayn (Jh c);rw[Bjt f g j]
section
variable{b:LBook}{xs:List Nat}{k:Int}{vb vx:Value}
theorem Azy(rv:Val Y vb b)(rx:Val Y vx (Bw xs:List Int))(ok:LotsOk b)(h0:0<=k)(h1:k<b.lots.length):CallsH (CX mn X) 38 #[vb,vx,.int .i64 k] Y Z (fun w Y' Z'=>Ro.le Y Y'/\Z'=Z/\Val Y' w (Sm b (Bf xs) k.toNat:Span)):=by obtain⟨n,rfl⟩:∃n:Nat,k=n:=⟨k.toNat,by omega⟩;obtain⟨x,hx⟩:=Ed (xs:=b.lots) (i:=n) (by omega);exact Azz rv rx ok hx
theorem Bkk(rv:Val Y vb b)(rx:Val Y vx (Bw xs:List Int))(ok:LotsOk b)(h0:0<=k)(h1:k<b.lots.length):CallsH (CX mn X) 53 #[vb,vx,.int .i64 k] Y Z (fun w Y' Z'=>Ro.le Y Y'/\Z'=Z/\∃vm,w=(.tuple #[iV (Cw b (Bf xs) k.toNat),vm])/\Val Y' vm (Bw (Bv (Hx b (Bf xs) k.toNat)):List Int)):=by obtain⟨n,rfl⟩:∃n:Nat,k=n:=⟨k.toNat,by omega⟩;obtain⟨x,hx⟩:=Ed (xs:=b.lots) (i:=n) (by omega);exact Asp rv rx ok hx
end
theorem Avf{b:LBook}{k:Int}{vb:Value}(rv:Val Y vb b):CallsH (CX mn X) 14 #[vb,iV k] Y Z (fun w Y' Z'=>Ro.le Y Y'/\Z'=Z/\∃vx,w=(.tuple #[vx,iV (Dz b [] k)])/\Val Y' vx (Apc b k:List Span)):=by
 refine Bq 31 [4,5] Tryz.func14 rfl fun Q D ap=>qA fun K1 YQ=>Arv (Jl (v:=vb) rfl fun k2=>?_);refine Bb (a:=b) rv fun af F f=>Au nS (Au (iV 0) (Ary rfl rfl YQ fun K3 K4 k3 k4=>Arw (Ax Gt rfl f) fun v5 r5=>Av (iV k) (Arv (Cj (Akf (k:=k) r5 (Gx:Val _ _ ([]:List Int))) Cep ?_))));refine Au (iV (Dz b [] k)) (qC k4 fun K6 k6=>Av (iV (Dz b [] k)) (l_v (Dg rfl rfl) (l_k k6 (Bp (t:=(Dz b [] k) != 0) rfl (fun e=>?_) (fun e=>?_)))))
 ·have q7:=Ls e;refine qA fun K8 k8=>Av (iV (Dz b [] k)) (Au nS (Au (iV (Dz b [] k)) (l_k k8 (Aq (D ⟨F,rfl,nS,Eq.trans (b:=.tuple #[nS,iV (Dz b [] k)]) (Mp (r:=4) (r':=5) (rs:=[]) (v:=nS) (v':=iV (Dz b [] k)) (vs:=[]) ⟨rfl,rfl,trivial⟩) ?_,Val.cast ?_ Gx⟩)))))
  ·rfl
  ·unfold Apc;rw[if_neg (Ls e)]
 have hz:Dz b [] k=0:=Jh e;obtain⟨hlo,hri,V,W⟩:=Tw hz;have ok:=Tp hlo;have hnf:=ok.nf;have hnl:=ok.nl;have q7:=Jh e;refine Al (kk k3 ?_);refine qA fun K9 k9=>Au nS (qE k9 fun ah ai ZQ a0=>Au (iV 0) (l_k a0 (Ao (Cc (fun mm ee dd Y' Z'=>∃(i:Nat) (c:Value) (g:Own),(b.fields.length-i)=mm/\[]=dd/\Ro.le af Y'/\(g++Z)=Z'/\ee 1=iV k/\ee 2=pV k2/\ee 7=c/\ee 8=iV i/\(i<=b.fields.length)/\Grow Y' 53 c ((List.range i).map fun j=>Sm b (1 <<< j) k.toNat) g/\True) (m:=_) ⟨0,nS,[],rfl,rfl,Cfb,rfl,rfl,rfl,rfl,rfl,Hr _,Hm,trivial⟩ ?_))));rintro aq an _ ae _ ⟨i,c,g,rfl,rfl,u,rfl,B,n,C,p,ar,d,_⟩;replace f:=At.mono u f;refine qD fun aj ak a1 a2=>l_v (Ah (v:=iV i) p) (Arw (Ba LBook.f_fields Cct rfl Hw f n) fun au a7=>Arw (Ax Hw rfl a7) fun av I=>?_);have ao:=Val.len I;refine l_v (Ci (el:=9) Ccv rfl I) (l_v (Da rfl rfl) (l_k a2 (Bp (t:=decide ((i:Int)<(b.fields.length:Int))) rfl (fun h=>?_) (fun h=>?_))))
 ·have a6:=lZ1 h;refine Al (kk a1 ?_);refine Ai fun al a3=>Ao (qB (l_v (Ah (v:=c) C) (Arw (Ax Gt n f) fun ac y=>l_v (Ah (v:=iV i) p) (Arv (Bi (α:=Int) (xs:=[(i:Int)]) (vs:=[iV i]) Ccu ty3 zr3 rfl (by decide) (Dk (os:=[.tmp 24]) ⟨rfl,trivial⟩) ⟨Cv.2 ⟨rfl,by constructor<;>omega⟩,trivial⟩ rfl (by decide) fun q P N=>?_)))))
  have K:Grow ae 3 (.slice (some ⟨q,0,none⟩) 1 1) ([(i:Int)]:List Int) [(q,oC P.toArray 3)]:=Bs N rfl (by decide);refine l_v (Ah (v:=iV k) B) (Ca K fun aw x a8=>?_);replace d:=Grow.mono x d;replace y:=Val.mono x y;refine Arv (Cm (vs:=[ac,.slice (some ⟨q,0,none⟩) 1 1,iV k]) (Azy (xs:=[i]) y (Val.cast rfl a8) ok V W) Tryz.func38 rfl rfl ⟨rfl,rfl,rfl,trivial⟩ fun ad ag az U=>?_);obtain⟨G,z,a9⟩:=U;replace z:=z.symm;subst z;replace d:=Grow.mono G d;refine Arv (Bi (α:=Span) (xs:=[Sm b (Bf [i]) k.toNat]) (vs:=[ad]) Cdf Mx Aak rfl (by decide) (Dk (os:=[.tmp 27]) ⟨rfl,trivial⟩) ⟨a9,trivial⟩ rfl (by decide) fun E R O=>?_);have L:Grow ag 53 (.slice (some ⟨E,0,none⟩) 1 1) ([Sm b (Bf [i]) k.toNat]:List Span) [(E,oC R.toArray 53)]:=Bs O rfl (by decide);refine Ca L fun ax H aa=>?_;replace d:=Grow.mono H d;refine Arv (Gc (Z:=Z) (gr:=g) (xs:=(List.range i).map fun j=>Sm b (1 <<< j) k.toNat) (ys:=([Sm b (Bf [i]) k.toNat]:List Span)) Cdf Cdf (Ab Cef) rfl nL rfl rfl rfl rfl d aa (by simp only[lZ3,lZ9,Nq,Uu,Aws];omega) fun J T M=>?_);refine Au J (l_k a3 (qB (l_v (Ah (v:=iV i) p) (l_v (Em (((i+1):Nat):Int)) (Au (iV ((i+1):Nat)) (Ac ?_))))));refine⟨_,?_,(i+1),J,T,rfl,rfl,(Cfc (Cfc (Cfc u x) G) H),rfl,B,n,rfl,rfl,(by omega),(Fy (by rw[Bnk,Awy,Lo];rfl) M),trivial⟩;omega
 have a6:=lZ2 h;refine Bx (kk ZQ ?_);refine qA fun am a4=>l_v (Ah (v:=c) C) (Au c (Au (iV 0) (l_k a4 (Hc d fun ay a5 ab=>Aq (D ⟨Cfc (Cfc F u) a5,rfl,c,Eq.trans (b:=.tuple #[c,iV 0]) (Mp (r:=4) (r':=5) (rs:=[]) (v:=c) (v':=iV 0) (vs:=[]) ⟨rfl,rfl,trivial⟩) ?_,Val.cast ?_ ab⟩)))))
 ·rw[hz]
 ·unfold Apc Bkm;rw[if_pos hz,show i=b.fields.length by omega]
theorem Brb{b:LBook}{l:List Int}{k:Int}{vb vl:Value}(rv:Val Y vb b)(rl:Val Y vl l):CallsH (CX mn X) 19 #[vb,vl,iV k] Y Z (fun w Y' Z'=>Ro.le Y Y'/\Z'=Z/\∃vx,w=(.tuple #[iV (Tk b l k),vx,iV (Dz b l k)])/\Val Y' vx (Aax b l k:List Int)):=by
 refine Bq 28 [6,7,8] Tryz.func19 rfl fun Q g R=>qA fun J n=>Arv (Jl (v:=vb) rfl fun T=>?_);refine Bb (a:=b) rv fun YQ e h=>?_;replace rl:=Val.mono e rl;refine Au (iV 0) (Au nS (Au (iV 0) (qE n fun L M q u=>Arw (Ax Gt rfl h) fun U F=>Av vl (Av (iV k) (Arv (Cj (Akf (k:=k) F rl) Cep ?_))))));refine Au (iV (Dz b l k)) (qC u fun N x=>Av (iV (Dz b l k)) (l_v (Dg rfl rfl) (l_k x (Bp (t:=(Dz b l k) != 0) rfl (fun d=>?_) (fun d=>?_)))))
 ·have C:=Ls d;refine qA fun O y=>Av (iV (Dz b l k)) (Au (iV 0) (Au nS (Au (iV (Dz b l k)) (l_k y (Aq (g ⟨e,rfl,nS,Eq.trans (b:=.tuple #[iV 0,nS,iV (Dz b l k)]) (Mp (r:=6) (r':=7) (rs:=[8]) (v:=iV 0) (v':=nS) (vs:=[iV (Dz b l k)]) ⟨rfl,rfl,rfl,trivial⟩) ?_,Val.cast ?_ Gx⟩))))))
  ·unfold Tk;rw[if_neg (Ls d)]
  ·unfold Aax;rw[if_neg (Ls d)]
 have hz:Dz b l k=0:=Jh d;obtain⟨hlo,hri,j,m⟩:=Tw hz;have ok:=Tp hlo;have hnf:=ok.nf;have hnl:=ok.nl;obtain⟨hle,hlt,hlp⟩:=Zx hri;have G:=Val.cast hle rl;have C:=Jh d;refine Al (kk q ?_);refine qA fun P z=>Arw (Ax Gt rfl h) fun H D=>Av vl (Av (iV k) (Arv (Cm (vs:=[H,vl,iV k]) (Bkk (xs:=Ga l) D G ok j m) Cet rfl rfl ⟨rfl,rfl,rfl,trivial⟩ fun V W ZQ i=>?_)));obtain⟨B,f,c,I,E⟩:=i;replace f:=f.symm;subst f I;refine Av (.tuple #[iV (Cw b (Bf (Ga l)) k.toNat),c]) (l_v (Cr (iV (Cw b (Bf (Ga l)) k.toNat))) (l_v (Cr c) (Au (iV (Cw b (Bf (Ga l)) k.toNat)) (Au c (qC z fun K p=>Av (iV (Cw b (Bf (Ga l)) k.toNat)) (Av c (Au (iV (Cw b (Bf (Ga l)) k.toNat)) (Au c (Au (iV 0) (l_k p (Aq (g ⟨Cfc e B,rfl,c,Eq.trans (b:=.tuple #[iV (Cw b (Bf (Ga l)) k.toNat),c,iV 0]) (Mp (r:=6) (r':=7) (rs:=[8]) (v:=iV (Cw b (Bf (Ga l)) k.toNat)) (v':=c) (vs:=[iV 0]) ⟨rfl,rfl,rfl,trivial⟩) ?_,Val.cast ?_ E⟩))))))))))))
 ·unfold Tk;rw[if_pos hz,hz]
 ·unfold Aax;rw[if_pos hz]
theorem Bgm{b:LBook}{l c:List Int}{k:Int}{vb vl vc:Value}(rv:Val Y vb b)(rl:Val Y vl l)(rc:Val Y vc c):CallsH (CX mn X) 21 #[vb,vl,iV k,vc] Y Z (rP Y Z (.tuple #[iV (Ot b l k c),iV (Tq b l k c)])):=by
 refine Bq 57 [8,9] Tryz.func21 rfl fun Q x b9=>qA fun K1 YQ=>Arv (Jl (v:=vb) rfl fun k2=>?_);refine Bb (a:=b) rv fun ah g K=>?_;replace rl:=Val.mono g rl;replace rc:=Val.mono g rc;refine Au (iV 0) (Au (iV 0) (Ary rfl rfl YQ fun K3 K4 k3 k4=>Arw (Ax Gt rfl K) fun v5 r5=>Av vl (Av (iV k) (Arv (Cj (Akf (k:=k) r5 rl) Cep ?_)))));refine Au (iV (Dz b l k)) (qC k4 fun K6 k6=>Av (iV (Dz b l k)) (l_v (Dg rfl rfl) (l_k k6 (Bp (t:=(Dz b l k) != 0) rfl (fun u=>?_) (fun u=>?_)))))
 ·have q7:=Ls u;refine qA fun K8 k8=>Av (iV (Dz b l k)) (Au (iV 0) (Au (iV (Dz b l k)) (l_k k8 (Aj (Cez g) (Aq (x ⟨rfl,rfl,Eq.trans (b:=.tuple #[iV 0,iV (Dz b l k)]) (Mp (r:=8) (r':=9) (rs:=[]) (v:=iV 0) (v':=iV (Dz b l k)) (vs:=[]) ⟨rfl,rfl,trivial⟩) ?_⟩))))));have hq:=Bou (c:=c) (Ls u);unfold Ot;rw[if_neg (by rw[hq];exact Ls u),hq]
 have hz:Dz b l k=0:=Jh u;obtain⟨hlo,hri,b6,b8⟩:=Tw hz;have ok:=Tp hlo;have hnf:=ok.nf;have hnl:=ok.nl;obtain⟨hle,hlt,hlp⟩:=Zx hri;have ag:=Val.cast hle rl;have q7:=Jh u;refine Al (kk k3 ?_);refine qD fun K9 ai k9 ZQ=>Au (iV 0) (l_k ZQ (Ao (Cc (fun mm ee dd Y' Z'=>∃(i:Nat),(c.length-i)=mm/\[]=dd/\ah=Y'/\Z=Z'/\ee 1=vl/\ee 2=iV k/\ee 3=vc/\ee 4=pV k2/\ee 11=iV i/\(i<=c.length)/\(∀j,j<i->Tf c (b.lots.length:Int) j=0)/\True) (m:=_) ⟨0,rfl,rfl,rfl,rfl,rfl,rfl,rfl,rfl,rfl,Hr _,fun j h=>absurd h (Td _),trivial⟩ ?_)));rintro ba ax _ _ _ ⟨i,rfl,rfl,rfl,rfl,H,I,e,B,f,bb,p,_⟩;refine qD fun aj ak a0 a1=>l_v (Ah (v:=iV i) f) (l_v (Ah (v:=vc) e) ?_);have ay:=Val.len rc;refine l_v (Ci (el:=3) Ccu rfl rc) (l_v (Da rfl rfl) (l_k a1 (Bp (t:=decide ((i:Int)<(c.length:Int))) rfl (fun D=>?_) (fun D=>?_))))
 ·have aa:=lZ1 D;refine Al (kk a0 ?_);refine Ai fun al N=>Ao (Ai fun am a2=>Ai fun an a3=>Rw (Ef 0 (zT 1 9) rfl (Ah (v:=vc) e) (Ef 1 (zT 2 8) rfl (Ah (v:=iV i) f) ?_)));obtain⟨C,w⟩:=Ed (xs:=c) (i:=i) (by omega);refine Fd 2 (zT 3 7) rfl (Ch i Ccu ty3 rfl rc (q:=(i:Int)) rfl rfl w) fun be P=>?_;have⟨az,b0⟩:=At.rng P;refine Ef 3 (zT 4 6) rfl (Bc ty3 rfl P) (Fm 4 (zT 5 5) rfl (Ba LBook.f_lots Cct rfl Dy K B) fun bf ad=>Fm 5 (zT 6 4) rfl (Ax Dy rfl ad) fun bg R=>?_);have b1:=Val.len R;refine Cf 6 (zT 7 3) rfl (Ci (el:=51) Ccw rfl R) (Cf 7 (zT 8 2) rfl (Ou rfl rfl (z:=(b.lots.length:Int)-1) wrE) (Ma 8 (zT 9 1) rfl (Bm Azv Cdv rfl rfl ⟨rfl,rfl,rfl,trivial⟩ ⟨Cfb,?_⟩)));refine Cf 9 (zT 10 0) rfl (Iy rfl) (Ec rfl (kk a3 ?_));refine Bp (t:=!(inR C 0 ((b.lots.length:Int)-1))) rfl (fun E=>?_) (fun E=>?_)
  ·have M:=not_eq_t E;have bc:=Xo.1 M;refine qA fun ao a4=>Au (iV 0) (Au (iV 6) (l_k a4 (Aj (Cez g) (Aq (x ⟨rfl,rfl,Eq.trans (b:=.tuple #[iV 0,iV 6]) (Mp (r:=8) (r':=9) (rs:=[]) (v:=iV 0) (v':=iV 6) (vs:=[]) ⟨rfl,rfl,trivial⟩) ?_⟩)))));have hr:Er c (b.lots.length:Int)=6:=by rw[Er,Db p (by omega) (Bca w M) (by decide)]
   have hq:Tq b l k c=6:=(Bbv hz (by rw[hr];decide)).trans hr;unfold Ot;rw[if_neg (by rw[hq];decide),hq]
  have y:=Fp E;have bd:=Fz.1 y;refine Al (kk a2 ?_);refine Ai fun ap O=>Rw (Cf 0 (zT 1 13) rfl (Ah (v:=iV i) f) (Cf 1 (zT 2 12) rfl (Gl rfl rfl) (Cf 2 (zT 3 11) rfl (Ah (v:=.bool (decide ((i:Int)>0))) rfl) (Akk (decide ((i:Int)>0)) (fun d=>?_) (fun d=>?_)))))
  ·have ab:=lZ1 d;refine Jd 3 (zT 4 10) rfl Cfb (qF d) (Ah (v:=vc) e) (Jd 4 (zT 5 9) rfl Cfb (qF d) (Ah (v:=iV i) f) (Gp 5 (zT 6 8) rfl Cfb (qF d) (Ch i Ccu ty3 rfl rc (q:=(i:Int)) rfl rfl w) fun bh T=>?_));have⟨b2,b3⟩:=At.rng T;refine Jd 6 (zT 7 7) rfl Cfb (qF d) (Bc ty3 rfl T) (Jd 7 (zT 8 6) rfl Cfb (qF d) (Ah (v:=vc) e) (Gh 8 (zT 9 5) rfl Cfb (qF d) (Ah (v:=iV i) f) (Gh 9 (zT 10 4) rfl Cfb (qF d) (Ou rfl rfl (z:=(i:Int)-1) wrE) ?_)));obtain⟨L,J⟩:=Ed (xs:=c) (i:=(((i:Int)-1)).toNat) (by omega);refine Xy 10 (zT 11 3) rfl Cfb (qF d) (Ch ((((i:Int)-1)).toNat) Ccu ty3 rfl rc (q:=(i:Int)-1) rfl (by omega) J) fun bi U=>?_;have⟨b4,b5⟩:=At.rng U;refine Gh 11 (zT 12 2) rfl Cfb (qF d) (Bc ty3 rfl U) (Gh 12 (zT 13 1) rfl Cfb (qF d) (Uz rfl rfl) (Cf 13 (zT 14 0) rfl (Bt rfl d (v:=.bool (decide (C<=L))) rfl) (Ec rfl (kk O ?_))));refine Bp (t:=decide (C<=L)) rfl (fun F=>?_) (fun F=>?_)
   ·have ac:=lZ1 F;refine qA fun aq a5=>Au (iV 0) (Au (iV 7) (l_k a5 (Aj (Cez g) (Aq (x ⟨rfl,rfl,Eq.trans (b:=.tuple #[iV 0,iV 7]) (Mp (r:=8) (r':=9) (rs:=[]) (v:=iV 0) (v':=iV 7) (vs:=[]) ⟨rfl,rfl,trivial⟩) ?_⟩)))));have hr:Er c (b.lots.length:Int)=7:=by rw[Er,Db p (by omega) (Bcb w y (by omega) J (by omega)) (by decide)]
    have hq:Tq b l k c=7:=(Bbv hz (by rw[hr];decide)).trans hr;unfold Ot;rw[if_neg (by rw[hq];decide),hq]
   have ac:=lZ2 F;refine Al (kk N ?_);refine qB (l_v (Ah (v:=iV i) f) (l_v (Em (((i+1):Nat):Int)) (Au (iV ((i+1):Nat)) (Ac ?_))));refine⟨_,?_,(i+1),rfl,rfl,rfl,rfl,H,I,e,B,rfl,(by omega),(Eg p (Agw w y fun h=>⟨_,J,by omega⟩)),trivial⟩;omega
  have ab:=lZ2 d;refine Ds 3 (zT 4 10) rfl Cfb (gN rfl d) (Ds 4 (zT 5 9) rfl Cfb (gN rfl d) (Ds 5 (zT 6 8) rfl Cfb (gN rfl d) (Ds 6 (zT 7 7) rfl Cfb (gN rfl d) (Ds 7 (zT 8 6) rfl Cfb (gN rfl d) (En 8 (zT 9 5) rfl Cfb (gN rfl d) (En 9 (zT 10 4) rfl Cfb (gN rfl d) (En 10 (zT 11 3) rfl Cfb (gN rfl d) (En 11 (zT 12 2) rfl Cfb (gN rfl d) (En 12 (zT 13 1) rfl Cfb (gN rfl d) (Cf 13 (zT 14 0) rfl (Bn rfl d (v:=bF) rfl) (Ec rfl (kk O ?_))))))))))));refine Cg rfl rfl (Al (kk N ?_));refine qB (l_v (Ah (v:=iV i) f) (l_v (Em (((i+1):Nat):Int)) (Au (iV ((i+1):Nat)) (Ac ?_))));refine⟨_,?_,(i+1),rfl,rfl,rfl,rfl,H,I,e,B,rfl,(by omega),(Eg p (Agw w y fun h=>by omega)),trivial⟩;omega
 have aa:=lZ2 D;refine Bx (kk k9 ?_);refine qD fun ar au a6 a7=>l_v (Ah (v:=vc) e) (l_v (Ah (v:=iV k) I) (Arv (Cj (Ako (n:=k) rc) Cec ?_)));refine l_v (Iy rfl) (l_k a7 (Bp (t:=!(decide (k∈c))) rfl (fun G=>?_) (fun G=>?_)))
 ·have V:=not_eq_t G;refine qA fun av a8=>Au (iV 0) (Au (iV 6) (l_k a8 (Aj (Cez g) (Aq (x ⟨rfl,rfl,Eq.trans (b:=.tuple #[iV 0,iV 6]) (Mp (r:=8) (r':=9) (rs:=[]) (v:=iV 0) (v':=iV 6) (vs:=[]) ⟨rfl,rfl,trivial⟩) ?_⟩)))));have hr:Er c (b.lots.length:Int)=0:=by rw[Er,Fb fun j hj=>p j (by omega)]
  have hq:=Bot hz hr V;unfold Ot;rw[if_neg (by rw[hq];decide),hq]
 have W:=Fp G;refine Al (kk a6 ?_);refine Ai fun aw a9=>?_;obtain⟨hce,hct,hcp⟩:=Zx (show Er c (b.lots.length:Int)=0 from by rw[Er,Fb fun j hj=>p j (by omega)]);have af:=Val.cast hce rc;refine qB (Arw (Ax Gt B K) fun bj ae=>l_v (Ah (v:=vl) H) (l_v (Ah (v:=vc) e) (Arv (Cj (Avh ae ag af ok hcp hct) Tryz.func58 ?_))));refine Au (iV (gB b (Ga l) (Ga c))) (Au (iV 0) (l_k a9 (Aj (Cez g) (Aq (x ⟨rfl,rfl,Eq.trans (b:=.tuple #[iV (gB b (Ga l) (Ga c)),iV 0]) (Mp (r:=8) (r':=9) (rs:=[]) (v:=iV (gB b (Ga l) (Ga c))) (v':=iV 0) (vs:=[]) ⟨rfl,rfl,trivial⟩) ?_⟩)))));have hr:Er c (b.lots.length:Int)=0:=by rw[Er,Fb fun j hj=>p j (by omega)]
 have hq:=Bos hz hr (lZ1 W);unfold Ot;rw[if_pos hq,hq];rfl
end
section
inductive Tr(α:Type) where
 | leaf
 | node (v:Option α) (l r:Tr α)
def Tr.get{α:Type}(t:Tr α):Nat->Option α:=Tr.rec (motive:=fun _=>Nat->Option α) (fun _=>none)
 (fun v _ _ gl gr k=>Bool.rec (Bool.rec (gl (Nat.div k 2)) (gr (Nat.sub (Nat.div k 2) 1)) (Nat.beq (Nat.mod k 2) 0)) v (Nat.beq k 0)) t
def Tr.put{α:Type}(n:Nat):Tr α->Nat->α->Tr α:=Nat.rec (motive:=fun _=>Tr α->Nat->α->Tr α) (fun t _ _=>t)
 (fun _ ih t k a=>Tr.rec (motive:=fun _=>Tr α)
  (Bool.rec (Bool.rec (.node none (ih .leaf (Nat.div k 2) a) .leaf) (.node none .leaf (ih .leaf (Nat.sub (Nat.div k 2) 1) a)) (Nat.beq (Nat.mod k 2) 0)) (.node (some a) .leaf .leaf) (Nat.beq k 0))
  (fun v l r _ _=>Bool.rec (Bool.rec (.node v (ih l (Nat.div k 2) a) r) (.node v l (ih r (Nat.sub (Nat.div k 2) 1) a)) (Nat.beq (Nat.mod k 2) 0)) (.node (some a) l r) (Nat.beq k 0)) t) n
def Tr.set{α:Type}(t:Tr α)(k:Nat)(a:α):Tr α:=Tr.put (Nat.succ k) t k a
inductive CV where
 | bad
 | b (x:Bool)
 | i (k:IntKind) (n:Int)
 | s (x:List UInt8)
 | pn
 | p (k off:Nat)
 | sn
 | sl (k off ln:Nat) (kn:Bool) (c:Nat)
 | mn
 | m (k:Nat)
 | cn
 | c (k:Nat)
 | fn
 | f (g:Nat) (xs ys:List CV)
 | y (k:Nat)
 | n
 | a (t:Nat) (v:CV)
 | g (l:List CV)
 | t (l:List CV)
deriving Inhabited
def CV.undef:CV:=.t []
def CV.cells:CV->Option (List CV)
 | .g l=>some l
 | .bad=>none
 | v=>some [v]
def CV.isCell:CV->Bool
 | .g _=>false
 | .t _=>false
 | .bad=>false
 | _=>true
def xAllC(l:List CV):Bool:=List.rec (motive:=fun _=>Bool) true (fun a _ ih=>match a.isCell with|true=>ih|false=>false) l
def xOf0:Value->CV
 | .bool x=>.b x
 | .int k n=>.i k n
 | .string x=>.s x.data.toList
 | .pointer none=>.pn
 | .slice none 0 0=>.sn
 | .map none=>.mn
 | .chan none=>.cn
 | .nilFunc=>.fn
 | .nilIface=>.n
 | .func (.func g) xs ys=>match xs.toList,ys.toList with
  | [],[]=>.f g [] []
  | _,_=>.bad
 | _=>.bad
def xOf1:Value->CV
 | .iface t v=>.a t (xOf0 v)
 | v=>xOf0 v
def xOfV:Value->CV
 | .agg l=>.g (l.toList.map xOf1)
 | .tuple l=>.t (l.toList.map xOf1)
 | v=>xOf1 v
def xDrp{α:Type}(n:Nat):List α->List α:=Nat.rec (motive:=fun _=>List α->List α) (fun l=>l) (fun _ ih l=>List.rec (motive:=fun _=>List α) [] (fun _ l _=>ih l) l) n
def xTkn{α:Type}(n:Nat):List α->Option (List α):=Nat.rec (motive:=fun _=>List α->Option (List α)) (fun _=>some [])
 (fun _ ih l=>List.rec (motive:=fun _=>Option (List α)) none (fun a l _=>match ih l with|some r=>some (a::r)|none=>none) l) n
def xNth{α:Type}(n:Nat):List α->Option α:=Nat.rec (motive:=fun _=>List α->Option α) (fun l=>List.rec (motive:=fun _=>Option α) none (fun a _ _=>some a) l)
 (fun _ ih l=>List.rec (motive:=fun _=>Option α) none (fun _ l _=>ih l) l) n
def xApp{α:Type}(x y:List α):List α:=List.rec (motive:=fun _=>List α) y (fun a _ ih=>a::ih) x
def xLen{α:Type}(x:List α):Nat:=List.rec (motive:=fun _=>Nat) 0 (fun _ _ ih=>Nat.succ ih) x
def xOver(vs:List CV):List CV->Option (List CV):=List.rec (motive:=fun _=>List CV->Option (List CV)) (fun l=>some l)
 (fun v _ ih l=>List.rec (motive:=fun _=>Option (List CV)) none (fun _ l _=>match ih l with|some r=>some (v::r)|none=>none) l) vs
def xSetL(n:Nat)(vs:List CV):List CV->Option (List CV):=Nat.rec (motive:=fun _=>List CV->Option (List CV)) (fun l=>xOver vs l)
 (fun _ ih l=>List.rec (motive:=fun _=>Option (List CV)) none (fun a l _=>match ih l with|some r=>some (a::r)|none=>none) l) n
inductive CO where
 | cells (l:List CV)
 | grow (n:Nat) (l:List CV)
 | map (es:List (CV×CV))
 | loop (busy:Nat) (pend:Option Code) (n:Nat) (env:Tr CV) (ps:List Tmp) (as_ body:Code) (dk:Nat)
 | defd
 | chan
 | dead
 | rcv (vs:List CV)
 | crowd (k:Nat) (ms:List (CV×List (Nat×Option Nat×List CV)×Nat×Nat))
 | iter (k n:Nat) (seen:List Nat)
inductive Cell where
 | own (o:CO)
 | ro (o:CO)
structure Mem where
 M:Tr Cell
 nx:Nat
 log:List Nat
 ln:Nat
 outs:List CV
inductive CD where
 | mark (k:Nat)
 | close (k:Nat)
structure St where
 e:Tr CV
 m:Mem
 ds:List CD
def Mem.obj(m:Mem)(k:Nat):Option CO:=match m.M.get k with|some (.own o)=>some o|some (.ro o)=>some o|none=>none
def xRowO:CO->Option (List CV)
 | .cells l=>some l
 | .grow _ l=>some l
 | _=>none
def Mem.row(m:Mem)(k:Nat):Option (List CV):=match m.M.get k with
 | some (.own o)=>xRowO o
 | some (.ro o)=>xRowO o
 | none=>none
def Mem.add(m:Mem)(o:CO):Mem:=⟨m.M.set m.nx (.own o),Nat.succ m.nx,m.log,m.ln,m.outs⟩
def Mem.put(m:Mem)(k:Nat)(o:CO):Mem:=⟨m.M.set k (.own o),m.nx,k::m.log,Nat.succ m.ln,m.outs⟩
def Mem.store(m:Mem)(k off:Nat)(vs:List CV):Option Mem:=match xAllC vs with
 | false=>none
 | true=>match m.M.get k with
  | some (.own (.cells l))=>match xSetL off vs l with|some r=>some (m.put k (.cells r))|none=>none
  | some (.own (.grow n l))=>match xSetL off vs l with|some r=>some (m.put k (.grow n r))|none=>none
  | _=>none
def Mem.read(m:Mem)(k off n:Nat):Option (List CV):=match m.row k with
 | some l=>xTkn n (xDrp off l)
 | none=>none
inductive OR where
 | v (x:CV) (m:Mem)
 | rd (x:CV) (k:Nat)
 | enter (f:FuncId) (args:List CV)
 | round (k:Nat) (args:List CV)
 | go (f:CV) (args:List CV)
 | recv (k:Nat) (ok:Bool)
 | send (k:Nat) (x:CV)
 | dclose (x:CV)
 | bad
structure K1 where
 run:Tr CV->CV
structure KL where
 run:Tr CV->List CV
structure KO where
 run:Tr CV->Mem->OR
def rdK:Operand->K1
 | .tmp t=>⟨fun e=>match e.get t with|some v=>v|none=>.bad⟩
 | .const v=>⟨fun _=>xOfV v⟩
 | .global g=>match Nat.ble (Nat.succ g) 16 with|true=>⟨fun _=>.p g 0⟩|false=>⟨fun _=>.bad⟩
 | .func f=>⟨fun _=>.f f [] []⟩
def rdsK:List Operand->KL
 | []=>⟨fun _=>[]⟩
 | x::l=>match rdK x,rdsK l with|⟨f⟩,⟨g⟩=>⟨fun e=>f e::g e⟩
def xEqS(x:List UInt8):List UInt8->Bool:=List.rec (motive:=fun _=>List UInt8->Bool) (fun y=>List.rec (motive:=fun _=>Bool) true (fun _ _ _=>false) y)
 (fun a _ ih y=>List.rec (motive:=fun _=>Bool) false (fun b y _=>Bool.rec false (ih y) (Nat.beq a.toNat b.toNat)) y) x
def xEqI:Int->Int->Bool
 | .ofNat x,.ofNat y=>Nat.beq x y
 | .negSucc x,.negSucc y=>Nat.beq x y
 | _,_=>false
def xLtI:Int->Int->Bool
 | .ofNat x,.ofNat y=>Nat.ble (Nat.succ x) y
 | .negSucc x,.negSucc y=>Nat.ble (Nat.succ y) x
 | .negSucc _,.ofNat _=>true
 | .ofNat _,.negSucc _=>false
def xRepL(z:List CV)(n:Nat):List CV:=Nat.rec (motive:=fun _=>List CV) [] (fun _ ih=>xApp z ih) n
def xBytesC(l:List UInt8):List CV:=List.rec (motive:=fun _=>List CV) [] (fun b _ ih=>.i .u8 (.ofNat b.toNat)::ih) l
def xVOf(m:Mem):Option CV->OR
 | some x=>.v x m
 | none=>.bad
def xAggT(P:Program)(t:TypeId):Option Bool:=match P.underlying t with
 | some d=>some (Qv d)
 | none=>none
def xSzT(P:Program)(t:TypeId):Option Nat:=match P.info? t with|some i=>some i.size|none=>none
def xZeroT(P:Program)(t:TypeId):Option CV:=match P.info? t with
 | some i=>match i.zero with|some v=>some (xOfV v)|none=>none
 | none=>none
def xZeroC(P:Program)(t:TypeId):Option Nat:=match P.info? t with
 | some i=>match i.zero with|some v=>some v.cells.size|none=>none
 | none=>none
structure LK where
 run:List CV->Option CV
def partK(P:Program)(t:TypeId):LK:=match xAggT P t with
 | some true=>match xSzT P t with
  | some n=>⟨fun l=>match xTkn n l with|some r=>some (.g r)|none=>none⟩
  | none=>⟨fun _=>none⟩
 | some false=>⟨fun l=>match l with|v::_=>some v|[]=>none⟩
 | none=>⟨fun _=>none⟩
structure FK where
 run:List CV->Tr CV->Option (List CV)
def fillK(off:Nat->Option (Nat×Nat)):List (Nat×Operand)->FK
 | []=>⟨fun l _=>some l⟩
 | (i,x)::r=>match off i with
  | none=>⟨fun _ _=>none⟩
  | some (o,z)=>⟨fun l e=>match ((rdK x).run e).cells with
   | none=>none
   | some c=>match Nat.beq (xLen c) z with
    | false=>none
    | true=>match xSetL o c l with
     | some l=>(fillK off r).run l e
     | none=>none⟩
def fldAt(P:Program)(fs:List Field)(i:Nat):Option (Nat×Nat):=match fs[i]? with
 | some f=>match xSzT P f.type with|some n=>some (f.offset,n)|none=>none
 | none=>none
def allSz(P:Program):List Field->Bool
 | []=>true
 | f::fs=>match xSzT P f.type with|some _=>allSz P fs|none=>false
def flatK(P:Program):Nat->List Field->Option (List IntKind)
 | _,[]=>some []
 | n,f::fs=>match f.name == "_",Nat.beq f.offset n,P.underlying f.type,flatK P (Nat.succ n) fs with
  | false,true,some (.int k),some l=>some (k::l)
  | _,_,_,_=>none
def flatT(P:Program)(t:TypeId):Option (List IntKind):=match P.stoodInHeld t,P.eqGuardType P.depth t,P.underlying t with
 | false,false,some (.struct fs)=>flatK P 0 fs.toList
 | _,_,_=>none
def xKind:IntKind->IntKind->Bool
 | .i8,.i8 | .i16,.i16 | .i32,.i32 | .i64,.i64 | .u8,.u8 | .u16,.u16 | .u32,.u32 | .u64,.u64=>true
 | _,_=>false
def eqF0:List CV->List CV->Option Bool
 | [],[]=>some true
 | _,_=>none
def eqF1(k:IntKind)(ih:List CV->List CV->Option Bool):List CV->List CV->Option Bool
 | .i k1 a::x,.i k2 b::y=>match xKind k k1,xKind k k2 with
  | true,true=>match ih x y with|some r=>some (match xEqI a b with|true=>r|false=>false)|none=>none
  | _,_=>none
 | _,_=>none
def eqF(ks:List IntKind):List CV->List CV->Option Bool:=List.rec (motive:=fun _=>List CV->List CV->Option Bool) eqF0 (fun k _ ih=>eqF1 k ih) ks
inductive CK where
 | i (k:IntKind)
 | s
 | b
def xCatO:Option (List CK)->Option (List CK)->Option (List CK)
 | some a,some b=>some (a++b)
 | _,_=>none
def deepF(P:Program)(g:TypeId->Option (List CK)):Nat->List Field->Option (List CK)
 | _,[]=>some []
 | n,f::fs=>match f.name == "_",Nat.beq f.offset n,g f.type,xSzT P f.type with
  | false,true,some a,some z=>match Nat.beq a.length z with|true=>xCatO (some a) (deepF P g (Nat.add n z) fs)|false=>none
  | _,_,_,_=>none
def deepT(P:Program):Nat->TypeId->Option (List CK)
 | 0,_=>none
 | d+1,t=>match P.underlying t with
  | some (.int k)=>some [.i k]
  | some .string=>some [.s]
  | some .bool=>some [.b]
  | some (.struct fs)=>match P.stoodInHeld t with|false=>deepF P (deepT P d) 0 fs.toList|true=>none
  | _=>none
def eqC:CK->CV->CV->Option Bool
 | .i k,.i k1 a,.i k2 b=>match xKind k k1,xKind k k2 with|true,true=>some (xEqI a b)|_,_=>none
 | .s,.s a,.s b=>some (xEqS a b)
 | .b,.b a,.b b=>some (a==b)
 | _,_,_=>none
def eqD0:List CV->List CV->Option Bool
 | [],[]=>some true
 | _,_=>none
def eqD1(k:CK)(ih:List CV->List CV->Option Bool):List CV->List CV->Option Bool
 | a::x,b::y=>match eqC k a b,ih x y with|some r,some q=>some (match r with|true=>q|false=>false)|_,_=>none
 | _,_=>none
def eqD(ks:List CK):List CV->List CV->Option Bool:=List.rec (motive:=fun _=>List CV->List CV->Option Bool) eqD0 (fun k _ ih=>eqD1 k ih) ks
def deepG(P:Program)(t:TypeId):Option (List CK):=match P.eqGuardType P.depth t,P.underlying t with
 | false,some (.struct _)=>deepT P 100 t
 | _,_=>none
structure BK where
 run:List CV->Mem->OR
def appendK(n:Nat):BK:=⟨fun args m=>match args with
 | [s,.sl k2 off2 lx _ _]=>match m.read k2 off2 (Nat.mul lx n) with
  | none=>.bad
  | some cx=>match Nat.beq lx 0,xAllC cx with
   | false,true=>match s with
    | .sn=>match Nat.ble lx 1000000 with|true=>.v (.sl m.nx 0 lx false 0) (m.add (.grow n cx))|false=>.bad
    | .sl k off ls false c=>match m.M.get k with
      | some (.own (.grow n' l))=>match Nat.beq n n',Nat.beq off 0,Nat.beq c 0,Nat.beq (xLen l) (Nat.mul ls n),Nat.ble (Nat.add ls lx) 1000000 with
       | true,true,true,true,true=>.v (.sl m.nx 0 (Nat.add ls lx) false 0) ((m.put k .dead).add (.grow n (xApp l cx)))
       | true,true,true,false,true=>match xSetL (Nat.mul ls n) cx l with
        | some r=>.v (.sl k 0 (Nat.add ls lx) false 0) (m.put k (.grow n r))
        | none=>.bad
       | _,_,_,_,_=>.bad
      | _=>.bad
    | .sl k off ls true c=>match m.read k off (Nat.mul ls n) with
     | some co=>match Nat.ble (Nat.succ c) (Nat.add ls lx),Nat.ble (Nat.add ls lx) 1000000,xAllC co with
      | true,true,true=>.v (.sl m.nx 0 (Nat.add ls lx) false 0) (m.add (.grow n (xApp co cx)))
      | _,_,_=>.bad
     | none=>.bad
    | _=>.bad
   | _,_=>.bad
 | _=>.bad⟩
def appendZ(n:Nat)(z:List CV):BK:=⟨fun args m=>match args with
 | [.sn,.i _ (.ofNat lx)]=>match Nat.ble 1 lx,Nat.ble lx 1000000 with
  | true,true=>.v (.sl m.nx 0 lx false 0) (m.add (.grow n (xRepL z lx)))
  | _,_=>.bad
 | _=>.bad⟩
def builtinK(P:Program)(b:Builtin)(ts:List TypeId):BK :=
 match b with
 | .len=>match ts with
  | [t]=>match P.underlying t with
   | some (.slice _)=>⟨fun args m=>match args with
    | [.sn]=>.v (.i .i64 0) m
    | [.sl _ _ n _ _]=>.v (.i .i64 (.ofNat n)) m
    | _=>.bad⟩
   | some .string=>⟨fun args m=>match args with|[.s x]=>.v (.i .i64 (.ofNat (xLen x))) m|_=>.bad⟩
   | _=>⟨fun _ _=>.bad⟩
  | _=>⟨fun _ _=>.bad⟩
 | .min=>⟨fun args m=>match args with
  | [.i k x,.i k' y]=>match xKind k k' with|true=>.v (.i k (match xLtI y x with|true=>y|false=>x)) m|false=>.bad
  | _=>.bad⟩
 | .max=>⟨fun args m=>match args with
  | [.i k x,.i k' y]=>match xKind k k' with|true=>.v (.i k (match xLtI x y with|true=>y|false=>x)) m|false=>.bad
  | _=>.bad⟩
 | .append=>match ts with
  | [t,u]=>match P.underlying t,P.underlying u with
   | some (.slice el),some (.slice _)=>match P.info? el,xZeroC P el with
    | some i,some z=>match Nat.ble 1 i.size,Nat.ble i.bytes 4096,Nat.beq z i.size with|true,true,true=>appendK i.size|_,_,_=>⟨fun _ _=>.bad⟩
    | _,_=>⟨fun _ _=>.bad⟩
   | some (.slice el),some (.int _)=>match P.info? el,xZeroC P el,xZeroT P el with
    | some i,some z,some v=>match Nat.ble 1 i.size,Nat.ble i.bytes 4096,Nat.beq z i.size,v.cells with|true,true,true,some c=>appendZ i.size c|_,_,_,_=>⟨fun _ _=>.bad⟩
    | _,_,_=>⟨fun _ _=>.bad⟩
   | _,_=>⟨fun _ _=>.bad⟩
  | _=>⟨fun _ _=>.bad⟩
 | .cap=>match ts with
  | [t]=>match P.underlying t with
   | some (.slice _)=>⟨fun args m=>match args with
    | [.sn]=>.v (.i .i64 0) m
    | [.sl _ _ _ true c]=>.v (.i .i64 (.ofNat c)) m
    | _=>.bad⟩
   | _=>⟨fun _ _=>.bad⟩
  | _=>⟨fun _ _=>.bad⟩
 | _=>⟨fun _ _=>.bad⟩
def xHasBody(P:Program)(g:Nat):Bool:=match P.funcs[g]? with
 | some fn=>match fn.name == "runtime.NumGoroutine" with|true=>false|false=>fn.body.isSome
 | none=>false
inductive EX where
 | indexByte
 | count
def xExtN(n:String):Option EX:=match n == "internal/bytealg.IndexByteString" with
 | true=>some .indexByte
 | false=>match n == "internal/bytealg.CountString" with|true=>some .count|false=>none
def xExt(P:Program)(g:Nat):Option EX:=match P.funcs[g]? with
 | some fn=>match fn.body.isNone with
  | false=>none
  | true=>match fn.name == "runtime.NumGoroutine",(Extern.findNext fn).isNone with
   | false,true=>xExtN fn.name
   | _,_=>none
 | none=>none
def xIdxB(b:Nat)(l:List UInt8):Nat->Option Nat:=List.rec (motive:=fun _=>Nat->Option Nat) (fun _=>none) (fun a _ ih i=>match Nat.beq a.toNat b with|true=>some i|false=>ih (Nat.succ i)) l
def xCntB(b:Nat)(l:List UInt8):Nat:=List.rec (motive:=fun _=>Nat) 0 (fun a _ ih=>match Nat.beq a.toNat b with|true=>Nat.succ ih|false=>ih) l
def xExtV:EX->List CV->Option CV
 | .indexByte,[.s l,.i .u8 (.ofNat b)]=>match Nat.ble b 255 with
  | true=>match xIdxB b l 0 with|some i=>some (.i .i64 (.ofNat i))|none=>some (.i .i64 (-1))
  | false=>none
 | .count,[.s l,.i .u8 (.ofNat b)]=>match Nat.ble b 255 with|true=>some (.i .i64 (.ofNat (xCntB b l)))|false=>none
 | _,_=>none
def callK(P:Program):CV->List CV->OR
 | .f g xs ys,args=>match xHasBody P g with
  | true=>.enter g (xApp xs (xApp args ys))
  | false=>.bad
 | .y k,args=>.round k args
 | _,_=>.bad
def xBadK:KO:=⟨fun _ _=>.bad⟩
def binN(op:BinOp)(k:IntKind)(a b:Int):Option CV :=
 match op with
 | .add=>some (.i k (k.wrap (a+b)))
 | .sub=>some (.i k (k.wrap (a-b)))
 | .mul=>some (.i k (k.wrap (a*b)))
 | .and=>some (.i k (k.wrap (BitVec.ofInt k.bits a &&& BitVec.ofInt k.bits b).toNat))
 | .or=>some (.i k (k.wrap (BitVec.ofInt k.bits a ||| BitVec.ofInt k.bits b).toNat))
 | .andNot=>some (.i k (k.wrap (BitVec.ofInt k.bits a &&& ~~~(BitVec.ofInt k.bits b)).toNat))
 | .eql=>some (.b (xEqI a b))
 | .neq=>some (.b (!xEqI a b))
 | .lss=>some (.b (xLtI a b))
 | .leq=>some (.b (!xLtI b a))
 | .gtr=>some (.b (xLtI b a))
 | .geq=>some (.b (!xLtI a b))
 | .quo=>match xEqI b 0 with|true=>none|false=>some (.i k (k.wrap (a.tdiv b)))
 | .rem=>match xEqI b 0 with|true=>none|false=>some (.i k (a.tmod b))
 | _=>none
structure K3 where
 run:IntKind->Int->Int->Option CV
def binKN:BinOp->K3
 | .add=>⟨binN .add⟩
 | .sub=>⟨binN .sub⟩
 | .mul=>⟨binN .mul⟩
 | .and=>⟨binN .and⟩
 | .or=>⟨binN .or⟩
 | .andNot=>⟨binN .andNot⟩
 | .eql=>⟨binN .eql⟩
 | .neq=>⟨binN .neq⟩
 | .lss=>⟨binN .lss⟩
 | .leq=>⟨binN .leq⟩
 | .gtr=>⟨binN .gtr⟩
 | .geq=>⟨binN .geq⟩
 | .quo=>⟨binN .quo⟩
 | .rem=>⟨binN .rem⟩
 | _=>⟨fun _ _ _=>none⟩
def xIsSl:Option TypeDesc->Bool
 | some (.slice _)=>true
 | _=>false
def xIsFn:Option TypeDesc->Bool
 | some (.func ..)=>true
 | _=>false
def xIsNf:Option TypeDesc->Operand->Bool
 | some (.interface _),.const _=>true
 | _,_=>false
def xEqW(sl fn nf:Bool):CV->CV->Option Bool
 | .s a,.s b=>some (xEqS a b)
 | .sn,.sn=>match sl with|true=>some true|false=>none
 | .sl ..,.sn=>match sl with|true=>some false|false=>none
 | .sn,.sl ..=>match sl with|true=>some false|false=>none
 | .fn,.fn=>match fn with|true=>some true|false=>none
 | .f ..,.fn=>match fn with|true=>some false|false=>none
 | .fn,.f ..=>match fn with|true=>some false|false=>none
 | .n,.n=>match nf with|true=>some true|false=>none
 | _,_=>none
def catW:CV->CV->Option CV
 | .s a,.s b=>match Nat.ble (Nat.add (xLen a) (xLen b)) 1000000 with|true=>some (.s (xApp a b))|false=>none
 | _,_=>none
structure K4 where
 run:CV->CV->Option CV
def binKW(sl fn nf:Bool):BinOp->K4
 | .eql=>⟨fun u z=>match xEqW sl fn nf u z with|some r=>some (.b r)|none=>none⟩
 | .neq=>⟨fun u z=>match xEqW sl fn nf u z with|some r=>some (.b !r)|none=>none⟩
 | .add=>⟨catW⟩
 | _=>⟨fun _ _=>none⟩
structure K5 where
 run:List CK->List CV->List CV->Option CV
def binKG:BinOp->K5
 | .eql=>⟨fun ks a b=>match eqD ks a b with|some r=>some (.b r)|none=>none⟩
 | .neq=>⟨fun ks a b=>match eqD ks a b with|some r=>some (.b !r)|none=>none⟩
 | _=>⟨fun _ _ _=>none⟩
inductive MK where
 | str
 | flat (ks:List IntKind)
 | int (k:IntKind)
def mapKind(P:Program)(kt:TypeId):Option MK:=match P.underlying kt with
 | some .string=>some .str
 | some (.int k)=>some (.int k)
 | some (.struct _)=>match flatT P kt with|some ks=>some (.flat ks)|none=>none
 | _=>none
def eqM:MK->CV->CV->Option Bool
 | .str,.s a,.s b=>some (xEqS a b)
 | .flat ks,.g a,.g b=>eqF ks a b
 | .int k,.i k1 a,.i k2 b=>match xKind k k1,xKind k k2 with|true,true=>some (xEqI a b)|_,_=>none
 | _,_,_=>none
def keyOk:MK->CV->Bool
 | .str,.s _=>true
 | .int k,.i k1 _=>xKind k k1
 | .flat ks,.g a=>(eqF ks a a).isSome
 | _,_=>false
def findX(mk:MK)(k:CV)(l:List (CV×CV)):Option (Option CV):=List.rec (motive:=fun _=>Option (Option CV)) (some none)
 (fun e _ ih=>match e with|(a,v)=>match eqM mk k a with|some true=>some (some v)|some false=>ih|none=>none) l
def putX(mk:MK)(k v:CV)(l:List (CV×CV)):Option (List (CV×CV)):=List.rec (motive:=fun _=>Option (List (CV×CV))) (some [(k,v)])
 (fun e l ih=>match e with|(a,w)=>match eqM mk k a with
  | some true=>some ((k,v)::l)
  | some false=>match ih with|some r=>some ((a,w)::r)|none=>none
  | none=>none) l
structure KB where
 run:Tr CV->Option (Option Nat)
def xBnd:Option Operand->KB
 | none=>⟨fun _=>some none⟩
 | some x=>match rdK x with|⟨f⟩=>⟨fun e=>match f e with | .i _ (.ofNat n)=>some (some n)|_=>none⟩
def xOr(o:Option Nat)(d:Nat):Nat:=match o with|some n=>n|none=>d
def xMxOk(h q:Option Nat):Bool:=match q,h with
 | some _,none=>false
 | _,_=>true
def xRoomC(m:Mem)(n k:Nat)(kn:Bool)(c q:Nat):Bool:=match kn with
 | true=>Nat.ble q c
 | false=>match m.obj k with
  | some (.grow n' l)=>match Nat.beq n n' with|true=>Nat.ble (Nat.mul (Nat.add c q) n) (xLen l)|false=>false
  | _=>false
def xSliceM(n k off ln:Nat)(kn:Bool)(c:Nat)(l:Nat)(h:Option Nat)(q:Option Nat)(m:Mem):OR :=
 match q with
 | some q=>match h with
  | none=>.bad
  | some h=>match Nat.ble l h,Nat.ble h q,xRoomC m n k kn c q with
   | true,true,true=>match kn with
    | true=>.v (.sl k (match Nat.beq q l with|true=>off|false=>Nat.add off (Nat.mul l n)) (Nat.sub h l) true (Nat.sub q l)) m
    | false=>.rd (.sl k (match Nat.beq q l with|true=>off|false=>Nat.add off (Nat.mul l n)) (Nat.sub h l) true (Nat.sub q l)) k
   | _,_,_=>.bad
 | none=>match xOr h ln with
  | h=>match Nat.ble l h,kn with
   | false,_=>.bad
   | true,true=>match Nat.ble h c with
    | true=>.v (.sl k (match Nat.beq c l with|true=>off|false=>Nat.add off (Nat.mul l n)) (Nat.sub h l) true (Nat.sub c l)) m
    | false=>.bad
   | true,false=>match xRoomC m n k false c h,l with
    | true,0=>.rd (.sl k off h false c) k
    | true,l+1=>match xRoomC m n k false c (l+2) with
     | true=>.rd (.sl k (Nat.add off (Nat.mul (l+1) n)) (Nat.sub h (l+1)) false (Nat.add c (l+1))) k
     | false=>.bad
    | false,_=>.bad
def opK(P:Program):Op->KO
 | .move x=>⟨fun e m=>.v ((rdK x).run e) m⟩
 | .assign x=>⟨fun e m=>.v ((rdK x).run e) m⟩
 | .pick c a b=>⟨fun e m=>match (rdK c).run e with | .b true=>.v ((rdK a).run e) m | .b false=>.v ((rdK b).run e) m|_=>.bad⟩
 | .alloc t=>match xZeroT P t with
  | some z=>match z.cells with|some c=>⟨fun _ m=>.v (.p m.nx 0) (m.add (.cells c))⟩|none=>xBadK
  | none=>xBadK
 | .box _ x=>⟨fun e m=>match ((rdK x).run e).cells with|some c=>.v (.p m.nx 0) (m.add (.cells c))|none=>.bad⟩
 | .build t ps=>match xZeroT P t,P.underlying t with
  | some z,some (.struct fs)=>match allSz P fs.toList,z.cells with
   | true,some c=>⟨fun e m=>match (fillK (fldAt P fs.toList) ps.toList).run c e with|some l=>.v (.g l) m|none=>.bad⟩
   | _,_=>xBadK
  | some z,some (.array _ el)=>match xSzT P el,z.cells with
   | some n,some c=>⟨fun e m=>match (fillK (fun i=>some (Nat.mul i n,n)) ps.toList).run c e with|some l=>.v (.g l) m|none=>.bad⟩
   | _,_=>xBadK
  | _,_=>xBadK
 | .buildSlice t ln ps=>match P.underlying t with
  | some (.slice el)=>match xSzT P el,xZeroT P el,xZeroC P el with
   | some n,some z,some zc=>match z.cells,Nat.ble (Nat.mul ln n) 1000000,Nat.ble 1 (Nat.mul ln n),Nat.beq zc n with
    | some c,true,true,true=>⟨fun e m=>match (fillK (fun i=>some (Nat.mul i n,n)) ps.toList).run (xRepL c ln) e with
     | some l=>.v (.sl m.nx 0 ln true ln) (m.add (.cells l))
     | none=>.bad⟩
    | _,_,_,_=>match ln,ps.toList with
     | 0,[]=>⟨fun _ m=>.v (.sl m.nx 0 0 true 0) (m.add (.cells []))⟩
     | _,_=>xBadK
   | _,_,_=>xBadK
  | _=>xBadK
 | .load t a=>⟨fun e m=>match (rdK a).run e with
   | .p k off=>match m.row k with
    | some l=>match (partK P t).run (xDrp off l) with|some v=>.rd v k|none=>.bad
    | none=>.bad
   | _=>.bad⟩
 | .store t a v=>match xSzT P t with
  | some n=>⟨fun e m=>match (rdK a).run e with
   | .p k off=>match ((rdK v).run e).cells with
    | some c=>match Nat.beq (xLen c) n with
     | true=>match m.store k off c with|some m=>.v .undef m|none=>.bad
     | false=>.bad
    | none=>.bad
   | _=>.bad⟩
  | none=>xBadK
 | .nilCheck x=>⟨fun e m=>match (rdK x).run e with
   | .p k off=>.v (.p k off) m
   | _=>.bad⟩
 | .binOp op t x y _=>match flatT P t with
  | none=>match op with
   | .shl=>⟨fun e m=>match (rdK x).run e,(rdK y).run e with | .i k a,.i _ (.ofNat n)=>.v (.i k (k.wrap (a*2^(min n k.bits)))) m|_,_=>.bad⟩
   | .shr=>⟨fun e m=>match (rdK x).run e,(rdK y).run e with | .i k a,.i _ (.ofNat n)=>.v (.i k (a.fdiv (2^(min n k.bits)))) m|_,_=>.bad⟩
   | op=>⟨fun e m=>match (rdK x).run e,(rdK y).run e with
    | .i k a,.i k' b=>match xKind k k' with
     | true=>match (binKN op).run k a b with|some v=>.v v m|none=>.bad
     | false=>.bad
    | .g a,.g b=>match deepG P t with
     | some ks=>match (binKG op).run ks a b with|some v=>.v v m|none=>.bad
     | none=>.bad
    | u,z=>match (binKW (xIsSl (P.underlying t)) (xIsFn (P.underlying t)) (xIsNf (P.underlying t) y) op).run u z with|some v=>.v v m|none=>.bad⟩
  | some ks=>match op with
   | .eql=>⟨fun e m=>match (rdK x).run e,(rdK y).run e with | .g a,.g b=>(match eqF ks a b with|some r=>.v (.b r) m|none=>.bad)|_,_=>.bad⟩
   | .neq=>⟨fun e m=>match (rdK x).run e,(rdK y).run e with | .g a,.g b=>(match eqF ks a b with|some r=>.v (.b !r) m|none=>.bad)|_,_=>.bad⟩
   | _=>xBadK
 | .unOp .not _ x=>⟨fun e m=>match (rdK x).run e with | .b v=>.v (.b !v) m|_=>.bad⟩
 | .unOp .neg _ x=>⟨fun e m=>match (rdK x).run e with | .i k v=>.v (.i k (k.wrap (0-v))) m|_=>.bad⟩
 | .convert s d x=>match P.underlying s,P.underlying d with
  | some (.int _),some (.int k)=>⟨fun e m=>match (rdK x).run e with | .i _ v=>.v (.i k (k.wrap v)) m|_=>.bad⟩
  | some .string,some (.slice el)=>match P.underlying el with
   | some (.int .u8)=>⟨fun e m=>match (rdK x).run e with
    | .s v=>.v (.sl m.nx 0 (xLen v) false 0) (m.add (.grow 1 (xBytesC v)))
    | _=>.bad⟩
   | _=>xBadK
  | _,_=>xBadK
 | .makeFunc (.func g) xs ys=>⟨fun e m=>.v (.f g ((rdsK xs.toList).run e) ((rdsK ys.toList).run e)) m⟩
 | .makeMap _ none=>⟨fun _ m=>.v (.m m.nx) (m.add (.map []))⟩
 | .makeChan t s=>match P.underlying t with
  | some (.chan _ el)=>match P.info? el with
   | some i=>⟨fun e m=>match (rdK s).run e with
    | .i _ (.ofNat 0)=>.v (.c m.nx) (m.add .chan)
    | .i _ (.ofNat (n+1))=>match Nat.ble i.bytes 4096,Nat.ble (n+1) 1000 with|true,true=>.v (.c m.nx) (m.add (.crowd (n+1) []))|_,_=>.bad
    | _=>.bad⟩
   | none=>xBadK
  | _=>xBadK
 | .fieldAddr t x i=>match P.underlying t with
  | some (.struct fs)=>match fldAt P fs.toList i with
   | some (o,n)=>match Nat.ble 1 n with
    | true=>⟨fun e m=>match (rdK x).run e with | .p k off=>.v (.p k (Nat.add off o)) m|_=>.bad⟩
    | false=>xBadK
   | none=>xBadK
  | _=>xBadK
 | .indexAddr t x y=>match P.underlying t with
  | some (.slice el)=>match xSzT P el with
   | some n=>⟨fun e m=>match (rdK x).run e,(rdK y).run e with
    | .sl k off ln _ _,.i _ (.ofNat i)=>match Nat.ble (Nat.succ i) ln with|true=>.v (.p k (Nat.add off (Nat.mul i n))) m|false=>.bad
    | _,_=>.bad⟩
   | none=>xBadK
  | some (.array ln el)=>match xSzT P el with
   | some n=>⟨fun e m=>match (rdK x).run e,(rdK y).run e with
    | .p k off,.i _ (.ofNat i)=>match Nat.ble (Nat.succ i) ln with|true=>.v (.p k (Nat.add off (Nat.mul i n))) m|false=>.bad
    | _,_=>.bad⟩
   | none=>xBadK
  | _=>xBadK
 | .index t x y=>match P.underlying t with
  | some (.array ln el)=>match xSzT P el,xAggT P el with
   | some n,some false=>⟨fun e m=>match (rdK x).run e,(rdK y).run e with
    | .g l,.i _ (.ofNat i)=>match Nat.ble (Nat.succ i) ln,xNth (Nat.mul i n) l with|true,some v=>.v v m|_,_=>.bad
    | _,_=>.bad⟩
   | some n,some true=>⟨fun e m=>match (rdK x).run e,(rdK y).run e with
    | .g l,.i _ (.ofNat i)=>match Nat.ble (Nat.succ i) ln,xTkn n (xDrp (Nat.mul i n) l) with|true,some r=>.v (.g r) m|_,_=>.bad
    | _,_=>.bad⟩
   | _,_=>xBadK
  | some .string=>⟨fun e m=>match (rdK x).run e,(rdK y).run e with
    | .s l,.i _ (.ofNat i)=>match xNth i l with|some b=>.v (.i .u8 (.ofNat b.toNat)) m|none=>.bad
    | _,_=>.bad⟩
  | _=>xBadK
 | .lookup t x y ok=>match P.underlying t with
  | some (.map kt el)=>match mapKind P kt,xZeroT P el with
   | some mk,some z=>⟨fun e m=>match (rdK x).run e with
    | .m k=>match m.obj k,keyOk mk ((rdK y).run e) with
     | some (.map es),true=>match findX mk ((rdK y).run e) es with
      | some (some v)=>.rd (match ok with|true=>.t [v,.b true]|false=>v) k
      | some none=>.rd (match ok with|true=>.t [z,.b false]|false=>z) k
      | none=>.bad
     | _,_=>.bad
    | _=>.bad⟩
   | _,_=>xBadK
  | _=>xBadK
 | .mapUpdate t x y z=>match P.underlying t with
  | some (.map kt _)=>match mapKind P kt with
   | some mk=>⟨fun e m=>match (rdK x).run e with
    | .m k=>match m.M.get k,keyOk mk ((rdK y).run e) with
     | some (.own (.map es)),true=>match putX mk ((rdK y).run e) ((rdK z).run e) es with
      | some es=>.v .undef (m.put k (.map es))
      | none=>.bad
     | _,_=>.bad
    | _=>.bad⟩
   | none=>xBadK
  | _=>xBadK
 | .slice t x lo hi mx=>match P.underlying t with
  | some (.slice el)=>match xSzT P el,xBnd lo,xBnd hi,xBnd mx with
   | some n,⟨lo⟩,⟨hi⟩,⟨mx⟩=>⟨fun e m=>match (rdK x).run e with
    | .sl k off ln kn c=>match lo e,hi e,mx e with
     | some l,some h,some q=>xSliceM n k off ln kn c (xOr l 0) h q m
     | _,_,_=>.bad
    | .sn=>match lo e,hi e,mx e with
     | some l,some h,some q=>match Nat.beq (xOr l 0) 0,Nat.beq (xOr h 0) 0,Nat.beq (xOr q 0) 0,xMxOk h q with
      | true,true,true,true=>.v .sn m
      | _,_,_,_=>.bad
     | _,_,_=>.bad
    | _=>.bad⟩
   | _,_,_,_=>xBadK
  | some .string=>match xBnd lo,xBnd hi,mx with
   | ⟨lo⟩,⟨hi⟩,none=>⟨fun e m=>match (rdK x).run e,lo e,hi e with
    | .s b,some l,some h=>match xOr h (xLen b),xOr l 0 with
     | h,l=>match Nat.ble h (xLen b),Nat.ble l h with
      | true,true=>match xTkn (Nat.sub h l) (xDrp l b) with|some r=>.v (.s r) m|none=>.bad
      | _,_=>.bad
    | _,_,_=>.bad⟩
   | _,_,_=>xBadK
  | _=>xBadK
 | .field t x i=>match P.underlying t with
  | some (.struct fs)=>match fs.toList[i]? with
   | some f=>⟨fun e m=>match (rdK x).run e with
    | .g l=>match (partK P f.type).run (xDrp f.offset l) with|some v=>.v v m|none=>.bad
    | _=>.bad⟩
   | none=>xBadK
  | _=>xBadK
 | .makeSlice t a b=>match P.underlying t with
  | some (.slice el)=>match xSzT P el,xZeroT P el,xZeroC P el,P.info? el with
   | some n,some z,some zc,some i=>match z.cells,Nat.ble 1 n,Nat.beq zc n,Nat.ble i.bytes 4096 with
    | some c,true,true,true=>⟨fun e m=>match (rdK a).run e,(rdK b).run e with
     | .i _ (.ofNat ln),.i _ (.ofNat cp)=>match Nat.beq ln cp,Nat.ble 1 ln,Nat.ble (Nat.mul ln n) 1000000 with
      | true,true,true=>.v (.sl m.nx 0 ln true ln) (m.add (.cells (xRepL c ln)))
      | _,_,_=>.bad
     | _,_=>.bad⟩
    | _,_,_,_=>xBadK
   | _,_,_,_=>xBadK
  | _=>xBadK
 | .insert t x y z=>match P.underlying t with
  | some (.map kt _)=>match mapKind P kt with
   | some mk=>⟨fun e m=>match (rdK x).run e with
    | .m k=>match m.M.get k,keyOk mk ((rdK y).run e) with
     | some (.own (.map es)),true=>match putX mk ((rdK y).run e) ((rdK z).run e) es with
      | some es=>.v .undef (m.put k (.map es))
      | none=>.bad
     | _,_=>.bad
    | _=>.bad⟩
   | none=>xBadK
  | _=>xBadK
 | .range t x=>match P.underlying t with
  | some (.map _ _)=>⟨fun e m=>match (rdK x).run e with
   | .m k=>match m.obj k with|some (.map es)=>.v (.p m.nx 0) (m.add (.iter k (xLen es) []))|_=>.bad
   | _=>.bad⟩
  | _=>xBadK
 | .entry x=>⟨fun e m=>match (rdK x).run e with
   | .p k 0=>match m.M.get k with
    | some (.own (.iter mk n seen))=>match seen.getLast?,m.obj mk with
     | some j,some (.map es)=>match Nat.beq (xLen es) n,xNth j es with
      | true,some (a,v)=>.v (.t [a,v]) m
      | _,_=>.bad
     | _,_=>.bad
    | _=>.bad
   | _=>.bad⟩
 | .extract x i=>⟨fun e m=>match (rdK x).run e with | .t l=>xVOf m (xNth i l)|_=>.bad⟩
 | .call c=>match c.callee with
  | .builtin b=>⟨fun e m=>(builtinK P b c.argTypes.toList).run ((rdsK c.args.toList).run e) m⟩
  | .value (.func g)=>match xExt P g with
   | some ex=>⟨fun e m=>match xExtV ex ((rdsK c.args.toList).run e) with|some v=>.v v m|none=>.bad⟩
   | none=>⟨fun e _=>callK P (.f g [] []) ((rdsK c.args.toList).run e)⟩
  | .value x=>⟨fun e _=>callK P ((rdK x).run e) ((rdsK c.args.toList).run e)⟩
  | _=>xBadK
 | .go c=>match c.callee with
  | .value x=>⟨fun e _=>.go ((rdK x).run e) ((rdsK c.args.toList).run e)⟩
  | _=>xBadK
 | .defer c=>match c.callee,c.args.toList with
  | .builtin .close,[.tmp t]=>⟨fun e _=>match e.get t with|some x=>.dclose x|none=>.bad⟩
  | _,_=>xBadK
 | .send x y=>⟨fun e _=>match (rdK x).run e with | .c k=>.send k ((rdK y).run e)|_=>.bad⟩
 | .recv t x ok=>match P.underlying t with
  | some (.chan _ el)=>match xZeroT P el with
   | some _=>⟨fun e _=>match (rdK x).run e with | .c k=>.recv k ok|_=>.bad⟩
   | none=>xBadK
  | _=>xBadK
 | _=>xBadK
def xMild:Op->Bool
 | .move _ | .assign _ | .pick .. | .build .. | .load .. | .nilCheck _ | .binOp .. | .unOp .. | .makeFunc .. | .fieldAddr .. | .indexAddr .. | .index .. | .lookup .. | .extract .. | .field .. | .slice .. | .convert ..=>true
 | .call {callee:=.builtin .len,..} | .call {callee:=.builtin .min,..} | .call {callee:=.builtin .max,..}=>true
 | _=>false
def xDeps(l:List Oper)(o:Oper):List Bool:=(List.range l.length).map fun k=>o.after.toList.any fun e=>Region.binds .any e&&e.on==k
def xEarly(l:List Oper)(j:Nat):Bool:=match l[j]? with
 | some o=>(match o.op,o.dst,o.guard with | .alloc _,some _,none=>true | .buildSlice ..,some _,none=>true|_,_,_=>false)&&Ahv l (xDeps l o) j
 | none=>false
def xRest0(l:List Oper)(fl:Option Nat)(li:List Bool)(i:Nat):List Nat :=
 Dl l (match fl with|some f=>(match Nat.beq f i with|true=>li|false=>li.set f true)|none=>li)
def xOnly(l:List Oper)(fl:Option Nat)(li:List Bool)(i:Nat):Bool:=(xRest0 l fl li i).all (Nat.beq i)
def xTake(l:List Oper)(li:List Bool)(i:Nat):Bool:=(match l[i]? with|some o=>xMild o.op&&o.dst.isSome|none=>false)&&Ahv l li i
def xFp(l:List Oper)(fl:Option Nat)(li:List Bool)(i:Nat):Bool:=match fl with
 | some f=>(Dl l li).contains f && !(Nat.beq f i)
 | none=>false
def xPlan(l:List Oper)(fl:Option Nat):Nat->List Bool->List (Nat×Bool×Bool)
 | 0,_=>[]
 | n+1,li=>match (Dl l li).filter (fun i=>match fl with|some f=>!(Nat.beq f i)|none=>true) with
  | []=>match fl with
   | some f=>match li.getD f true with
    | true=>[]
    | false=>(f,false,false)::xPlan l fl n (li.set f true)
   | none=>[]
  | r::rs=>match xOnly l fl li r with
   | true=>(r,false,xFp l fl li r)::xPlan l fl n (li.set r true)
   | false=>match (r::rs).find? (xTake l li) with
    | some i=>(i,true,false)::xPlan l fl n (li.set i true)
    | none=>[]
def xGood(l:List Oper)(fl:Option Nat)(pz:List Nat):List (Nat×Bool×Bool)->List Bool->Bool
 | [],li=>match Dl l li with|[]=>true|_=>false
 | (i,tk,fp)::r,li=>(Dl l li).contains i&&(match tk with
   | true=>pz.contains i&&xTake l li i&&(match fl with|some f=>!(Nat.beq f i)|none=>true)
   | false=>xOnly l fl li i&&(match xFp l fl li i with|true=>fp|false=>true))&&xGood l fl pz r (li.set i true)
def xPz(p:List (Nat×Bool×Bool)):List Nat:=(p.filter (·.2.1)).map (·.1)
def xFine(l:List Oper)(fl:Option Nat):Bool:=match xPlan l fl l.length (List.replicate l.length false) with
 | p=>xGood l fl (xPz p) p (List.replicate l.length false)
def xCands(l:List Oper):List (Option Nat):=((List.range l.length).filter (xEarly l)).map some
def xFloat(l:List Oper):Option Nat:=match (xCands l).find? (xFine l) with
 | some f=>f
 | none=>none
inductive R where
 | n (s:St)
 | x (id:Nat) (s:St)
 | r (s:St)
 | bad
inductive RV where
 | v (x:CV) (m:Mem)
 | bad
structure Fns where
 mn:Bool
 ch:Nat
 code:Nat->Option Nat->Code->St->R
 call:FuncId->List CV->Mem->RV
 send:FuncId->List CV->Mem->Nat->Option (List CV)
 msg:FuncId->List CV->Mem->Option (Nat×CV×Mem)
inductive OV where
 | v (x:CV) (m:Mem) (ds:List CD)
 | bad
def xKeysV:CV->List Nat:=CV.rec (motive_1:=fun _=>List Nat) (motive_2:=fun _=>List Nat) [] (fun _=>[]) (fun _ _=>[]) (fun _=>[]) [] (fun k _=>[k]) [] (fun k _ _ _ _=>[k]) [] (fun k=>[k]) [] (fun _=>[]) [] (fun _ _ _ a b=>xApp a b) (fun _=>[]) [] (fun _ _ a=>a) (fun _ a=>a) (fun _ a=>a) [] (fun _ _ a b=>xApp a b)
def xKeysL(l:List CV):List Nat:=List.rec (motive:=fun _=>List Nat) [] (fun a _ ih=>xApp (xKeysV a) ih) l
def xKeysO:CO->List Nat
 | .cells l=>xKeysL l
 | .grow _ l=>xKeysL l
 | .map es=>xKeysL (es.map (·.1))++xKeysL (es.map (·.2))
 | _=>[]
def xShare(n:Nat):List Nat->Tr Cell->Tr Cell:=Nat.rec (motive:=fun _=>List Nat->Tr Cell->Tr Cell) (fun _ M=>M)
 (fun _ ih l M=>match l with
  | []=>M
  | k::l=>match M.get k with
   | some (.own (.cells c))=>ih (xApp (xKeysL c) l) (M.set k (.ro (.cells c)))
   | some (.own (.grow z c))=>ih (xApp (xKeysL c) l) (M.set k (.ro (.grow z c)))
   | some (.own (.map es))=>ih (xApp (xKeysO (.map es)) l) (M.set k (.ro (.map es)))
   | _=>ih l M) n
def xIsRcv:Option Cell->Bool
 | some (.own (.rcv _))=>true
 | some (.own (.crowd _ _))=>true
 | _=>false
def xNoRcv(t:Tr Cell):Bool:=Tr.rec (motive:=fun _=>Bool) true (fun v _ _ a b=>match xIsRcv v with|true=>false|false=>match a with|true=>b|false=>false) t
def xRoOf:Option Cell->Option Cell
 | some (.ro o)=>some (.ro o)
 | _=>none
def xOnlyRo(t:Tr Cell):Tr Cell:=Tr.rec (motive:=fun _=>Tr Cell) .leaf (fun v _ _ a b=>.node (xRoOf v) a b) t
def xHasK(k:Nat)(l:List (Nat×Option Nat×List CV)):Bool:=List.rec (motive:=fun _=>Bool) false (fun a _ ih=>match Nat.beq a.1 k with|true=>true|false=>ih) l
def xRows(lo:Nat)(M:Tr Cell)(n:Nat):List Nat->List (Nat×Option Nat×List CV)->List (Nat×Option Nat×List CV):=Nat.rec (motive:=fun _=>List Nat->List (Nat×Option Nat×List CV)->List (Nat×Option Nat×List CV)) (fun _ a=>a)
 (fun _ ih l a=>match l with
  | []=>a
  | k::l=>match Nat.ble lo k,xHasK k a with
   | true,false=>match M.get k with
    | some (.ro (.cells c))=>ih (xApp (xKeysL c) l) ((k,none,c)::a)
    | some (.ro (.grow z c))=>ih (xApp (xKeysL c) l) ((k,some z,c)::a)
    | _=>ih l a
   | _,_=>ih l a) n
def xMsgOf(lo:Nat)(x:CV)(m:Mem):CV×List (Nat×Option Nat×List CV)×Nat×Nat:=(x,xRows lo (xShare 100000 (xKeysV x) m.M) 1000 (xKeysV x) [],lo,m.nx)
def xAllGe(lo:Nat)(l:List Nat):Bool:=List.rec (motive:=fun _=>Bool) true (fun a _ ih=>match Nat.ble lo a with|true=>ih|false=>false) l
def xRowsGe(lo:Nat)(l:List (Nat×Option Nat×List CV)):Bool:=List.rec (motive:=fun _=>Bool) true (fun a _ ih=>match xAllGe lo (xKeysL a.2.2) with|true=>ih|false=>false) l
def xMsgLow(q:CV×List (Nat×Option Nat×List CV)×Nat×Nat):Bool:=match xAllGe q.2.2.1 (xKeysV q.1) with|true=>xRowsGe q.2.2.1 q.2.1|false=>false
def xPutP(ps:List Tmp):List CV->Tr CV->Tr CV:=List.rec (motive:=fun _=>List CV->Tr CV->Tr CV) (fun _ e=>e) (fun t _ ih l e=>match l with|a::l=>ih l (e.set t a)|[]=>e) ps
def xArgEnv(args:List CV):Nat->Tr CV->Tr CV:=List.rec (motive:=fun _=>Nat->Tr CV->Tr CV) (fun _ e=>e) (fun a _ ih i e=>ih (Nat.succ i) (e.set i a)) args
def xChanOf(l:List CV):Option Nat:=List.rec (motive:=fun _=>Option Nat) none (fun a _ ih=>match a with | .c k=>some k|_=>ih) l
def xRev(l:List CV):List CV->List CV:=List.rec (motive:=fun _=>List CV->List CV) (fun r=>r) (fun a _ ih r=>ih (a::r)) l
def xAllLt(n:Nat)(l:List Nat):Bool:=List.rec (motive:=fun _=>Bool) true (fun t _ ih=>match Nat.ble (Nat.succ t) n with|true=>ih|false=>false) l
def xRest(m:Mem)(o:List CV):Mem:=⟨m.M,m.nx,m.log,m.ln,o⟩
def xEndRound(m:Mem)(ds:List CD)(k:Nat)(j:Option Code):OV:=match m.M.get k with
 | some (.own (.loop _ _ n env ps as_ body dk))=>.v (.b (match j with|none=>true|some _=>false)) (m.put k (.loop (match j with|none=>0|some _=>2) j n env ps as_ body dk)) ds
 | _=>.bad
def doOR(F:Fns)(st:St):OR->OV
 | .v x m=>.v x m st.ds
 | .rd x _=>.v x st.m st.ds
 | .enter f args=>match F.call f args st.m with | .v x m=>.v x (xRest m st.m.outs) st.ds | .bad=>.bad
 | .round k args=>match st.m.M.get k with
  | some (.own (.loop 0 _ n env ps as_ body _))=>match Nat.beq (xLen args) (xLen ps),xAllLt n ps with
   | true,true=>match F.code n (some k) as_ ⟨xPutP ps args env,st.m,[]⟩ with
    | .n st1=>match st1.ds,st1.m.M.get k with
     | [],some (.own (.loop 0 pd n' env' ps' as' body' dk'))=>match F.code n (some k) body ⟨st1.e,st1.m.put k (.loop 1 pd n' env' ps' as' body' dk'),[]⟩ with
      | .n st3=>xEndRound (xRest st3.m st.m.outs) st.ds k none
      | .x id st3=>xEndRound (xRest st3.m st.m.outs) st.ds k (some (.exit id))
      | .r st3=>xEndRound (xRest st3.m st.m.outs) st.ds k (some .ret)
      | .bad=>.bad
     | _,_=>.bad
    | _=>.bad
   | _,_=>.bad
  | _=>.bad
 | _=>.bad
def doX1(F:Fns)(_:Option Nat)(st:St):OR->OV
 | .go f args=>match F.mn,f with
  | true,.f g [] [] =>
   let all:=args
   match xNoRcv st.m.M,xChanOf all with
   | true,some k =>
    let M:=xShare 100000 (xKeysL all) st.m.M
    match M.get k,F.send g all ⟨xOnlyRo M,st.m.nx,[],0,[]⟩ k with
    | some (.own .chan),some outs=>.v .undef ⟨M.set k (.own (.rcv (xRev outs []))),st.m.nx,k::st.m.log,Nat.succ st.m.ln,st.m.outs⟩ st.ds
    | _,_=>.bad
   | _,_=>.bad
  | true,.f g [] (y::ys) =>
   let all:=xApp args (y::ys)
   let M:=xShare 100000 (xKeysL all) st.m.M
   match F.msg g all ⟨xOnlyRo M,st.m.nx,[],0,[]⟩ with
   | some (k,x,m1)=>match M.get k,xNoRcv (M.set k (.own .dead)) with
    | some (.own (.crowd (n+1) ms)),true=>match xMsgLow (xMsgOf st.m.nx x m1) with
     | true=>.v .undef ⟨M.set k (.own (.crowd n (xApp ms [xMsgOf st.m.nx x m1]))),st.m.nx,k::st.m.log,Nat.succ st.m.ln,st.m.outs⟩ st.ds
     | false=>.bad
    | _,_=>.bad
   | none=>.bad
  | _,_=>.bad
 | .recv k ok=>match F.mn,ok with
  | true,true=>match st.m.M.get k with
   | some (.own (.rcv (v::vs)))=>.v (.t [v,.b true]) (st.m.put k (.rcv vs)) st.ds
   | some (.own (.rcv []))=>.v (.t [.bad,.b false]) (st.m.put k .dead) st.ds
   | _=>.bad
  | _,_=>.bad
 | y=>doOR F st y
def xPlainV:CV->Bool
 | .b _ | .i _ _ | .s _=>true
 | _=>false
def doS1(F:Fns)(rd:Option Nat)(st:St):OR->OV
 | .send k x=>match Nat.beq k F.ch,xPlainV x with
  | true,true=>.v .undef (xRest st.m (x::st.m.outs)) st.ds
  | _,_=>.bad
 | .dclose x=>match rd,x,st.ds with
  | none,.c k,[]=>match Nat.beq k F.ch with|true=>.v .undef st.m [.close k]|false=>.bad
  | _,_,_=>.bad
 | y=>doOR F st y
def xOkV:CV->Bool:=CV.rec (motive_1:=fun _=>Bool) (motive_2:=fun _=>Bool) false (fun _=>true) (fun _ _=>true) (fun _=>true) true (fun _ _=>true) true (fun _ _ _ _ _=>true) true (fun _=>true) true (fun _=>true) true (fun _ _ _ a b=>a&&b) (fun _=>true) true (fun _ _ a=>a) (fun _ a=>a) (fun _ a=>a) true (fun _ _ a b=>a&&b)
structure KS where
 run:Fns->Option Nat->St->R
structure KD where
 run:Fns->Option Nat->List (Nat×Nat)->St->R
structure KG where
 run:Tr CV->Bool
structure KP where
 run:Tr CV->CV->Tr CV
structure DX where
 gl:Bool
 run:Fns->Option Nat->St->OR->OV
def doX:DX:=⟨true,doX1⟩
def doS:DX:=⟨false,doS1⟩
def dstK:Option Tmp->KP
 | some d=>⟨fun e v=>e.set d v⟩
 | none=>⟨fun e _=>e⟩
def guardK(l:List Oper)(o:Oper):KG:=match o.guard with
 | none=>⟨fun _=>true⟩
 | some (j,w)=>match (l[j]?).bind (·.dst) with
  | some d=>⟨fun e=>match e.get d with|some (.b x)=>(match x,w with|true,true=>true|false,false=>true|_,_=>false)|_=>false⟩
  | none=>⟨fun _=>false⟩
def gokK(l:List Oper)(o:Oper):KG:=match o.guard with
 | none=>⟨fun _=>true⟩
 | some (j,_)=>match (l[j]?).bind (·.dst) with
  | some d=>⟨fun e=>match e.get d with|some (.b _)=>true|some (.t _)=>true|_=>false⟩
  | none=>⟨fun _=>false⟩
def textK(P:Program)(dx:DX)(l:List Oper):List Oper->KS
 | []=>⟨fun _ _ st=>.n st⟩
 | o::r=>match opK P o.op,dstK o.dst,guardK l o,gokK l o,textK P dx l r with
  | ⟨f⟩,⟨d⟩,⟨g⟩,⟨gk⟩,⟨k⟩=>⟨fun F rd st=>match gk st.e with
   | false=>.bad
   | true=>match g st.e with
    | false=>k F rd ⟨d st.e .undef,st.m,st.ds⟩
    | true=>match dx.run F rd st (f st.e st.m) with
     | .v x m ds=>k F rd ⟨d st.e x,m,ds⟩
     | .bad=>.bad⟩
def xNoneOf(K:List Nat)(n:Nat):List Nat->Bool:=Nat.rec (motive:=fun _=>List Nat->Bool) (fun _=>true)
 (fun _ ih l=>match l with|[]=>true|k::l=>match K.any (Nat.beq k) with|true=>false|false=>ih l) n
def xWaits(l:List Oper)(j i:Nat):Bool:=match l[j]? with
 | some o=>o.after.toList.any fun e=>Region.binds .any e&&e.on==i
 | none=>true
def xKeep(wt:Nat->Bool)(n:Nat)(lg:List Nat)(K:List (Nat×Nat)):Option (List (Nat×Nat)):=List.rec (motive:=fun _=>Option (List (Nat×Nat))) (some [])
 (fun a _ ih=>match wt a.1 with
  | true=>ih
  | false=>match xNoneOf [a.2] n lg with
   | true=>match ih with|some r=>some (a::r)|none=>none
   | false=>none) K
structure KH where
 run:Tr CV->Mem->Bool
def xIsV:OR->Bool
 | .v _ _=>true
 | _=>false
def flK(P:Program)(l:List Oper):Option Nat->KH
 | none=>⟨fun _ _=>true⟩
 | some f=>match l[f]? with
  | some o=>match opK P o.op with|⟨g⟩=>⟨fun e m=>xIsV (g e m)⟩
  | none=>⟨fun _ _=>false⟩
def anyK(P:Program)(l:List Oper)(fo:KH):List (Nat×Bool×Bool)->KD
 | []=>⟨fun _ _ _ st=>.n st⟩
 | (i,tk,fp)::r=>match l[i]?,anyK P l fo r with
  | none,_=>⟨fun _ _ _ _=>.bad⟩
  | some o,⟨k⟩=>match opK P o.op,dstK o.dst,guardK l o,gokK l o,tk with
   | ⟨f⟩,⟨d⟩,⟨g⟩,⟨gk⟩,true=>⟨fun F rd K st=>match gk st.e with
    | true=>match g st.e with
     | false=>k F rd K ⟨d st.e .undef,st.m,st.ds⟩
     | true=>match f st.e st.m with
      | .rd x q=>match xOkV x with
       | true=>k F rd ((i,q)::K) ⟨d st.e x,st.m,st.ds⟩
       | false=>.bad
      | .v x m=>match Nat.beq m.nx st.m.nx with
       | true=>k F rd K ⟨d st.e x,st.m,st.ds⟩
       | false=>.bad
      | _=>.bad
    | false=>.bad⟩
   | ⟨f⟩,⟨d⟩,⟨g⟩,⟨gk⟩,false=>⟨fun F rd K st=>match (match fp with|true=>fo.run st.e st.m|false=>true),gk st.e with
    | true,true=>match (match g st.e with|false=>OV.v .undef st.m st.ds|true=>doOR F st (f st.e st.m)) with
     | .v x m ds=>match xKeep (xWaits l i) (Nat.sub m.ln st.m.ln) m.log K with
      | some K=>k F rd K ⟨d st.e x,m,ds⟩
      | none=>.bad
     | .bad=>.bad
    | _,_=>.bad⟩
def xSlotsN(n:Nat):List Oper->Bool
 | []=>true
 | o::l=>match o.dst with
  | some d=>match Nat.ble (Nat.succ d) n with|true=>xSlotsN n l|false=>false
  | none=>xSlotsN n l
def drawK(P:Program)(l:List Oper):KS:=match Apw l,P.follows .mixedOrders with
 | true,true =>
  let p:=xPlan l (xFloat l) l.length (List.replicate l.length false)
  let pz:=xPz p
  match xGood l (xFloat l) pz p (List.replicate l.length false),anyK P l (flK P l (xFloat l)) p with
  | true,⟨k⟩=>⟨fun F rd st=>k F rd [] st⟩
  | false,_=>⟨fun _ _ _=>.bad⟩
 | _,_=>⟨fun _ _ _=>.bad⟩
def xGoLast(l:List Oper):Bool:=match l.getLast? with
 | some o=>match o.op with | .go _=>true|_=>false
 | none=>false
def regK(P:Program)(dx:DX)(n:Nat)(l:List Oper)(draw:Bool):KS:=match xSlotsN n l with
 | false=>⟨fun _ _ _=>.bad⟩
 | true=>match draw with
  | false=>textK P dx l l
  | true=>match xGoLast l,dx.gl with
   | false,_=>drawK P l
   | true,false=>⟨fun _ _ _=>.bad⟩
   | true,true=>match Adh (l.take (l.length-1)),Amp (l.take (l.length-1)) l,drawK P (l.take (l.length-1)),textK P dx l (l.drop (l.length-1)) with
    | true,true,⟨f⟩,⟨g⟩=>⟨fun F rd st=>match f F rd st with | .n st=>g F rd st|_=>.bad⟩
    | _,_,_,_=>⟨fun _ _ _=>.bad⟩
structure KC where
 run:Fns->Option Nat->St->R
def xLoopR(f:Fns->Option Nat->St->R)(F:Fns)(rd:Option Nat)(n:Nat):St->R:=Nat.rec (motive:=fun _=>St->R) (fun _=>.bad)
 (fun _ ih st=>match f F rd st with | .n st=>ih st|y=>y) n
def xRange(F:Fns)(n:Nat)(ps:List Tmp)(as_ body:Code)(g:FuncId)(ys:List CV)(e:Tr CV)(dk:Nat)(m:Mem)(ds:List CD):R :=
 match F.call g (.y m.nx::ys) (m.add (.loop 0 none n e ps as_ body dk)) with
 | .v _ m'=>match m'.M.get m.nx with
  | some (.own (.loop b pd n' env ps' as' body' dk'))=>match Nat.beq b 1 with
   | true=>.bad
   | false=>match pd with
    | none=>.n ⟨e,xRest (m'.put m.nx (.loop 3 none n' env ps' as' body' dk')) m.outs,ds⟩
    | some c=>match c with
     | .exit id=>.x id ⟨e,xRest (m'.put m.nx (.loop 3 pd n' env ps' as' body' dk')) m.outs,ds⟩
     | .ret=>.r ⟨e,xRest (m'.put m.nx (.loop 3 pd n' env ps' as' body' dk')) m.outs,ds⟩
     | _=>.bad
  | _=>.bad
 | .bad=>.bad
def codeK(P:Program)(dx:DX)(n:Nat):Code->KC
 | .skip=>⟨fun _ _ st=>.n st⟩
 | .region _ ops draw=>match regK P dx n ops.toList draw with|⟨k⟩=>⟨fun F rd st=>k F rd st⟩
 | .seq a b=>match codeK P dx n a,codeK P dx n b with
  | ⟨f⟩,⟨g⟩=>⟨fun F rd st=>match f F rd st with | .n st=>g F rd st|y=>y⟩
 | .cond c a b=>match rdK c,codeK P dx n a,codeK P dx n b with
  | ⟨c⟩,⟨f⟩,⟨g⟩=>⟨fun F rd st=>match c st.e with | .b true=>f F rd st | .b false=>g F rd st|_=>.bad⟩
 | .block id a=>match codeK P dx n a with
  | ⟨f⟩=>⟨fun F rd st=>match f F rd st with | .x j st=>(match Nat.beq j id with|true=>.n st|false=>.x j st)|y=>y⟩
 | .loop a=>match codeK P dx n a with|⟨f⟩=>⟨fun F rd st=>xLoopR f F rd 1000000 st⟩
 | .scope a=>match codeK P dx n a with|⟨f⟩=>⟨fun F rd st=>f F rd st⟩
 | .label _=>⟨fun _ _ st=>.n st⟩
 | .exit id=>⟨fun _ _ st=>.x id st⟩
 | .ret=>⟨fun _ _ st=>.r st⟩
 | .rangeFunc f ps as_ body=>match rdK f,xAllLt n ps.toList with
  | ⟨f⟩,true=>⟨fun F rd st=>match f st.e with
   | .f g [] ys=>match xHasBody P g with
    | true=>match rd with
     | some l=>match st.m.M.get l with|some (.own (.loop _ _ _ _ _ _ _ dk))=>xRange F n ps.toList as_ body g ys st.e dk st.m st.ds|_=>.bad
     | none=>xRange F n ps.toList as_ body g ys st.e st.m.nx (st.m.add .defd) (.mark st.m.nx::st.ds)
    | false=>.bad
   | _=>.bad⟩
  | _,false=>⟨fun _ _ _=>.bad⟩
 | _=>⟨fun _ _ _=>.bad⟩
structure KR where
 run:Tr CV->Mem->Option (List CV)
def resK(P:Program):List ResultVar->KR
 | []=>⟨fun _ _=>some []⟩
 | .tmp t::l=>match resK P l with|⟨g⟩=>⟨fun e m=>match g e m with|some r=>some ((match e.get t with|some v=>v|none=>.bad)::r)|none=>none⟩
 | .cell a t::l=>match resK P l,partK P t with
  | ⟨g⟩,⟨h⟩=>⟨fun e m=>match e.get a with
   | some (.p k off)=>match m.row k with
    | some c=>match h (xDrp off c),g e m with|some v,some r=>some (v::r)|_,_=>none
    | none=>none
   | _=>none⟩
structure KF where
 run:Fns->List CV->Mem->RV
def xDefersR(l:List CD):Mem->Option Mem:=List.rec (motive:=fun _=>Mem->Option Mem) (fun m=>some m)
 (fun d _ ih m=>match d with
  | .mark k=>match m.M.get k with|some (.own .defd)=>ih (m.put k .dead)|_=>none
  | .close _=>none) l
def xFin(h:Tr CV->Mem->Option (List CV))(st:St):RV:=match xDefersR st.ds st.m with
 | some m=>match h st.e m with
  | some [v]=>.v v m
  | some l=>.v (.t l) m
  | none=>.bad
 | none=>.bad
def funK(P:Program)(g:Nat):KF:=match P.funcs[g]? with
 | some fn=>match fn.body with
  | some c=>match codeK P doX fn.ntmps c,resK P fn.results.toList,fn.ntmps with
   | ⟨f⟩,⟨h⟩,n=>⟨fun F args m=>match Nat.ble (xLen args) n with
    | true=>match f F none ⟨xArgEnv args 0 .leaf,m,[]⟩ with
     | .n st=>xFin h st
     | .r st=>xFin h st
     | _=>.bad
    | false=>.bad⟩
  | none=>⟨fun _ _ _=>.bad⟩
 | none=>⟨fun _ _ _=>.bad⟩
structure KQ where
 run:Fns->St->Option St
def preK(P:Program)(l:List Oper):List Oper->KQ
 | []=>⟨fun _ st=>some st⟩
 | o::r=>match opK P o.op,dstK o.dst,guardK l o,gokK l o,preK P l r with
  | ⟨f⟩,⟨d⟩,⟨g⟩,⟨gk⟩,⟨k⟩=>⟨fun F st=>match gk st.e with
   | false=>none
   | true=>match g st.e with
    | false=>k F ⟨d st.e .undef,st.m,st.ds⟩
    | true=>match doOR F st (f st.e st.m) with
     | .v x m ds=>k F ⟨d st.e x,m,ds⟩
     | .bad=>none⟩
def xTail:Code->Option (Code×Nat×List Oper)
 | .seq a b=>match xTail b with|some (c,i,l)=>some (.seq a c,i,l)|none=>none
 | .region i ops false=>some (.skip,i,ops.toList)
 | _=>none
structure KM where
 run:Fns->List CV->Mem->Option (Nat×CV×Mem)
def xSendOf(o:Oper):Option (Operand×Operand):=match o.op,o.guard with
 | .send x y,none=>some (x,y)
 | _,_=>none
def msgK(P:Program)(g:Nat):KM:=match P.funcs[g]?,xHasBody P g with
 | some fn,true=>match fn.body,fn.results.toList with
  | some c,[]=>match xTail c with
   | some (c,_,l)=>match l.getLast?,xSlotsN fn.ntmps l with
    | some so,true=>match xSendOf so with
     | some (x,y)=>match codeK P doX fn.ntmps c,preK P l l.dropLast,rdK x,rdK y,fn.ntmps with
      | ⟨f⟩,⟨p⟩,⟨x⟩,⟨y⟩,n=>⟨fun F args m=>match Nat.ble (xLen args) n with
       | true=>match f F none ⟨xArgEnv args 0 .leaf,m,[]⟩ with
        | .n st=>match p F st with
         | some st=>match st.ds,x st.e with
          | [],.c k=>some (k,y st.e,st.m)
          | _,_=>none
         | none=>none
        | _=>none
       | false=>none⟩
     | none=>⟨fun _ _ _=>none⟩
    | _,_=>⟨fun _ _ _=>none⟩
   | none=>⟨fun _ _ _=>none⟩
  | _,_=>⟨fun _ _ _=>none⟩
 | _,_=>⟨fun _ _ _=>none⟩
structure KX where
 run:Fns->List CV->Mem->Nat->Option (List CV)
def xFinS(k:Nat)(st:St):Option (List CV):=match st.ds with|[.close j]=>(match Nat.beq j k with|true=>some st.m.outs|false=>none)|_=>none
def sendK(P:Program)(g:Nat):KX:=match P.funcs[g]?,xHasBody P g with
 | some fn,true=>match fn.body,fn.results.toList with
  | some c,[]=>match codeK P doS fn.ntmps c,fn.ntmps with
   | ⟨f⟩,n=>⟨fun F args m k=>match Nat.ble (xLen args) n with
    | true=>match f ⟨false,k,F.code,F.call,F.send,F.msg⟩ none ⟨xArgEnv args 0 .leaf,m,[]⟩ with
     | .n st=>xFinS k st
     | .r st=>xFinS k st
     | _=>none
    | false=>none⟩
  | _,_=>⟨fun _ _ _ _=>none⟩
 | _,_=>⟨fun _ _ _ _=>none⟩
def xWF(P:Program)(n:Nat):Fns:=Nat.rec ⟨false,0,fun _ _ _ _=>.bad,fun _ _ _=>.bad,fun _ _ _ _=>none,fun _ _ _=>none⟩
 (fun _ F=>⟨false,0,fun n rd c st=>match codeK P doX n c with|⟨f⟩=>f F rd st,fun g args m=>match funK P g with|⟨f⟩=>f F args m,fun _ _ _ _=>none,fun _ _ _=>none⟩) n
def xFns(P:Program)(n:Nat):Fns:=Nat.rec ⟨true,0,fun _ _ _ _=>.bad,fun _ _ _=>.bad,fun _ _ _ _=>none,fun _ _ _=>none⟩
 (fun n F=>⟨true,0,fun n rd c st=>match codeK P doX n c with|⟨f⟩=>f F rd st,fun g args m=>match funK P g with|⟨f⟩=>f F args m,
  fun g args m k=>match sendK P g with|⟨f⟩=>f (xWF P n) args m k,fun g args m=>match msgK P g with|⟨f⟩=>f (xWF P n) args m⟩) n
theorem Azt{α:Type}(a b:α)(x y:Nat):(Bool.rec a b (Nat.beq x y):α)=if x=y then b else a:=by
 by_cases h:x=y
 ·subst h;simp
 ·have:Nat.beq x y=false:=by
   cases hb:Nat.beq x y with
   | false=>rfl
   | true=>exact absurd (lZ8 hb) h
  rw[this,if_neg h]
theorem Tr.get_leaf{α}(k:Nat):(Tr.leaf:Tr α).get k=none:=rfl
theorem Tr.get_node{α}(v:Option α)(l r:Tr α)(k:Nat):(Tr.node v l r).get k=if k=0 then v else if k%2=0 then r.get (k/2-1) else l.get (k/2):=by show (Bool.rec (Bool.rec (l.get (k/2)) (r.get (k/2-1)) (Nat.beq (k%2) 0)) v (Nat.beq k 0):Option α)=_;rw[Azt,Azt]
theorem Tr.put_leaf{α}(n k:Nat)(a:α):Tr.put (n+1) .leaf k a=if k=0 then .node (some a) .leaf .leaf else if k%2=0 then .node none .leaf (Tr.put n .leaf (k/2-1) a) else .node none (Tr.put n .leaf (k/2) a) .leaf:=by show (Bool.rec (Bool.rec (.node none (Tr.put n .leaf (k/2) a) .leaf) (.node none .leaf (Tr.put n .leaf (k/2-1) a)) (Nat.beq (k%2) 0)) (.node (some a) .leaf .leaf) (Nat.beq k 0):Tr α)=_;rw[Azt,Azt]
theorem Tr.put_node{α}(n k:Nat)(v:Option α)(l r:Tr α)(a:α):Tr.put (n+1) (.node v l r) k a=if k=0 then .node (some a) l r else if k%2=0 then .node v l (Tr.put n r (k/2-1) a) else .node v (Tr.put n l (k/2) a) r:=by show (Bool.rec (Bool.rec (.node v (Tr.put n l (k/2) a) r) (.node v l (Tr.put n r (k/2-1) a)) (Nat.beq (k%2) 0)) (.node (some a) l r) (Nat.beq k 0):Tr α)=_;rw[Azt,Azt]
theorem Tr.get_put{α:Type}:∀(n:Nat) (t:Tr α) (k:Nat) (a:α) (j:Nat),k<n->(Tr.put n t k a).get j=if j=k then some a else t.get j
 | 0,_,_,_,_,h=>absurd h (Td _)
 | n+1,t,k,a,j,h=>by
  have key:∀(v:Option α) (l r:Tr α),(Tr.put (n+1) (.node v l r) k a).get j=if j=k then some a else (Tr.node v l r).get j:=fun v l r=>by
   rw[Tr.put_node];by_cases hk:k=0
   ·subst hk;rw[if_pos rfl,Tr.get_node,Tr.get_node];by_cases hj:j=0
    ·rw[if_pos hj,if_pos hj]
    ·rw[if_neg hj,if_neg hj,if_neg hj]
   ·rw[if_neg hk];by_cases h2:k%2=0
    ·rw[if_pos h2,Tr.get_node,Tr.get_node,Tr.get_put n r _ a _ (by omega)];by_cases hj:j=0
     ·subst hj;rw[if_pos rfl,if_pos rfl,if_neg (by omega)]
     ·rw[if_neg hj,if_neg hj];by_cases hj2:j%2=0
      ·rw[if_pos hj2,if_pos hj2];by_cases hjk:j=k
       ·rw[if_pos (by omega),if_pos hjk]
       ·rw[if_neg (by omega),if_neg hjk]
      ·rw[if_neg hj2,if_neg hj2,if_neg (by omega)]
    ·rw[if_neg h2,Tr.get_node,Tr.get_node,Tr.get_put n l _ a _ (by omega)];by_cases hj:j=0
     ·subst hj;rw[if_pos rfl,if_pos rfl,if_neg (by omega)]
     ·rw[if_neg hj,if_neg hj];by_cases hj2:j%2=0
      ·rw[if_pos hj2,if_pos hj2,if_neg (by omega)]
      ·rw[if_neg hj2,if_neg hj2];by_cases hjk:j=k
       ·rw[if_pos (by omega),if_pos hjk]
       ·rw[if_neg (by omega),if_neg hjk]
  cases t with
  | node v l r=>exact key v l r
  | leaf =>
   have e:Tr.put (n+1) .leaf k a=Tr.put (n+1) (.node none .leaf .leaf) k a:=by rw[Tr.put_leaf,Tr.put_node]
   rw[e,key none .leaf .leaf,Tr.get_node,Tr.get_leaf];simp[Tr.get_leaf]
theorem Tr.get_set{α}(t:Tr α)(k:Nat)(a:α)(j:Nat):(t.set k a).get j=if j=k then some a else t.get j:=Tr.get_put _ t k a j (Aqf _)
theorem Aan{α:Type}:∀(n:Nat) (l:List α),xDrp n l=l.drop n
 | 0,l=>rfl
 | n+1,[]=>by simp[xDrp]
 | n+1,a::l=>Aan n l
theorem Aau{α:Type}:∀(n:Nat) (l r:List α),xTkn n l=some r->n<=l.length/\r=l.take n
 | 0,l,r,h=>by cases h;exact⟨Hr _,rfl⟩
 | n+1,[],r,h=>by cases h
 | n+1,a::l,r,h=>by
  have h':(match xTkn n l with|some r=>some (a::r)|none=>none)=some r:=h;cases hx:xTkn n l with
  | none=>rw[hx]at h';cases h'
  | some r' =>
   rw[hx]at h';cases h';obtain⟨b,c⟩:=Aau n l r' hx;exact⟨Aww b,by rw[c];rfl⟩
theorem Aep{α:Type}:∀(n:Nat) (l:List α),xNth n l=l[n]?
 | 0,[]=>rfl
 | 0,a::l=>rfl
 | n+1,[]=>rfl
 | n+1,a::l=>by rw[Xr];exact Aep n l
theorem Lu{α:Type}:∀(x y:List α),xApp x y=x++y
 | [],y=>rfl
 | a::x,y=>by rw[Sz,<-Lu x y];rfl
theorem Ig{α:Type}:∀(x:List α),xLen x=x.length
 | []=>rfl
 | a::x=>by rw[lZ9,<-Ig x];rfl
theorem Azl:∀(vs l r:List CV),xOver vs l=some r->vs.length<=l.length/\r=vs++l.drop vs.length
 | [],l,r,h=>by cases h;exact⟨Hr _,rfl⟩
 | v::vs,[],r,h=>by cases h
 | v::vs,a::l,r,h=>by
  have h':(match xOver vs l with|some r=>some (v::r)|none=>none)=some r:=h;cases hx:xOver vs l with
  | none=>rw[hx]at h';cases h'
  | some r' =>
   rw[hx]at h';cases h';obtain⟨b,c⟩:=Azl vs l r' hx;exact⟨Aww b,by rw[c];rfl⟩
theorem Aoa:∀(n:Nat) (vs l r:List CV),xSetL n vs l=some r->n+vs.length<=l.length/\r=l.take n++(vs++l.drop (n+vs.length))
 | 0,vs,l,r,h=>by
  obtain⟨h1,h2⟩:=Azl vs l r h;exact⟨by omega,by rw[h2];simp⟩
 | n+1,vs,[],r,h=>by cases h
 | n+1,vs,a::l,r,h=>by
  have h':(match xSetL n vs l with|some r=>some (a::r)|none=>none)=some r:=h;cases hx:xSetL n vs l with
  | none=>rw[hx]at h';cases h'
  | some r' =>
   rw[hx]at h';cases h';obtain⟨h1,h2⟩:=Aoa n vs l r' hx;refine⟨by simp only[lZ9];omega,?_⟩;rw[h2,show n+1+vs.length=(n+vs.length)+1 by omega];rfl
abbrev XR:=Nat->Option (Nat×Nat)
def XR.le(R R':XR):Prop:=∀k q,R k=some q->R' k=some q
theorem XR.le.refl{R}:XR.le R R:=fun _ _ h=>h
theorem XR.le.trans{R R' R''}(h:XR.le R R')(h':XR.le R' R''):XR.le R R'':=fun k q hk=>h' k q (h k q hk)
inductive VR(R:XR):List CV->List Value->Prop
 | nil:VR R [] []
 | bad {l:List CV} {l':List Value} (v:Value):VR R l l'->VR R (.bad::l) (v::l')
 | b {l:List CV} {l':List Value} (x:Bool):VR R l l'->VR R (.b x::l) (.bool x::l')
 | i {l:List CV} {l':List Value} (k:IntKind) (n:Int):VR R l l'->VR R (.i k n::l) (.int k n::l')
 | s {l:List CV} {l':List Value} (x:List UInt8):VR R l l'->VR R (.s x::l) (.string ⟨x.toArray⟩::l')
 | pn {l:List CV} {l':List Value}:VR R l l'->VR R (.pn::l) (.pointer none::l')
 | p {l:List CV} {l':List Value} {k off b c:Nat}:R k=some (b,c)->VR R l l'->VR R (.p k off::l) (.pointer (some ⟨b,off,none⟩)::l')
 | sn {l:List CV} {l':List Value}:VR R l l'->VR R (.sn::l) (.slice none 0 0::l')
 | slK {l:List CV} {l':List Value} {k off ln cp b c:Nat}:R k=some (b,c)->VR R l l'->VR R (.sl k off ln true cp::l) (.slice (some ⟨b,off,none⟩) ln cp::l')
 | slU {l:List CV} {l':List Value} {k off ln a b c:Nat}:R k=some (b,c)->VR R l l'->VR R (.sl k off ln false a::l) (.slice (some ⟨b,off,none⟩) ln (c-a)::l')
 | mn {l:List CV} {l':List Value}:VR R l l'->VR R (.mn::l) (.map none::l')
 | m {l:List CV} {l':List Value} {k b c:Nat}:R k=some (b,c)->VR R l l'->VR R (.m k::l) (.map (some b)::l')
 | cn {l:List CV} {l':List Value}:VR R l l'->VR R (.cn::l) (.chan none::l')
 | c {l:List CV} {l':List Value} {k b c:Nat}:R k=some (b,c)->VR R l l'->VR R (.c k::l) (.chan (some b)::l')
 | fn {l:List CV} {l':List Value}:VR R l l'->VR R (.fn::l) (.nilFunc::l')
 | f {l xs ys:List CV} {l' xs' ys':List Value} (g:Nat):VR R xs xs'->VR R ys ys'->VR R l l'->VR R (.f g xs ys::l) (.func (.func g) xs'.toArray ys'.toArray::l')
 | y {l:List CV} {l':List Value} {k b c:Nat}:R k=some (b,c)->VR R l l'->VR R (.y k::l) (.func (.yield b) #[] #[]::l')
 | n {l:List CV} {l':List Value}:VR R l l'->VR R (.n::l) (.nilIface::l')
 | a {l:List CV} {l':List Value} {v:CV} {v':Value} (t:Nat):VR R [v] [v']->VR R l l'->VR R (.a t v::l) (.iface t v'::l')
 | g {l xs:List CV} {l' xs':List Value}:VR R xs xs'->VR R l l'->VR R (.g xs::l) (.agg xs'.toArray::l')
 | t {l xs:List CV} {l' xs':List Value}:VR R xs xs'->VR R l l'->VR R (.t xs::l) (.tuple xs'.toArray::l')
abbrev V1(R:XR)(v:CV)(v':Value):Prop:=VR R [v] [v']
theorem VR.cons_iff{R v v' l l'}:VR R (v::l) (v'::l')↔V1 R v v'/\VR R l l':=by
 constructor
 ·intro h;cases h with
  | bad _ h=>exact⟨.bad _ .nil,h⟩
  | b _ h=>exact⟨.b _ .nil,h⟩
  | i _ _ h=>exact⟨.i _ _ .nil,h⟩
  | s _ h=>exact⟨.s _ .nil,h⟩
  | pn h=>exact⟨.pn .nil,h⟩
  | p h1 h=>exact⟨.p h1 .nil,h⟩
  | sn h=>exact⟨.sn .nil,h⟩
  | slK h1 h=>exact⟨.slK h1 .nil,h⟩
  | slU h1 h=>exact⟨.slU h1 .nil,h⟩
  | mn h=>exact⟨.mn .nil,h⟩
  | m h1 h=>exact⟨.m h1 .nil,h⟩
  | cn h=>exact⟨.cn .nil,h⟩
  | c h1 h=>exact⟨.c h1 .nil,h⟩
  | fn h=>exact⟨.fn .nil,h⟩
  | f g h1 h2 h=>exact⟨.f g h1 h2 .nil,h⟩
  | y h1 h=>exact⟨.y h1 .nil,h⟩
  | n h=>exact⟨.n .nil,h⟩
  | a t h1 h=>exact⟨.a t h1 .nil,h⟩
  | g h1 h=>exact⟨.g h1 .nil,h⟩
  | t h1 h=>exact⟨.t h1 .nil,h⟩
 ·rintro⟨h,h'⟩;cases h with
  | bad _ _=>exact .bad _ h'
  | b _ _=>exact .b _ h'
  | i _ _ _=>exact .i _ _ h'
  | s _ _=>exact .s _ h'
  | pn _=>exact .pn h'
  | p h1 _=>exact .p h1 h'
  | sn _=>exact .sn h'
  | slK h1 _=>exact .slK h1 h'
  | slU h1 _=>exact .slU h1 h'
  | mn _=>exact .mn h'
  | m h1 _=>exact .m h1 h'
  | cn _=>exact .cn h'
  | c h1 _=>exact .c h1 h'
  | fn _=>exact .fn h'
  | f g h1 h2 _=>exact .f g h1 h2 h'
  | y h1 _=>exact .y h1 h'
  | n _=>exact .n h'
  | a t h1 _=>exact .a t h1 h'
  | g h1 _=>exact .g h1 h'
  | t h1 _=>exact .t h1 h'
theorem VR.len{R:XR}:∀{l:List CV} {l':List Value},VR R l l'->l.length=l'.length
 | [],[],_=>rfl
 | v::l,v'::l',h=>by rw[lZ9,lZ9,(VR.cons_iff.1 h).2.len]
 | [],_::_,h=>by cases h
 | _::_,[],h=>by cases h
theorem VR.mono{R R'}(hR:XR.le R R'){l l'}(h:VR R l l'):VR R' l l':=by
 induction h with
 | nil=>exact .nil
 | bad _ _ ih=>exact .bad _ ih
 | b _ _ ih=>exact .b _ ih
 | i _ _ _ ih=>exact .i _ _ ih
 | s _ _ ih=>exact .s _ ih
 | pn _ ih=>exact .pn ih
 | p h _ ih=>exact .p (hR _ _ h) ih
 | sn _ ih=>exact .sn ih
 | slK h _ ih=>exact .slK (hR _ _ h) ih
 | slU h _ ih=>exact .slU (hR _ _ h) ih
 | mn _ ih=>exact .mn ih
 | m h _ ih=>exact .m (hR _ _ h) ih
 | cn _ ih=>exact .cn ih
 | c h _ ih=>exact .c (hR _ _ h) ih
 | fn _ ih=>exact .fn ih
 | f g _ _ _ i1 i2 ih=>exact .f g i1 i2 ih
 | y h _ ih=>exact .y (hR _ _ h) ih
 | n _ ih=>exact .n ih
 | a t _ _ i1 ih=>exact .a t i1 ih
 | g _ _ i1 ih=>exact .g i1 ih
 | t _ _ i1 ih=>exact .t i1 ih
theorem VR.app{R:XR}:∀{l k:List CV} {l' k':List Value},VR R l l'->VR R k k'->VR R (l++k) (l'++k')
 | [],_,[],_,_,h=>h
 | v::l,_,v'::l',_,h,h'=>VR.cons_iff.2 ⟨(VR.cons_iff.1 h).1,(VR.cons_iff.1 h).2.app h'⟩
 | [],_,_::_,_,h,_=>by cases h
 | _::_,_,[],_,h,_=>by cases h
theorem VR.drop{R:XR}:∀(d:Nat) {l:List CV} {l':List Value},VR R l l'->VR R (l.drop d) (l'.drop d)
 | 0,_,_,h=>h
 | d+1,[],[],_=>.nil
 | d+1,v::l,v'::l',h=>(VR.cons_iff.1 h).2.drop d
 | _+1,[],_::_,h=>by cases h
 | _+1,_::_,[],h=>by cases h
theorem VR.take{R:XR}:∀(d:Nat) {l:List CV} {l':List Value},VR R l l'->VR R (l.take d) (l'.take d)
 | 0,_,_,h=>.nil
 | d+1,[],[],_=>.nil
 | d+1,v::l,v'::l',h=>VR.cons_iff.2 ⟨(VR.cons_iff.1 h).1,(VR.cons_iff.1 h).2.take d⟩
 | _+1,[],_::_,h=>by cases h
 | _+1,_::_,[],h=>by cases h
theorem VR.at{R:XR}:∀{d:Nat} {l:List CV} {l':List Value} {v:CV},VR R l l'->l[d]?=some v->∃v',l'[d]?=some v'/\V1 R v v'
 | 0,v::l,v'::l',_,h,e=>by cases e;exact⟨v',rfl,(VR.cons_iff.1 h).1⟩
 | d+1,v::l,v'::l',_,h,e=>by
  rw[Xr]at e;obtain⟨w,h1,h2⟩:=(VR.cons_iff.1 h).2.at e;exact⟨w,by rw[Xr];exact h1,h2⟩
 | _,[],_,_,_,e=>by cases e
 | _,_::_,[],_,h,_=>by cases h
theorem Bvn(R:XR)(v:Value):V1 R (xOf0 v) v:=by
 unfold xOf0;split
 ·exact .b _ .nil
 ·exact .i _ _ .nil
 ·rename_i x;have:x=⟨x.data.toList.toArray⟩:=by simp
  exact this ▸ VR.s _ .nil
 ·exact .pn .nil
 ·exact .sn .nil
 ·exact .mn .nil
 ·exact .cn .nil
 ·exact .fn .nil
 ·exact .n .nil
 ·rename_i g xs ys;split
  ·rename_i h1 h2;have a:xs=([]:List Value).toArray:=by rw[<-h1]
   have c:ys=([]:List Value).toArray:=by rw[<-h2]
   rw[a,c];exact .f g .nil .nil .nil
  ·exact .bad _ .nil
 ·exact .bad _ .nil
theorem Bvo(R:XR)(v:Value):V1 R (xOf1 v) v:=by
 unfold xOf1;split
 ·exact .a _ (Bvn R _) .nil
 ·exact Bvn R v
theorem Bqa(R:XR):∀(l:List Value),VR R (l.map xOf1) l
 | []=>.nil
 | v::l=>VR.cons_iff.2 ⟨Bvo R v,Bqa R l⟩
theorem vOf(R:XR)(v:Value):V1 R (xOfV v) v:=by
 unfold xOfV;split
 ·rename_i l;have:=VR.g (Bqa R l.toList) (VR.nil (R:=R))
  rwa[Ads]at this
 ·rename_i l;have:=VR.t (Bqa R l.toList) (VR.nil (R:=R))
  rwa[Ads]at this
 ·exact Bvo R v
theorem V1.cells{R v v' l}(h:V1 R v v')(hl:v.cells=some l):VR R l v'.cells.toList:=by
 cases h with
 | bad=>cases hl
 | g h1 _=>cases hl;simpa[Value.cells]using h1
 | b=>cases hl;exact .b _ .nil
 | i=>cases hl;exact .i _ _ .nil
 | s=>cases hl;exact .s _ .nil
 | pn=>cases hl;exact .pn .nil
 | p h1=>cases hl;exact .p h1 .nil
 | sn=>cases hl;exact .sn .nil
 | slK h1=>cases hl;exact .slK h1 .nil
 | slU h1=>cases hl;exact .slU h1 .nil
 | mn=>cases hl;exact .mn .nil
 | m h1=>cases hl;exact .m h1 .nil
 | cn=>cases hl;exact .cn .nil
 | c h1=>cases hl;exact .c h1 .nil
 | fn=>cases hl;exact .fn .nil
 | f g h1 h2=>cases hl;exact .f g h1 h2 .nil
 | y h1=>cases hl;exact .y h1 .nil
 | n=>cases hl;exact .n .nil
 | a t h1=>cases hl;exact .a t h1 .nil
 | t h1=>cases hl;exact .t h1 .nil
theorem Bcm{a l}(h:xAllC (a::l)=true):a.isCell=true/\xAllC l=true:=by
 have h':(match a.isCell with|true=>xAllC l|false=>false)=true:=h;cases ha:a.isCell with
 | true=>rw[ha]at h';exact⟨rfl,h'⟩
 | false=>rw[ha]at h';cases h'
theorem V1.single{R v v'}(h:V1 R v v')(hc:v.isCell=true):single v'=true:=by cases h<;>first|rfl|(simp[CV.isCell]at hc)
theorem VR.singles{R:XR}:∀{l:List CV} {l':List Value},VR R l l'->xAllC l=true->∀x∈l',single x=true
 | [],[],_,_,x,hx=>by cases hx
 | v::l,v'::l',h,hc,x,hx=>by
  obtain⟨h1,h2⟩:=VR.cons_iff.1 h;obtain⟨a,b⟩:=Bcm hc;rcases lZ7.1 hx with rfl|hx
  ·exact h1.single a
  ·exact h2.singles b x hx
 | [],_::_,h,_,_,_=>by cases h
 | _::_,[],h,_,_,_=>by cases h
end
section
def EnvR(R:XR)(e:Tr CV)(e':Env):Prop:=∀t v,e.get t=some v->V1 R v (e' t)
theorem EnvR.mono{R R' e e'}(h:EnvR R e e')(hR:XR.le R R'):EnvR R' e e':=fun t v ht=>(h t v ht).mono hR
theorem EnvR.set{R e e'}(h:EnvR R e e'){d v v'}(hv:V1 R v v'):EnvR R (e.set d v) (upd e' d v'):=fun t w ht=>by
 rw[Tr.get_set]at ht;unfold upd;by_cases hd:t=d
 ·rw[if_pos hd]at ht ⊢;cases ht;exact hv
 ·rw[if_neg hd]at ht ⊢;exact h t w ht
def stB:Nat->LoopState
 | 0=>.ready
 | 1=>.busy
 | 2=>.done
 | _=>.exhausted
def Bfx(n:Nat)(fz:Nat×Nat):Prop:=∀i,i<n->(fz.1<=i&&i<fz.2)=false
abbrev Ub:=CV×List (Nat×Option Nat×List CV)×Nat×Nat
def Bzp(R:XR)(c:Nat):Option Nat->List CV->Obj->Prop
 | none,l,o=>∃l' t fz,o = .cells (List.toArray l') t fz/\VR R l l'
 | some n,l,o=>∃l' rest t fz,o = .cells (List.toArray (l'++rest)) t fz/\VR R l l'/\l'.length+rest.length=c*n/\0<n
def Auu(R0:XR)(q:Ub)(v:Value)(Y1:Ro):Prop :=
 ∃R1:XR,XR.le R0 R1/\V1 R1 q.1 v/\(∀x∈q.2.1,∃b c y,R1 x.1=some (b,c)/\Y1 b=some y/\Bzp R1 c x.2.1 x.2.2 y)/\∀j z,R1 j=some z->j<q.2.2.2
def xKeysM(q:Ub):List Nat:=xKeysV q.1++q.2.1.flatMap fun x=>xKeysL x.2.2
def MsgsR(R:XR):List Ub->List (Value->Ro->Prop)->Prop
 | [],[]=>True
 | q::ms,r::Rs=>(∃R0,XR.le R0 R/\(∀j∈xKeysM q,j<q.2.2.1->(R0 j).isSome=true)/\r=Auu R0 q)/\MsgsR R ms Rs
 | _,_=>False
theorem MsgsR.mono{R R':XR}(hR:XR.le R R'):∀{ms:List Ub} {Rs:List (Value->Ro->Prop)},MsgsR R ms Rs->MsgsR R' ms Rs
 | [],[],_=>trivial
 | q::ms,r::Rs,⟨⟨R0,h1,h2,h3⟩,h⟩=>⟨⟨R0,h1.trans hR,h2,h3⟩,MsgsR.mono hR h⟩
theorem MsgsR.len{R:XR}:∀{ms:List Ub} {Rs:List (Value->Ro->Prop)},MsgsR R ms Rs->ms.length=Rs.length
 | [],[],_=>rfl
 | q::ms,r::Rs,⟨_,h⟩=>by rw[lZ9,lZ9,h.len]
theorem MsgsR.app{R:XR}{q:Ub}{r:Value->Ro->Prop}(hq:∃R0,XR.le R0 R/\(∀j∈xKeysM q,j<q.2.2.1->(R0 j).isSome=true)/\r=Auu R0 q):∀{ms:List Ub} {Rs:List (Value->Ro->Prop)},MsgsR R ms Rs->MsgsR R (ms++[q]) (Rs++[r])
 | [],[],_=>⟨hq,trivial⟩
 | _::_,_::_,⟨h0,h⟩=>⟨h0,h.app hq⟩
theorem MsgsR.at{R:XR}:∀{ms:List Ub} {Rs:List (Value->Ro->Prop)} {n:Nat} {r:Value->Ro->Prop},MsgsR R ms Rs->Rs[n]?=some r ->
  ∃q,ms[n]?=some q/\(∃R0,XR.le R0 R/\(∀j∈xKeysM q,j<q.2.2.1->(R0 j).isSome=true)/\r=Auu R0 q)/\MsgsR R (ms.eraseIdx n) (Rs.eraseIdx n)
 | [],[],_,_,_,h=>by cases h
 | q::ms,r0::Rs,0,r,⟨h0,h⟩,e=>by cases e;exact⟨q,rfl,h0,h⟩
 | q::ms,r0::Rs,n+1,r,⟨h0,h⟩,e=>by
  rw[Xr]at e;obtain⟨q',h1,h2,h3⟩:=h.at e;exact⟨q',by rw[Xr];exact h1,h2,h0,h3⟩
structure BornOk(en:List MapEntry)(ck:Nat):Prop where
 at_:∀(i:Nat) (e:MapEntry),en[i]?=some e->e.born=i
 ck:ck=en.length
inductive ObjR(R:XR)(c:Nat):CO->Res->Prop
 | cells {l:List CV} {l':List Value} {t:TypeId} {fz:Nat×Nat}:VR R l l'->Bfx l'.length fz->ObjR R c (.cells l) (.obj (.cells l'.toArray t fz))
 | grow {n:Nat} {l:List CV} {l' rest:List Value} {t:TypeId} {fz:Nat×Nat}:VR R l l'->l'.length+rest.length=c*n->0<n->Bfx (l'.length+rest.length) fz->ObjR R c (.grow n l) (.obj (.cells (l'++rest).toArray t fz))
 | map {es:List (CV×CV)} {en:List MapEntry} {ck:Nat}:VR R (es.map Prod.fst) (en.map MapEntry.key)->VR R (es.map Prod.snd) (en.map MapEntry.val)->BornOk en ck->ObjR R c (.map es) (.obj (.map en.toArray ck))
 | loop {busy n:Nat} {pd:Option Code} {env:Tr CV} {ps:List Tmp} {as_ body:Code} {dk b c':Nat} {L:Loop} {e':Env}:L.state=stB busy->L.pending=pd->EnvOf n L.tmps e'->EnvR R env e'->L.params=ps.toArray->L.assign=as_->L.body=body ->
   R dk=some (b,c')->L.defers=b->ObjR R c (.loop busy pd n env ps as_ body dk) (.obj (.loop L))
 | defd:ObjR R c .defd (.obj (.deferred (some [])))
 | chan:ObjR R c .chan .chan
 | rcv {vs:List CV} {vs':List Value}:VR R vs vs'->ObjR R c (.rcv vs) (.recv vs')
 | crowd {k:Nat} {ms:List Ub} {Rs:List (Value->Ro->Prop)}:MsgsR R ms Rs->ObjR R c (.crowd k ms) (.crowd k Rs)
 | iter {k n b c':Nat} {sn:List Nat}:R k=some (b,c')->ObjR R c (.iter k n sn) (.obj (.mapIter (some b) n sn.toArray n))
theorem ObjR.mono{R R' c o r}(h:ObjR R c o r)(hR:XR.le R R'):ObjR R' c o r:=by
 cases h with
 | cells h1 h2=>exact .cells (h1.mono hR) h2
 | grow h1 h2 h3 h4=>exact .grow (h1.mono hR) h2 h3 h4
 | map h1 h2 h3=>exact .map (h1.mono hR) (h2.mono hR) h3
 | loop h1 h2 h3 h4 h5 h6 h7 h8 h9=>exact .loop h1 h2 h3 (h4.mono hR) h5 h6 h7 (hR _ _ h8) h9
 | defd=>exact .defd
 | chan=>exact .chan
 | rcv h=>exact .rcv (h.mono hR)
 | crowd h=>exact .crowd (h.mono hR)
 | iter h=>exact .iter (hR _ _ h)
def Byh:Obj->Nat×Nat->Obj
 | .cells c t _,f=>.cells c t f
 | o,_=>o
def ObjO(R:XR)(c:Nat)(o:CO)(x:Obj):Prop:=∃f,ObjR R c o (.obj (Byh x f))
theorem ObjO.mono{R R' c o x}(h:ObjO R c o x)(hR:XR.le R R'):ObjO R' c o x:=let ⟨f,h⟩:=h;⟨f,h.mono hR⟩
theorem ObjO.of{R c o x}(h:ObjR R c o (.obj x)):ObjO R c o x:=by
 cases x with
 | cells cs t f=>exact⟨f,h⟩
 | _=>exact⟨(0,0),h⟩
structure MemR(R:XR)(m:Mem)(Y:Ro)(Z Z9:Own)(L:List (Nat×Nat×Res))(G:Own):Prop where
 perm:Z.Perm (L.map Prod.snd++(G++Z9))
 nd:(L.map Prod.fst).Nodup
 own:∀p∈L,∃c o,R p.1=some (p.2.1,c)/\m.M.get p.1=some (.own o)/\ObjR R c o p.2.2
 all:∀k o,m.M.get k=some (.own o)->o ≠ .dead->∃q,(k,q)∈L
 ro:∀k o,m.M.get k=some (.ro o)->∃b c x,R k=some (b,c)/\Y b=some x/\ObjO R c o x
 gar:∀p∈G,∃o,p.2=Res.obj o
 lt:∀k q,R k=some q->k<m.nx
 glob:∀k,k<16->R k=some (k,0)
def MemX(R:XR)(m:Mem)(Y:Ro)(Z Z9:Own):Prop:=∃L G,MemR R m Y Z Z9 L G
section
variable{R:XR}{m:Mem}{Y:Ro}{Z Z9:Own}{L:List (Nat×Nat×Res)}{G:Own}
theorem Bto{Z τ:Own}{x}(h:Z.Perm τ)(hx:x∈τ):∃i:Nat,Z[i]?=some x:=Sr (h.mem_iff.2 hx)
theorem Amx{x x'}:∀{i:Nat} {Z τ:Own},Z.Perm (x::τ)->Z[i]?=some x->(Z.set i x').Perm (x'::τ):=fun {i Z τ} h hi=>by
 have hlt:i<Z.length:=by
  rcases Re i Z.length with h'|h'
  ·exact h'
  ·rw[Sa h']at hi;cases hi
 have b:(Z.set i x').Perm (x'::Z.eraseIdx i):=by
  clear h hi;induction Z generalizing i with
  | nil=>cases hlt
  | cons a Z ih =>
   cases i with
   | zero=>exact .refl _
   | succ i=>exact((ih (by simpa using hlt)).cons a).trans (.swap ..)
 have c:Z.Perm (x::Z.eraseIdx i):=by
  clear h b;induction Z generalizing i with
  | nil=>cases hlt
  | cons a Z ih =>
   cases i with
   | zero=>cases hi;exact .refl _
   | succ i =>
    rw[Xr]at hi;exact((ih hi (by simpa using hlt)).cons a).trans (.swap ..)
 exact b.trans (.cons _ (c.symm.trans h).cons_inv)
theorem Tx{L:List (Nat×Nat×Res)}{p:Nat×Nat×Res}(h:p∈L):∃A B,L=A++p::B:=Bmm h
theorem MemR.at(h:MemR R m Y Z Z9 L G){k o}(hk:m.M.get k=some (.own o))(hd:o ≠ .dead):
  ∃(b c:Nat) (r:Res) (i:Nat),R k=some (b,c)/\Z[i]?=some (b,r)/\ObjR R c o r/\(k,b,r)∈L:=by obtain⟨⟨b,r⟩,hq⟩:=h.all k o hk hd;obtain⟨c,o',d,a,e⟩:=h.own _ hq;simp only at d a e;rw[hk]at a;cases a;obtain⟨i,hi⟩:=Bto h.perm (Pw _ (Rb (f:=Prod.snd) hq));exact⟨b,c,r,i,d,hi,e,hq⟩
theorem Nc(m:Mem)(k:Nat)(o:CO)(j:Nat):(m.put k o).M.get j=if j=k then some (.own o) else m.M.get j:=Tr.get_set ..
theorem Rk(m:Mem)(o:CO)(j:Nat):(m.add o).M.get j=if j=m.nx then some (.own o) else m.M.get j:=Tr.get_set ..
theorem MemR.put(h:MemR R m Y Z Z9 L G){k b c i r r' o'}(hL:(k,b,r)∈L)(hR:R k=some (b,c))(hi:Z[i]?=some (b,r))(ho:ObjR R c o' r'):MemX R (m.put k o') Y (Z.set i (b,r')) Z9:=by
 obtain⟨A,B,rfl⟩:=Tx hL;have nd:=h.nd;simp only[Lo,Je]at nd;have hAB:∀p∈A++B,p.1≠k:=fun p hp e=>by
  rw[Aij]at nd;obtain⟨w,u,v⟩:=nd;rcases Ho.1 hp with hp|hp
  ·exact v p.1 (Rb (f:=Prod.fst) hp) k mC e
  ·exact(Tc.1 u).1 (e ▸ Rb (f:=Prod.fst) hp)
 have mid:∀{x:Nat×Nat×Res} {p},p∈A++x::B->p=x∨p∈A++B:=fun {x p} hp=>by
  rcases Ho.1 hp with hp|hp
  ·exact .inr (Pw _ hp)
  ·rcases lZ7.1 hp with hp|hp
   ·exact .inl hp
   ·exact .inr (Ol _ hp)
 have dim:∀{x:Nat×Nat×Res} {p},p∈A++B->p∈A++x::B:=fun {x p} hp=>(Ho.1 hp).elim (Pw _) fun hp=>Ol _ (lZ0 _ hp);refine⟨A++(k,b,r')::B,G,?_,by simpa using h.nd,fun p hp=>?_,fun j o hj hd=>?_,fun j o hj=>?_,h.gar,h.lt,h.glob⟩
 ·have a:=h.perm;simp only[Lo,Je,Gv,Sz]at a ⊢;exact(Amx (a.trans Alp) hi).trans List.perm_middle.symm
 ·rcases mid hp with rfl|hp
  ·exact⟨c,o',hR,by rw[Nc,if_pos rfl],ho⟩
  ·obtain⟨d,o1,g,n,t⟩:=h.own p (dim hp);exact⟨d,o1,g,by rw[Nc,if_neg (hAB p hp)];exact n,t⟩
 ·rw[Nc]at hj;by_cases hjk:j=k
  ·subst hjk;exact⟨_,Ol _ mC⟩
  ·rw[if_neg hjk]at hj;obtain⟨q,hq⟩:=h.all j o hj hd;rcases mid hq with e|hq
   ·exact absurd (Prod.mk.inj e).1 hjk
   ·exact⟨q,dim hq⟩
 ·rw[Nc]at hj;by_cases hjk:j=k
  ·rw[if_pos hjk]at hj;cases hj
  ·rw[if_neg hjk]at hj;exact h.ro j o hj
theorem MemR.kill(h:MemR R m Y Z Z9 L G){k b o}(hL:(k,b,Res.obj o)∈L):MemX R (m.put k .dead) Y Z Z9:=by
 obtain⟨A,B,rfl⟩:=Tx hL;have nd:=h.nd;simp only[Lo,Je]at nd;have hAB:∀p∈A++B,p.1≠k:=fun p hp e=>by
  rw[Aij]at nd;obtain⟨u,n,t⟩:=nd;rcases Ho.1 hp with hp|hp
  ·exact t p.1 (Rb (f:=Prod.fst) hp) k mC e
  ·exact(Tc.1 n).1 (e ▸ Rb (f:=Prod.fst) hp)
 have dim:∀{p},p∈A++B->p∈A++(k,b,Res.obj o)::B:=fun {p} hp=>(Ho.1 hp).elim (Pw _) fun hp=>Ol _ (lZ0 _ hp);refine⟨A++B,(b,.obj o)::G,?_,?_,fun p hp=>?_,fun j oj hj hd=>?_,fun j oj hj=>?_,fun p hp=>?_,h.lt,h.glob⟩
 ·have a:=h.perm;simp only[Lo,Je,Gv,Sz]at a ⊢;refine a.trans (List.Perm.append_left _ ?_);exact List.perm_middle.symm
 ·rw[Lo];have:(A.map Prod.fst++B.map Prod.fst).Sublist (A.map Prod.fst++k::B.map Prod.fst):=List.Sublist.append_left (Awj ..) _;exact this.nodup nd
 ·obtain⟨c,o1,d,g,i⟩:=h.own p (dim hp);exact⟨c,o1,d,by rw[Nc,if_neg (hAB p hp)];exact g,i⟩
 ·rw[Nc]at hj;by_cases hjk:j=k
  ·rw[if_pos hjk]at hj;cases hj;exact absurd rfl hd
  ·rw[if_neg hjk]at hj;obtain⟨q,hq⟩:=h.all j oj hj hd;rcases Ho.1 hq with hq|hq
   ·exact⟨q,Pw _ hq⟩
   ·rcases lZ7.1 hq with e|hq
    ·exact absurd (Prod.mk.inj e).1 hjk
    ·exact⟨q,Ol _ hq⟩
 ·rw[Nc]at hj;by_cases hjk:j=k
  ·rw[if_pos hjk]at hj;cases hj
  ·rw[if_neg hjk]at hj;exact h.ro j oj hj
 ·rcases lZ7.1 hp with rfl|hp
  ·exact⟨o,rfl⟩
  ·exact h.gar p hp
def XR.add(R:XR)(k:Nat)(q:Nat×Nat):XR:=fun j=>if j=k then some q else R j
theorem XR.add_same{R:XR}{k q}:R.add k q k=some q:=if_pos rfl
theorem MemR.fresh(h:MemR R m Y Z Z9 L G)(q:Nat×Nat):XR.le R (R.add m.nx q):=fun j q' hj=>by
 unfold XR.add;rw[if_neg (Ahn (h.lt j q' hj))];exact hj
theorem MemR.add(h:MemR R m Y Z Z9 L G){b c r o}(ho:ObjR (R.add m.nx (b,c)) c o r):MemX (R.add m.nx (b,c)) (m.add o) Y ((b,r)::Z) Z9:=by
 have hle:=h.fresh (b,c);have hlt:∀p∈L,p.1<m.nx:=fun p hp=>by
  obtain⟨d,o1,a,_⟩:=h.own p hp;exact h.lt _ _ a
 refine⟨(m.nx,b,r)::L,G,h.perm.cons _,Tc.2 ⟨fun hm=>?_,h.nd⟩,fun p hp=>?_,fun j oj hj hd=>?_,fun j oj hj=>?_,h.gar,fun j q hj=>?_,fun j hj=>hle _ _ (h.glob j hj)⟩
 ·obtain⟨p,hp,e⟩:=Iq.1 hm;exact absurd (hlt p hp) (by omega)
 ·rcases lZ7.1 hp with rfl|hp
  ·exact⟨c,o,XR.add_same,by rw[Rk,if_pos rfl],ho⟩
  ·obtain⟨d,o1,a,f,g⟩:=h.own p hp;exact⟨d,o1,hle _ _ a,by rw[Rk,if_neg (Ahn (hlt p hp))];exact f,g.mono hle⟩
 ·rw[Rk]at hj;by_cases hjk:j=m.nx
  ·subst hjk;exact⟨_,Us ..⟩
  ·rw[if_neg hjk]at hj;obtain⟨q,hq⟩:=h.all j oj hj hd;exact⟨q,lZ0 _ hq⟩
 ·rw[Rk]at hj;by_cases hjk:j=m.nx
  ·rw[if_pos hjk]at hj;cases hj
  ·rw[if_neg hjk]at hj;obtain⟨i,d,k,a,f,g⟩:=h.ro j oj hj;exact⟨i,d,k,hle _ _ a,f,g.mono hle⟩
 ·unfold XR.add at hj;by_cases hjk:j=m.nx
  ·subst hjk;exact Aqf _
  ·rw[if_neg hjk]at hj;exact Awu (h.lt j q hj)
theorem MemR.move(h:MemR R m Y Z Z9 L G){k b c i r r' o'}(hL:(k,b,r)∈L)(hi:Z[i]?=some (b,r))(ho:ObjR (R.add m.nx (b,c)) c o' r'):
  MemX (R.add m.nx (b,c)) ((m.put k .dead).add o') Y (Z.set i (b,r')) Z9:=by
 have hle:=h.fresh (b,c);obtain⟨A,B,rfl⟩:=Tx hL;have nd:=h.nd;simp only[Lo,Je]at nd;have hAB:∀p∈A++B,p.1≠k:=fun p hp e=>by
  rw[Aij]at nd;obtain⟨y,v,w⟩:=nd;rcases Ho.1 hp with hp|hp
  ·exact w p.1 (Rb (f:=Prod.fst) hp) k mC e
  ·exact(Tc.1 v).1 (e ▸ Rb (f:=Prod.fst) hp)
 have dim:∀{p},p∈A++B->p∈A++(k,b,r)::B:=fun {p} hp=>(Ho.1 hp).elim (Pw _) fun hp=>Ol _ (lZ0 _ hp);have hlt:∀p∈A++(k,b,r)::B,p.1<m.nx:=fun p hp=>by
  obtain⟨d,o1,a,_⟩:=h.own p hp;exact h.lt _ _ a
 have hk:k<m.nx:=hlt (k,b,r) hL;have get:∀j,((m.put k .dead).add o').M.get j=if j=m.nx then some (.own o') else if j=k then some (.own .dead) else m.M.get j:=fun j=>by
  rw[Rk,Nc];rfl
 refine⟨(m.nx,b,r')::(A++B),G,?_,Tc.2 ⟨fun hm=>?_,?_⟩,fun p hp=>?_,fun j oj hj hd=>?_,fun j oj hj=>?_,h.gar,fun j q hj=>?_,fun j hj=>hle _ _ (h.glob j hj)⟩
 ·have t:=h.perm;simp only[Lo,Je,Gv,Sz]at t ⊢;exact Amx (t.trans Alp) hi
 ·obtain⟨p,hp,e⟩:=Iq.1 hm;exact absurd (hlt p (dim hp)) (by omega)
 ·rw[Lo];have:(A.map Prod.fst++B.map Prod.fst).Sublist (A.map Prod.fst++k::B.map Prod.fst):=List.Sublist.append_left (Awj ..) _;exact this.nodup nd
 ·rcases lZ7.1 hp with rfl|hp
  ·exact⟨c,o',XR.add_same,by rw[get,if_pos rfl],ho⟩
  ·obtain⟨d,o1,a,g,n⟩:=h.own p (dim hp);exact⟨d,o1,hle _ _ a,by rw[get,if_neg (Ahn (hlt p (dim hp))),if_neg (hAB p hp)];exact g,n.mono hle⟩
 ·rw[get]at hj;by_cases hjk:j=m.nx
  ·subst hjk;exact⟨_,Us ..⟩
  ·rw[if_neg hjk]at hj;by_cases hj2:j=k
   ·rw[if_pos hj2]at hj;cases hj;exact absurd rfl hd
   ·rw[if_neg hj2]at hj;obtain⟨q,hq⟩:=h.all j oj hj hd;rcases Ho.1 hq with hq|hq
    ·exact⟨q,lZ0 _ (Pw _ hq)⟩
    ·rcases lZ7.1 hq with e|hq
     ·exact absurd (Prod.mk.inj e).1 hj2
     ·exact⟨q,lZ0 _ (Ol _ hq)⟩
 ·rw[get]at hj;by_cases hjk:j=m.nx
  ·rw[if_pos hjk]at hj;cases hj
  ·rw[if_neg hjk]at hj;by_cases hj2:j=k
   ·rw[if_pos hj2]at hj;cases hj
   ·rw[if_neg hj2]at hj;obtain⟨u,d,x,a,g,n⟩:=h.ro j oj hj;exact⟨u,d,x,hle _ _ a,g,n.mono hle⟩
 ·unfold XR.add at hj;by_cases hjk:j=m.nx
  ·subst hjk;exact Aqf _
  ·rw[if_neg hjk]at hj;exact Awu (h.lt j q hj)
theorem MemR.row(h:MemR R m Y Z Z9 L G){k l}(hk:m.row k=some l):
  ∃b c l' rest t fz,R k=some (b,c)/\Has Y Z b (.cells (l'++rest).toArray t fz)/\VR R l l':=by
 have key:∀{o:CO} {c:Nat} {r:Res},xRowO o=some l->ObjR R c o r->∃l' rest t fz,r = .obj (.cells (l'++rest).toArray t fz)/\VR R l l'/\Bfx (l'.length+rest.length) fz:=by
  intro o c r ho hr;cases hr with
  | @cells _ l' t fz a d=>cases ho;exact⟨l',[],t,fz,by simp,a,by simpa using d⟩
  | grow a d g n=>cases ho;exact⟨_,_,_,_,rfl,a,n⟩
  | map=>cases ho
  | loop=>cases ho
  | defd=>cases ho
  | chan=>cases ho
  | rcv=>cases ho
  | crowd=>cases ho
  | iter=>cases ho
 unfold Mem.row at hk;cases hg:m.M.get k with
 | none=>rw[hg]at hk;cases hk
 | some x =>
  rw[hg]at hk;cases x with
  | own o =>
   have hd:o ≠ .dead:=fun e=>by subst e;cases hk
   obtain⟨b,c,r,i,a,d,g,n⟩:=h.at hg hd;obtain⟨l',rest,t,fz,rfl,j,p⟩:=key hk g;exact⟨b,c,l',rest,t,fz,a,.inr (lZ5 d),j⟩
  | ro o =>
   obtain⟨b,c,x,a,d,f,g⟩:=h.ro k o hg;obtain⟨l',rest,t,fz,e,j,p⟩:=key hk g;cases x with
   | cells cs t' f' =>
    have e':Res.obj (.cells cs t' f) = .obj (.cells (l'++rest).toArray t fz):=e;cases e';exact⟨b,c,l',rest,_,_,a,.inl d,j⟩
   | _=>cases e
end
end
section
def Om(R:XR):Prop:=∀k,k<16->R k=some (k,0)
theorem MemX.globR{R m Y Z Z9}(h:MemX R m Y Z Z9):Om R:=let ⟨_,_,h⟩:=h;h.glob
theorem Ee{R e e'}(h:EnvR R e e')(hg:Om R)(x:Operand):V1 R ((rdK x).run e) (Af e' x):=by
 cases x with
 | tmp t =>
  show V1 R (match e.get t with|some v=>v|none=>.bad) (e' t);cases ht:e.get t with
  | some v=>exact h t v ht
  | none=>exact .bad _ .nil
 | const v=>exact vOf R v
 | global g =>
  have a:(rdK (.global g)).run e=match Nat.ble (Nat.succ g) 16 with|true=>.p g 0|false=>.bad:=by
   simp only[rdK];cases Nat.ble (Nat.succ g) 16<;>rfl
  rw[a];split
  ·rename_i hb;exact .p (hg g (lZ6 hb)) .nil
  ·exact .bad _ .nil
 | func f=>exact .f f .nil .nil .nil
theorem Aac{R:XR}{e:Tr CV}{e':Env}(h:EnvR R e e')(hg:Om R):∀(l:List Operand),VR R ((rdsK l).run e) (l.map (Af e'))
 | []=>.nil
 | x::l=>VR.cons_iff.2 ⟨Ee h hg x,Aac h hg l⟩
def NxV(nx:Next)(v:Value):Prop:=nx = .value v∨(nx = .skip/\v=undef)
structure LogOk(m m':Mem):Prop where
 nx:m.nx<=m'.nx
 ex:∃w,m'.log=w++m.log/\m'.ln=m.ln+w.length/\∀k,k<m.nx->k∉w->m'.M.get k=m.M.get k
 outs:m'.outs=m.outs
theorem LogOk.refl(m:Mem):LogOk m m:=⟨Ii _,⟨[],rfl,rfl,fun _ _ _=>rfl⟩,rfl⟩
theorem LogOk.put(m:Mem)(k:Nat)(o:CO):LogOk m (m.put k o):=⟨Ii _,⟨[k],rfl,rfl,fun j _ hn=>by
 rw[Nc,if_neg (fun e=>hn (by rw[e];exact Us ..))]⟩,rfl⟩
theorem LogOk.add(m:Mem)(o:CO):LogOk m (m.add o):=⟨Nat.le_succ _,⟨[],rfl,rfl,fun j hj _=>by rw[Rk,if_neg (Ahn hj)]⟩,rfl⟩
theorem LogOk.trans{m m' m''}(h:LogOk m m')(h':LogOk m' m''):LogOk m m'':=by obtain⟨w,a,b,c⟩:=h.ex;obtain⟨w',d,e,f⟩:=h'.ex;refine⟨To h.nx h'.nx,⟨w'++w,by rw[d,a,Gv],by rw[e,b,lZ3];omega,fun k hk hn=>?_⟩,h'.outs.trans h.outs⟩;rw[f k (Nn hk h.nx) (fun hm=>hn (Pw _ hm)),c k hk (fun hm=>hn (Ol _ hm))]
def Tj(P:Program)(o:Op)(R:XR)(e':Env)(x:CV):Prop :=
 ∃v,V1 R x v/\∀Y Z dd ty pos af g,wpS P Y (execOp (Af e') ⟨dd,o,ty,pos,af,g⟩) Z (fun nx Z'=>nx = .value v/\Z'=Z)
def Bfv(P:Program)(o:Op)(R:XR)(e':Env)(m:Mem)(x:CV)(m':Mem):Prop :=
 LogOk m m'/\(xMild o=true->m'.nx≠m.nx)/\∀Y Z Z9 dd ty pos af g,MemX R m Y Z Z9->wpS P Y (execOp (Af e') ⟨dd,o,ty,pos,af,g⟩) Z (fun nx Z'=>∃R' v,XR.le R R'/\NxV nx v/\V1 R' x v/\MemX R' m' Y Z' Z9)
theorem Jg{P o R e' x v}(s:Sem Value)(hs:∀dd ty pos af g,execOp (Af e') ⟨dd,o,ty,pos,af,g⟩=s.bind fun v=>Sem.pure (Next.value v))(hv:V1 R x v)(h:∀Y Z,wpS P Y s Z (fun w Z'=>w=v/\Z'=Z)):Tj P o R e' x:=⟨v,hv,fun Y Z dd ty pos af g=>by
 rw[hs,Ad];exact Eu (by rintro w Z' ⟨rfl,rfl⟩;exact⟨rfl,rfl⟩) _ _ (h Y Z)⟩
theorem Auw{P o R e' m x co c ob}(s:Sem Value)(mk:Nat->Value)(hs:∀dd ty pos af g,execOp (Af e') ⟨dd,o,ty,pos,af,g⟩=s.bind fun v=>Sem.pure (Next.value v))(h:∀Y Z Q,(∀r,Q (mk r) ((r,.obj ob)::Z))->wpS P Y s Z Q)(ho:∀R',XR.le R R'->ObjR R' c co (.obj ob))(hx:∀R' r,R' m.nx=some (r,c)->V1 R' x (mk r)):Bfv P o R e' m x (m.add co):=by refine⟨.add m co,fun _=>Ats _,fun Y Z Z9 dd ty pos af g hm=>?_⟩;obtain⟨L,G,hm⟩:=hm;rw[hs,Ad];refine h Y Z _ fun r=>?_;exact⟨R.add m.nx (r,c),mk r,hm.fresh _,.inl rfl,hx _ r XR.add_same,hm.add (ho _ (hm.fresh _))⟩
section
variable{P:Program}{t:TypeId}
theorem Ny{n}(h:xSzT P t=some n):∃i,P.info? t=some i/\i.size=n:=by
 unfold xSzT at h;cases hi:P.info? t with
 | none=>rw[hi]at h;cases h
 | some i=>rw[hi]at h;cases h;exact⟨i,rfl,rfl⟩
theorem Ze{b}(h:xAggT P t=some b):∃d,P.underlying t=some d/\Qv d=b:=by
 unfold xAggT at h;cases hd:P.underlying t with
 | none=>rw[hd]at h;cases h
 | some d=>rw[hd]at h;cases h;exact⟨d,rfl,rfl⟩
theorem Qu{z}(h:xZeroT P t=some z):∃v,Fw P t v/\z=xOfV v:=by
 unfold xZeroT at h;cases hi:P.info? t with
 | none=>rw[hi]at h;cases h
 | some i =>
  rw[hi]at h;simp only at h;cases hz:i.zero with
  | none=>rw[hz]at h;cases h
  | some v=>rw[hz]at h;cases h;exact⟨v,⟨i,hi,hz⟩,rfl⟩
end
theorem Mg{k k'}(h:xKind k k'=true):k=k':=by cases k<;>cases k'<;>first|rfl|cases h
theorem Aao(a b:Int):xEqI a b=(a==b):=by
 cases a<;>cases b<;>simp only[xEqI]
 ·rename_i x y;rw[Alq];simp;omega
 ·rfl
 ·rfl
 ·rename_i x y;rw[Alq];simp
theorem Ajd(a b:Int):xLtI a b=decide (a<b):=by
 cases a<;>cases b<;>simp only[xLtI]
 ·rename_i x y;rw[Alq];simp[Nat.ble_eq];omega
 ·rename_i x y
  symm;rw[decide_eq_false_iff_not];show ¬((x:Int)<_);omega
 ·rename_i x y
  symm;rw[decide_eq_true_iff];show _<(y:Int);omega
 ·rename_i x y;rw[Alq];simp[Nat.ble_eq];omega
theorem not_lt(a b:Int):(!decide (b<a))=decide (a<=b):=by rw[Alq];simp
end
section
section
variable{R:XR}
theorem Anp{v b}(h:V1 R (.b b) v):v = .bool b:=by cases h;rfl
theorem Nz{v k n}(h:V1 R (.i k n) v):v = .int k n:=by cases h;rfl
theorem Yz{v l}(h:V1 R (.s l) v):v = .string ⟨l.toArray⟩:=by cases h;rfl
end
theorem Bdc{x y:List CV}{r:Bool}(h:eqD [] x y=some r):x=[]/\y=[]/\r=true:=by
 have h':eqD0 x y=some r:=h;unfold eqD0 at h';split at h'
 ·cases h';exact⟨rfl,rfl,rfl⟩
 ·cases h'
theorem Avt{k:CK}{ks:List CK}{x y:List CV}{r:Bool}(h:eqD (k::ks) x y=some r):∃a x' b y' p q,x=a::x'/\y=b::y'/\eqC k a b=some p/\eqD ks x' y'=some q/\r=(p&&q):=by
 have h':eqD1 k (eqD ks) x y=some r:=h;unfold eqD1 at h';split at h'
 ·rename_i a x' b y';split at h'
  ·rename_i p q h1 h2;cases h';exact⟨a,x',b,y',p,q,rfl,rfl,h1,h2,by cases p<;>rfl⟩
  ·cases h'
 ·cases h'
theorem Bdb:∀{a b:List CK} {x y:List CV} {r:Bool},eqD (a++b) x y=some r->∃xa xr ya yr p q,x=xa++xr/\y=ya++yr/\xa.length=a.length/\ya.length=a.length/\eqD a xa ya=some p/\eqD b xr yr=some q/\r=(p&&q)
 | [],b,x,y,r,h=>⟨[],x,[],y,true,r,rfl,rfl,rfl,rfl,rfl,h,by simp⟩
 | k::a,b,x,y,r,h=>by
  obtain⟨u,x',v,y',p,q,rfl,rfl,h1,h2,rfl⟩:=Avt h;obtain⟨xa,xr,ya,yr,p',q',rfl,rfl,c,d,e,f,rfl⟩:=Bdb h2;refine⟨u::xa,xr,v::ya,yr,p&&p',q',rfl,rfl,by simp[c],by simp[d],?_,f,by rw[Bool.and_assoc]⟩;show (match eqC k u v,eqD a xa ya with|some r,some q=>some (match r with|true=>q|false=>false)|_,_=>none)=_;rw[h1,e];cases p<;>rfl
theorem Xj:∀(a b:List UInt8),xEqS a b=(a==b)
 | [],[]=>rfl
 | [],_::_=>rfl
 | _::_,[]=>rfl
 | x::a,y::b=>by
  show (Bool.rec false (xEqS a b) (Nat.beq x.toNat y.toNat):Bool)=_;rw[Azt,Xj a b];by_cases h:x.toNat=y.toNat
  ·rw[if_pos h];have:x=y:=UInt8.toNat_inj.1 h;subst this;simp
  ·rw[if_neg h];have:x≠y:=fun e=>h (by rw[e]);simp[this]
theorem Buk(a b:List UInt8):((⟨a.toArray⟩:ByteArray)==⟨b.toArray⟩)=(a==b):=by rw[Aec,ByteArray.toList_eq,ByteArray.toList_eq]
def Bqo(P:Program)(R:XR)(t:TypeId)(xs:List CV)(x:Value):Prop :=
 (∃d,P.underlying t=some d/\Qv d=true/\∃l,x = .agg (List.toArray l)/\VR R xs l)∨(∃d,P.underlying t=some d/\Qv d=false/\∃v,xs=[v]/\V1 R v x)
section
variable{P:Program}{Y:Ro}{R:XR}
theorem Bpx{d:Nat}{t:TypeId}{ks:List CK}(h:deepT P d t=some ks):∃dsc,P.underlying t=some dsc:=by
 cases d with
 | zero=>cases h
 | succ d =>
  unfold deepT at h;cases hu:P.underlying t with
  | none=>rw[hu]at h;cases h
  | some dsc=>exact⟨dsc,rfl⟩
theorem Ark{d z n:Nat}{t:TypeId}{ks:List CK}{l:List Value}{xa xr:List CV}{Z:Own}{Q:Value->Own->Prop}(hd:deepT P d t=some ks)(hz:xSzT P t=some z)(hk:ks.length=z)(hx:xa.length=ks.length)(hv:VR R (xa++xr) (l.drop n))
  (h:∀v,Bqo P R t xa v->Q v Z):wpS P Y (part t l.toArray n) Z Q:=by
 obtain⟨dsc,hu⟩:=Bpx hd;show wpS P Y ((isAgg t).bind _) Z Q;rw[Ad];refine Hi ⟨dsc,hu,rfl⟩ ?_;have b:=hv.len;have htk:VR R xa ((l.drop n).take z):=by
  have:=hv.take z
  rwa[List.take_left' (by omega)]at this
 cases ha:Qv dsc with
 | true =>
  simp only[if_true];show wpS P Y ((sizeOf t).bind _) Z Q;rw[Ad];refine Dx (Ny hz) ?_;refine h _ (.inl ⟨dsc,hu,ha,(l.drop n).take z,?_,htk⟩);simp[Blw]
 | false =>
  simp only[Aii,if_false];have a:ks.length=1:=by
   cases d with
   | zero=>cases hd
   | succ d =>
    unfold deepT at hd;rw[hu]at hd;split at hd
    ·cases hd;rfl
    ·cases hd;rfl
    ·cases hd;rfl
    ·rename_i fs hfs;cases hfs;cases ha
    ·cases hd
  obtain⟨v,rfl⟩:∃v,xa=[v]:=by
   match xa,hx with
   | [v],_=>exact⟨v,rfl⟩
   | [],hx=>simp at hx;omega
   | _::_::_,hx=>simp at hx;omega
  obtain⟨w,hw,hvw⟩:=hv.at (d:=0) (v:=v) rfl;have hw':l.toArray[n]?=some w:=by
   rw[Me];have:(l.drop n)[0]?=l[n]?:=by rw[Ama,Abw]
   rw[<-this];exact hw
  simp only[hw'];exact h w (.inr ⟨dsc,hu,ha,v,rfl,hvw⟩)
theorem Azi:∀(d:Nat) (t:TypeId) (ks:List CK),deepT P d t=some ks->∀(e:Nat),d<=e->∀(xs ys:List CV) (r:Bool) (x y:Value),eqD ks xs ys=some r->Bqo P R t xs x->Bqo P R t ys y ->
  ∀(Z:Own) (Q:Bool->Own->Prop),Q r Z->wpS P Y (Op.equalIn e t x y) Z Q
 | 0,t,ks,h,_,_,_,_,_,_,_,_,_,_,_,_,_=>by cases h
 | d+1,t,ks,h,0,he,_,_,_,_,_,_,_,_,_,_,_=>by omega
 | d+1,t,ks,h,e+1,he,xs,ys,r,x,y,hr,hx,hy,Z,Q,hq=>by
  have one:∀{k:CK} {dsc},P.underlying t=some dsc->Qv dsc=false->ks=[k]->∃a b,V1 R a x/\V1 R b y/\eqC k a b=some r:=by
   intro k dsc hu ha hks;subst hks;obtain⟨a,x',b,y',p,q,rfl,rfl,c,D,E⟩:=Avt hr;obtain⟨rfl,rfl,rfl⟩:=Bdc D;rcases hx with⟨F,g,j,_⟩|⟨F,g,j,v,H,hv⟩
   ·rw[hu]at g;cases g;rw[ha]at j;cases j
   ·rcases hy with⟨G,i,u,_⟩|⟨G,i,u,w,J,hw⟩
    ·rw[hu]at i;cases i;rw[ha]at u;cases u
    ·cases H;cases J;exact⟨_,_,hv,hw,by rw[E,Bool.and_true];exact c⟩
  unfold deepT at h;cases hu:P.underlying t with
  | none=>rw[hu]at h;cases h
  | some dsc =>
   rw[hu]at h;show wpS P Y ((underlying t).bind _) Z Q;rw[Ad];refine Az hu ?_;cases dsc with
   | int k =>
    obtain⟨a,b,ha,hb,hc⟩:=one hu rfl (by simpa using h.symm);unfold eqC at hc;split at hc
    ·rename_i k0 k1 a0 k2 b0 hk0;cases hk0;split at hc
     ·rename_i B C;cases hc;have B:=Mg B;have C:=Mg C;subst B C;rw[Nz ha,Nz hb];simp only[if_true];rw[Aao]at hq;exact hq
     ·cases hc
    ·rename_i hk0;cases hk0
    ·rename_i hk0;cases hk0
    ·cases hc
   | string =>
    obtain⟨a,b,ha,hb,hc⟩:=one hu rfl (by simpa using h.symm);unfold eqC at hc;split at hc
    ·rename_i hk0;cases hk0
    ·cases hc;rw[Yz ha,Yz hb];rw[Xj,<-Buk]at hq;exact hq
    ·rename_i hk0;cases hk0
    ·cases hc
   | bool =>
    obtain⟨a,b,ha,hb,hc⟩:=one hu rfl (by simpa using h.symm);unfold eqC at hc;split at hc
    ·rename_i hk0;cases hk0
    ·rename_i hk0;cases hk0
    ·cases hc;rw[Anp ha,Anp hb];exact hq
    ·cases hc
   | struct fs =>
    simp only at h;split at h
    ·rename_i hst;rcases hx with⟨F,g,j,l,rfl,hl⟩|⟨F,g,j,_⟩
     ·rcases hy with⟨G,i,u,m,rfl,hm⟩|⟨G,i,u,_⟩
      ·show wpS P Y (Sem.bind program _) Z Q;rw[Ad];show wpS P Y (if P.stoodInHeld t then _ else _) Z Q;rw[if_neg (by simp[hst])];have key:∀(gs:List Field) (n:Nat) (ks:List CK) (xs ys:List CV) (r:Bool) (K:(Option Bool×Unit)->Own->Prop),deepF P (deepT P d) n gs=some ks->eqD ks xs ys=some r->VR R xs (l.drop n)->VR R ys (m.drop n) ->
         K (if r=true then none else some false,()) Z->wpS P Y (forIn gs ((none,()):Option Bool×Unit) fun (f:Field) (__s:Option Bool×Unit) =>
          if f.name ≠ "_" then do
           let __do_lift <-part f.type l.toArray f.offset
           let __do_lift_1 <-part f.type m.toArray f.offset
           let __do_lift <-Op.equalIn e f.type __do_lift __do_lift_1
           if (!__do_lift)=true then pure (ForInStep.done (some false,())) else pure (ForInStep.yield (none,()))
          else pure (ForInStep.yield (none,()))) Z K:=by
        intro gs;induction gs with
        | nil =>
         intro n ks xs ys r K c D E I hK;cases c;obtain⟨_,_,rfl⟩:=Bdc D;exact hK
        | cons f gs ih =>
         intro n ks xs ys r K c D E I hK;unfold deepF at c;split at c
         ·rename_i a z B C g3 g4;split at c
          ·rename_i g5;unfold xCatO at c;split at c
           ·rename_i a' ks2 H g6;cases H;cases c;obtain⟨xa,xr,ya,yr,p,q,rfl,rfl,M,N,O,T,rfl⟩:=Bdb D;have hlz:=lZ8 g5;have L:=lZ8 C;rw[Beb];show wpS P Y (Sem.bind _ _) Z K;rw[Ad,if_pos (by simpa using B)];show wpS P Y ((part f.type l.toArray f.offset).bind _) Z _;rw[Ad,L];refine Ark g3 g4 hlz M E fun v hv=>?_;show wpS P Y ((part f.type m.toArray n).bind _) Z _;rw[Ad];refine Ark g3 g4 hlz N I fun w hw=>?_;show wpS P Y ((Op.equalIn e f.type v w).bind _) Z _;rw[Ad];refine Azi d f.type a g3 e (by omega) xa ya p v w O hv hw Z _ ?_;cases p with
            | false=>exact hK
            | true =>
             refine ih (n+z) ks2 xr yr q K g6 T ?_ ?_ ?_
             ·have:=E.drop z;rw[List.drop_left' (by omega),Aor]at this;exact this
             ·have:=I.drop z;rw[List.drop_left' (by omega),Aor]at this;exact this
             ·simpa using hK
           ·cases c
          ·cases c
         ·cases c
       have hfs:fs=fs.toList.toArray:=by simp
       rw[hfs];simp only[Bdt];show wpS P Y (Sem.bind _ _) Z Q;rw[Ad];refine key fs.toList 0 ks xs ys r _ h hr hl hm ?_;cases r with
       | true=>exact hq
       | false=>exact hq
      ·rw[hu]at i;cases i;cases u
     ·rw[hu]at g;cases g;cases j
    ·cases h
   | _=>cases h
end
end
section
section
variable{P:Program}{R:XR}{e:Tr CV}{e':Env}{m m':Mem}{x:CV}
theorem Azb{v k off}(h:V1 R (.p k off) v):∃b c,R k=some (b,c)/\v = .pointer (some ⟨b,off,none⟩):=by cases h with|p h1 _=>exact⟨_,_,h1,rfl⟩
theorem Aem{v l}(h:V1 R (.g l) v):∃l',VR R l l'/\v = .agg l'.toArray:=by cases h with|g h1 _=>exact⟨_,h1,rfl⟩
theorem Cbc{v l}(h:V1 R (.t l) v):∃l',VR R l l'/\v = .tuple l'.toArray:=by cases h with|t h1 _=>exact⟨_,h1,rfl⟩
theorem Byv{v k}(h:V1 R (.m k) v):∃b c,R k=some (b,c)/\v = .map (some b):=by cases h with|m h1 _=>exact⟨_,_,h1,rfl⟩
theorem Bjc{v k}(h:V1 R (.c k) v):∃b c,R k=some (b,c)/\v = .chan (some b):=by cases h with|c h1 _=>exact⟨_,_,h1,rfl⟩
def Yb(kn:Bool)(c d:Nat):Nat:=match kn with
 | true=>c
 | false=>d-c
theorem Za{v k off ln c kn}(h:V1 R (.sl k off ln kn c) v):∃b d,R k=some (b,d)/\v = .slice (some ⟨b,off,none⟩) ln (Yb kn c d):=by
 cases h with
 | slK h1 _=>exact⟨_,_,h1,rfl⟩
 | slU h1 _=>exact⟨_,_,h1,rfl⟩
def Jc(P:Program)(o:Op):Prop:=∀R e e' m x m',EnvR R e e'->Om R->(opK P o).run e m = .v x m'->(m'=m/\Tj P o R e' x)∨Bfv P o R e' m x m'
theorem Hz{x y m m'}(h:OR.v x m = .v y m'):x=y/\m=m':=by cases h;exact⟨rfl,rfl⟩
theorem Bhg(a:Operand):Jc P (.move a):=fun R e e' m x m' he hg h=>by
 obtain⟨rfl,rfl⟩:=Hz h;exact .inl ⟨rfl,_,Ee he hg a,fun Y Z dd ty pos af g=>⟨rfl,rfl⟩⟩
theorem Avz(a:Operand):Jc P (.assign a):=fun R e e' m x m' he hg h=>by
 obtain⟨rfl,rfl⟩:=Hz h;exact .inl ⟨rfl,_,Ee he hg a,fun Y Z dd ty pos af g=>⟨rfl,rfl⟩⟩
theorem Bhh(c a b:Operand):Jc P (.pick c a b):=fun R e e' m x m' he hg h=>by
 have hc:=Ee he hg c;have h':(match (rdK c).run e with | .b true=>OR.v ((rdK a).run e) m | .b false=>.v ((rdK b).run e) m|_=>.bad) = .v x m':=h;split at h'
 ·rename_i hb;rw[hb]at hc;obtain⟨rfl,rfl⟩:=Hz h';refine .inl ⟨rfl,_,Ee he hg a,fun Y Z dd ty pos af g=>?_⟩;show wpS P Y (do pure (Next.value (if <-asBool (Af e' c) then Af e' a else Af e' b)):Sem Next) Z _;rw[Anp hc];exact⟨rfl,rfl⟩
 ·rename_i hb;rw[hb]at hc;obtain⟨rfl,rfl⟩:=Hz h';refine .inl ⟨rfl,_,Ee he hg b,fun Y Z dd ty pos af g=>?_⟩;show wpS P Y (do pure (Next.value (if <-asBool (Af e' c) then Af e' a else Af e' b)):Sem Next) Z _;rw[Anp hc];exact⟨rfl,rfl⟩
 ·cases h'
theorem Blm(t:TypeId)(a:Operand):Jc P (.unOp .not t a):=fun R e e' m x m' he hg h=>by
 have ha:=Ee he hg a;have h':(match (rdK a).run e with | .b v=>OR.v (.b !v) m|_=>.bad) = .v x m':=h;split at h'
 ·rename_i v hb;rw[hb]at ha;obtain⟨rfl,rfl⟩:=Hz h';exact .inl ⟨rfl,Jg (Op.unary .not (Af e' a)) (fun _ _ _ _ _=>rfl) (.b _ .nil) fun Y Z=>by rw[Anp ha];exact⟨rfl,rfl⟩⟩
 ·cases h'
theorem Bll(t:TypeId)(a:Operand):Jc P (.unOp .neg t a):=fun R e e' m x m' he hg h=>by
 have ha:=Ee he hg a;have h':(match (rdK a).run e with | .i k v=>OR.v (.i k (k.wrap (0-v))) m|_=>.bad) = .v x m':=h;split at h'
 ·rename_i k v hb;rw[hb]at ha;obtain⟨rfl,rfl⟩:=Hz h';exact .inl ⟨rfl,Jg (Op.unary .neg (Af e' a)) (fun _ _ _ _ _=>rfl) (.i _ _ .nil) fun Y Z=>by rw[Nz ha];exact⟨rfl,rfl⟩⟩
 ·cases h'
theorem Aok(a:Operand):Jc P (.nilCheck a):=fun R e e' m x m' he hg h=>by
 have ha:=Ee he hg a;have h':(match (rdK a).run e with | .p k off=>OR.v (.p k off) m|_=>.bad) = .v x m':=h;split at h'
 ·rename_i k off hb;rw[hb]at ha;obtain⟨rfl,rfl⟩:=Hz h';obtain⟨b,c,d,f⟩:=Azb ha;refine .inl ⟨rfl,_,.p d .nil,fun Y Z dd ty pos af g=>?_⟩;unfold execOp;simp only[f];exact⟨rfl,rfl⟩
 ·cases h'
theorem Aeh(he:EnvR R e e')(hg:Om R)(xs:Array Operand):∃vs:List Value,VR R ((rdsK xs.toList).run e) vs/\xs.map (Af e')=vs.toArray:=by refine⟨_,Aac he hg xs.toList,?_⟩;rw[<-List.map_toArray,Ads]
theorem Aoj(f:FuncId)(xs ys:Array Operand):Jc P (.makeFunc (.func f) xs ys):=fun R e e' m x m' he hg h=>by
 obtain⟨rfl,rfl⟩:=Hz h;obtain⟨vs,a,b⟩:=Aeh he hg xs;obtain⟨ws,c,d⟩:=Aeh he hg ys;refine .inl ⟨rfl,_,.f f a c .nil,fun Y Z dd ty pos af g=>?_⟩;show wpS P Y ((Instr.makeFunc (.func f) (xs.map (Af e')) (ys.map (Af e'))).bind fun v=>Sem.pure (Next.value v)) Z _;rw[b,d];exact⟨rfl,rfl⟩
theorem Atj(a:Operand)(i:Nat):Jc P (.extract a i):=fun R e e' m x m' he hg h=>by
 have ha:=Ee he hg a;have h':(match (rdK a).run e with | .t l=>xVOf m (xNth i l)|_=>.bad) = .v x m':=h;split at h'
 ·rename_i l hb;rw[hb]at ha;rw[Aep]at h';cases hi:l[i]? with
  | none=>rw[hi]at h';cases h'
  | some w =>
   rw[hi]at h';obtain⟨rfl,rfl⟩:=Hz h';obtain⟨l',b,c⟩:=Cbc ha;obtain⟨v,d,f⟩:=b.at hi;exact .inl ⟨rfl,Jg (Instr.extract (Af e' a) i) (fun _ _ _ _ _=>rfl) f fun Y Z=>by rw[c];simp only[Instr.extract,Me,d];exact⟨rfl,rfl⟩⟩
 ·cases h'
theorem Bqt{op t k a b w}(h:binN op k a b=some w):∃v,V1 R w v/\binOp op t (.int k a) (.int k b)=pure v:=by
 cases op<;>simp only[binN,Option.some.injEq]at h<;>first|(cases h;done)|skip
 case quo =>
  split at h
  ·cases h
  ·rename_i hb;have c:b≠0:=fun c=>by subst c;cases hb
   cases h;exact⟨_,.i _ _ .nil,by simp only[binOp,ne_eq,not_true,if_false];unfold Op.intDiv;rw[if_neg c]⟩
 case rem =>
  split at h
  ·cases h
  ·rename_i hb;have c:b≠0:=fun c=>by subst c;cases hb
   cases h;exact⟨_,.i _ _ .nil,by simp only[binOp,ne_eq,not_true,if_false];unfold Op.intDiv;rw[if_neg c]⟩
 all_goals subst h
 all_goals first
  | exact⟨_,.i _ _ .nil,by simp only[binOp,ne_eq,not_true,if_false];rfl⟩
  | exact⟨_,.b _ .nil,by rw[Aao];simp only[binOp,ne_eq,not_true,if_false];rfl⟩
  | exact⟨_,.b _ .nil,by rw[Ajd];simp only[binOp,ne_eq,not_true,if_false];rfl⟩
  | exact⟨_,.b _ .nil,by rw[Ajd,not_lt];simp only[binOp,ne_eq,not_true,if_false];rfl⟩
theorem Bge(op:BinOp)(k:IntKind)(a b:Int)(w:CV)(h:(binKN op).run k a b=some w):binN op k a b=some w:=by cases op<;>first|exact h|cases h
theorem Afb{op t t' a b w v u z}(ha:Af e' a=u)(hb:Af e' b=z)(hg:eqGuard op t a b u z=pure ())(hv:V1 R w v)(h:binOp op t u z=pure v):Tj P (.binOp op t a b t') R e' w :=
 Jg (do eqGuard op t a b (Af e' a) (Af e' b);binOp op t (Af e' a) (Af e' b)) (fun _ _ _ _ _=>rfl) hv fun Y Z=>by rw[ha,hb,hg,h];exact⟨rfl,rfl⟩
theorem Atn{d:Option TypeDesc}(h:xIsSl d=true):∃el,d=some (.slice el):=by
 unfold xIsSl at h;split at h
 ·exact⟨_,rfl⟩
 ·cases h
theorem Atm{d:Option TypeDesc}(h:xIsFn d=true):∃x y z,d=some (.func x y z):=by
 unfold xIsFn at h;split at h
 ·exact⟨_,_,_,rfl⟩
 ·cases h
theorem Bst{d:Option TypeDesc}{b:Operand}(h:xIsNf d b=true):(∃ms,d=some (.interface ms))/\∃c,b = .const c:=by
 unfold xIsNf at h;split at h
 ·exact⟨⟨_,rfl⟩,_,rfl⟩
 ·cases h
theorem eq_of{t t':TypeId}{a b:Operand}{r:Bool}{u z:Value}(ha:Af e' a=u)(hb:Af e' b=z)(hg:∀op,eqGuard op t a b u z=pure ())
    (h1:binOp .eql t u z=(Op.equal t u z).bind fun r=>Sem.pure (.bool r)) (h2:binOp .neq t u z=(Op.equal t u z).bind fun r=>Sem.pure (.bool (!r)))
    (hw:∀Y Z (Q:Bool->Own->Prop),Q r Z->wpS P Y (Op.equal t u z) Z Q):Tj P (.binOp .eql t a b t') R e' (.b r)/\Tj P (.binOp .neq t a b t') R e' (.b !r) :=
  ⟨Jg (do eqGuard .eql t a b (Af e' a) (Af e' b);binOp .eql t (Af e' a) (Af e' b)) (fun _ _ _ _ _=>rfl) (.b _ .nil) fun Y Z=>by
      rw[ha,hb,hg,h1];show wpS P Y ((Op.equal t u z).bind _) Z _;rw[Ad];exact hw Y Z _ ⟨rfl, rfl⟩,
   Jg (do eqGuard .neq t a b (Af e' a) (Af e' b);binOp .neq t (Af e' a) (Af e' b)) (fun _ _ _ _ _ => rfl) (.b _ .nil) fun Y Z => by
      rw[ha,hb,hg,h2];show wpS P Y ((Op.equal t u z).bind _) Z _;rw[Ad];exact hw Y Z _ ⟨rfl,rfl⟩⟩
theorem Bfr{t t':TypeId}{a b:Operand}{u z:CV}{v w:Value}{r:Bool}(h:xEqW (xIsSl (P.underlying t)) (xIsFn (P.underlying t)) (xIsNf (P.underlying t) b) u z=some r)(hv:V1 R u v)(hw:V1 R z w)(ha:Af e' a=v)(hb:Af e' b=w) :
  Tj P (.binOp .eql t a b t') R e' (.b r)/\Tj P (.binOp .neq t a b t') R e' (.b !r):=by
 have sl:∀{el:TypeId} {x y:Option Addr} {g e i f:Nat} {r:Bool},P.underlying t=some (.slice el)->(x=none/\r=y.isNone∨y=none/\r=x.isNone)->Af e' a = .slice x g e->Af e' b = .slice y i f ->
   Tj P (.binOp .eql t a b t') R e' (.b r)/\Tj P (.binOp .neq t a b t') R e' (.b !r):=by
  intro el x y g e i f r hu hx ha hb;refine eq_of ha hb (fun op=>by cases op<;>rfl) rfl rfl fun Y Z Q hq=>?_
  show wpS P Y ((underlying t).bind _) Z Q;rw[Ad];refine Az hu ?_;rcases hx with⟨rfl,rfl⟩|⟨rfl,rfl⟩
  ·exact hq
  ·cases x with
   | none=>exact hq
   | some x=>exact hq
 unfold xEqW at h;split at h
 ·cases h;rw[Yz hv]at ha;rw[Yz hw]at hb;refine⟨Afb ha hb Rz (.b _ .nil) ?_,Afb ha hb Rz (.b _ .nil) ?_⟩
  ·rw[Xj];simp only[binOp,Op.stringOp,ByteArray.toList_eq]
  ·rw[Xj];simp only[binOp,Op.stringOp,ByteArray.toList_eq]
 ·split at h
  ·rename_i hs;cases h;obtain⟨el,hu⟩:=Atn hs;cases hv;cases hw;exact sl hu (.inl ⟨rfl,rfl⟩) ha hb
  ·cases h
 ·split at h
  ·rename_i hs;cases h;obtain⟨el,hu⟩:=Atn hs;obtain⟨j,k,_,d⟩:=Za hv;cases hw;subst d;exact sl hu (.inr ⟨rfl,rfl⟩) ha hb
  ·cases h
 ·split at h
  ·rename_i hs;cases h;obtain⟨el,hu⟩:=Atn hs;obtain⟨j,k,_,d⟩:=Za hw;cases hv;subst d;exact sl hu (.inl ⟨rfl,rfl⟩) ha hb
  ·cases h
 ·split at h
  ·rename_i hs;cases h;obtain⟨_,_,_,hu⟩:=Atm hs;cases hv;cases hw;refine eq_of ha hb (fun op=>by cases op<;>rfl) rfl rfl fun Y Z Q hq=>?_
   show wpS P Y ((underlying t).bind _) Z Q;rw[Ad];exact Az hu hq
  ·cases h
 ·split at h
  ·rename_i hs;cases h;obtain⟨_,_,_,hu⟩:=Atm hs;cases hv;cases hw;refine eq_of ha hb (fun op=>by cases op<;>rfl) rfl rfl fun Y Z Q hq=>?_
   show wpS P Y ((underlying t).bind _) Z Q;rw[Ad];exact Az hu hq
  ·cases h
 ·split at h
  ·rename_i hs;cases h;obtain⟨_,_,_,hu⟩:=Atm hs;cases hv;cases hw;refine eq_of ha hb (fun op=>by cases op<;>rfl) rfl rfl fun Y Z Q hq=>?_
   show wpS P Y ((underlying t).bind _) Z Q;rw[Ad];exact Az hu hq
  ·cases h
 ·split at h
  ·rename_i hs;cases h;obtain⟨⟨ms,hu⟩,c,rfl⟩:=Bst hs;cases hv;cases hw;refine eq_of ha hb (fun op=>by cases op<;>cases a<;>rfl) rfl rfl fun Y Z Q hq=>?_
   show wpS P Y ((underlying t).bind _) Z Q;rw[Ad];exact Az hu hq
  ·cases h
 ·cases h
theorem Adl{t ks}(h:flatT P t=some ks):∃fs:Array Field,P.underlying t=some (.struct fs)/\P.stoodInHeld t=false/\P.eqGuardType P.depth t=false/\flatK P 0 fs.toList=some ks:=by
 unfold flatT at h;split at h
 ·rename_i fs h1 h2 h3;exact⟨fs,h3,h1,h2,h⟩
 ·cases h
theorem Ban{n f fs ks}(h:flatK P n (f::fs)=some ks):∃k l,ks=k::l/\f.name ≠ "_"/\f.offset=n/\P.underlying f.type=some (.int k)/\flatK P (n+1) fs=some l:=by
 unfold flatK at h;split at h
 ·rename_i k l h1 h2 h3 h4;cases h;exact⟨k,l,rfl,by simpa using h1,lZ8 h2,h3,h4⟩
 ·cases h
theorem Aku{k ks x y r}(h:eqF (k::ks) x y=some r):∃a x' b y' r',x = .i k a::x'/\y = .i k b::y'/\eqF ks x' y'=some r'/\r=(a==b&&r'):=by
 replace h:eqF1 k (eqF ks) x y=some r:=h;unfold eqF1 at h;split at h
 ·split at h
  ·rename_i k1 a x' k2 b y' _ _ h1 h2;cases hr:eqF ks x' y' with
   | none=>rw[hr]at h;cases h
   | some r' =>
    rw[hr]at h;simp only[Option.some.injEq]at h;rw[<-Mg h1,<-Mg h2];exact⟨a,x',b,y',r',rfl,rfl,hr,by rw[<-h,Aao];cases (a==b)<;>rfl⟩
  ·cases h
 ·cases h
theorem Akv:∀(fs:List Field) (n:Nat) (ks:List IntKind) (x y:List CV) (xs ys:List Value) (r:Bool),flatK P n fs=some ks->eqF ks x y=some r->VR R x (xs.drop n)->VR R y (ys.drop n)->∃ps qs,EqF P xs.toArray ys.toArray fs ps qs/\r=decide (ps=qs)
 | [],n,ks,x,y,xs,ys,r,h1,h2,h3,h4=>by
  cases h1;replace h2:eqF0 x y=some r:=h2;unfold eqF0 at h2;split at h2
  ·cases h2;exact⟨[],[],trivial,rfl⟩
  ·cases h2
 | f::fs,n,ks,x,y,xs,ys,r,h1,h2,h3,h4=>by
  obtain⟨k,l,rfl,hn,ho,hk,v⟩:=Ban h1;obtain⟨a,x',b,y',r',rfl,rfl,B,C⟩:=Aku h2;have hd:∀{z:List CV} {zs:List Value} {c:Int},VR R (.i k c::z) (zs.drop n)->zs[n]?=some (.int k c)/\VR R z (zs.drop (n+1)):=fun {z zs c} h=>by
   cases hz:zs.drop n with
   | nil=>rw[hz]at h;cases h
   | cons w ws =>
    rw[hz]at h;obtain⟨d,e⟩:=VR.cons_iff.1 h;have g:=Nz d;subst g;have j:zs[n]?=some (.int k c):=by
     have:=congrArg List.head? hz;simpa using this
    have m:zs.drop (n+1)=ws:=by
     have:=congrArg List.tail hz;simpa using this
    exact⟨j,by rw[m];exact e⟩
  obtain⟨d,e⟩:=hd h3;obtain⟨p,q⟩:=hd h4;obtain⟨ps,qs,t,u⟩:=Akv fs (n+1) l x' y' xs ys r' v B e q;refine⟨a::ps,b::qs,⟨⟨hn,k,hk,by rw[ho];simpa using d,by rw[ho];simpa using p⟩,t⟩,?_⟩;rw[C,u];by_cases hab:a=b
  ·subst hab;simp
  ·have:(a==b)=false:=by simpa using hab
   rw[this];simp[hab]
theorem Cco{t t':TypeId}{a b:Operand}{ks:List CK}{op:BinOp}{p q:List CV}{v:CV}{u z:Value}(hd:deepG P t=some ks)(hr:(binKG op).run ks p q=some v)(hu:V1 R (.g p) u)(hz:V1 R (.g q) z)(ha:Af e' a=u)(hb:Af e' b=z) :
  Tj P (.binOp op t a b t') R e' v:=by
 obtain⟨p',c,d⟩:=Aem hu;obtain⟨q',e,f⟩:=Aem hz;rw[d]at ha;rw[f]at hb;unfold deepG at hd;split at hd
 ·rename_i fs h1 h2;have ag:∀{xs:List CV} {l:List Value},VR R xs l->Bqo P R t xs (.agg l.toArray):=fun h=>.inl ⟨_,h2,rfl,_,rfl,h⟩;have key:∀{r:Bool} {Z:Own} {Y:Ro} {Q:Bool->Own->Prop},eqD ks p q=some r->Q r Z->wpS P Y (Op.equal t (.agg p'.toArray) (.agg q'.toArray)) Z Q:=fun {r Z Y Q} hr hq =>
   Azi 100 t ks hd 10000 (by decide) p q r _ _ hr (ag c) (ag e) Z Q hq
  cases op<;>first|(cases hr;done)|skip
  ·have hr':(match eqD ks p q with|some r=>some (CV.b r)|none=>none)=some v:=hr;cases h3:eqD ks p q with
   | none=>rw[h3]at hr';cases hr'
   | some r =>
    rw[h3]at hr';cases hr';exact Jg (do eqGuard .eql t a b (Af e' a) (Af e' b);binOp .eql t (Af e' a) (Af e' b)) (fun _ _ _ _ _=>rfl) (.b _ .nil) fun Y Z=>by
     rw[ha,hb];show wpS P Y (Sem.bind (eqGuard .eql t a b (.agg p'.toArray) (.agg q'.toArray)) _) Z _;rw[Ad];show wpS P Y (if (!P.eqGuardType P.depth t)=true then _ else _) Z _;rw[if_pos (by simp[h1])];show wpS P Y ((Op.equal t (.agg p'.toArray) (.agg q'.toArray)).bind _) Z _;rw[Ad];exact key h3 ⟨rfl,rfl⟩
  ·have hr':(match eqD ks p q with|some r=>some (CV.b !r)|none=>none)=some v:=hr;cases h3:eqD ks p q with
   | none=>rw[h3]at hr';cases hr'
   | some r =>
    rw[h3]at hr';cases hr';exact Jg (do eqGuard .neq t a b (Af e' a) (Af e' b);binOp .neq t (Af e' a) (Af e' b)) (fun _ _ _ _ _=>rfl) (.b _ .nil) fun Y Z=>by
     rw[ha,hb];show wpS P Y (Sem.bind (eqGuard .neq t a b (.agg p'.toArray) (.agg q'.toArray)) _) Z _;rw[Ad];show wpS P Y (if (!P.eqGuardType P.depth t)=true then _ else _) Z _;rw[if_pos (by simp[h1])];show wpS P Y ((Op.equal t (.agg p'.toArray) (.agg q'.toArray)).bind _) Z _;rw[Ad];exact key h3 ⟨rfl,rfl⟩
 ·cases hd
theorem Ccp{t t':TypeId}{a b:Operand}{op:BinOp}{u z:CV}{v:CV}{v1 v2:Value}(hr:(binKW (xIsSl (P.underlying t)) (xIsFn (P.underlying t)) (xIsNf (P.underlying t) b) op).run u z=some v)(hu:V1 R u v1)(hz:V1 R z v2)(ha:Af e' a=v1)(hb:Af e' b=v2) :
  Tj P (.binOp op t a b t') R e' v:=by
 cases op<;>first|(cases hr;done)|skip
 ·have hr':catW u z=some v:=hr;unfold catW at hr';split at hr'
  ·rename_i a0 b0;split at hr'
   ·rename_i hl;cases hr';rw[Yz hu]at ha;rw[Yz hz]at hb;have hl:=lZ6 hl;rw[Ig,Ig]at hl;replace hl:a0.length+b0.length<=1000000:=hl;refine Afb ha hb Rz (v:=.string ⟨(xApp a0 b0).toArray⟩) (.s _ .nil) ?_;rw[Lu];simp only[binOp,Op.stringOp];rw[if_neg (by
     have c:(⟨a0.toArray⟩:ByteArray).size=a0.length:=rfl;have d:(⟨b0.toArray⟩:ByteArray).size=b0.length:=rfl;have e:IntKind.i64.max=9223372036854775807:=rfl;rw[c,d,e];omega)]
    congr 2
   ·cases hr'
  ·cases hr'
 ·have hr':(match xEqW (xIsSl (P.underlying t)) (xIsFn (P.underlying t)) (xIsNf (P.underlying t) b) u z with|some r=>some (CV.b r)|none=>none)=some v:=hr;cases h3:xEqW (xIsSl (P.underlying t)) (xIsFn (P.underlying t)) (xIsNf (P.underlying t) b) u z with
  | none=>rw[h3]at hr';cases hr'
  | some r=>rw[h3]at hr';cases hr';exact(Bfr h3 hu hz ha hb).1
 ·have hr':(match xEqW (xIsSl (P.underlying t)) (xIsFn (P.underlying t)) (xIsNf (P.underlying t) b) u z with|some r=>some (CV.b !r)|none=>none)=some v:=hr;cases h3:xEqW (xIsSl (P.underlying t)) (xIsFn (P.underlying t)) (xIsNf (P.underlying t) b) u z with
  | none=>rw[h3]at hr';cases hr'
  | some r=>rw[h3]at hr';cases hr';exact(Bfr h3 hu hz ha hb).2
theorem Bqu{op : BinOp}{t t' : TypeId}{a b : Operand}(he : EnvR R e e')(hg : Om R)(h : (match (rdK a).run e, (rdK b).run e with
        | .i k a,.i k' b=>match xKind k k' with
          | true=>match (binKN op).run k a b with|some v=>OR.v v m|none=>.bad
          | false=>.bad
        | .g a,.g b=>match deepG P t with
          | some ks=>match (binKG op).run ks a b with|some v=>.v v m|none=>.bad
          | none=>.bad
        | u,z=>match (binKW (xIsSl (P.underlying t)) (xIsFn (P.underlying t)) (xIsNf (P.underlying t) b) op).run u z with|some v=>.v v m|none=>.bad) = .v x m'):m'=m/\Tj P (.binOp op t a b t') R e' x:=by
  have ha:=Ee he hg a;have hb:=Ee he hg b;revert ha hb h;generalize (rdK a).run e=u,(rdK b).run e=z;intro h ha hb;split at h
  · rename_i k u k' z
    split at h
    · rename_i hk
      have hk:=Mg hk;subst hk;cases hw:(binKN op).run k u z with
      | none=>rw[hw]at h;cases h
      | some w =>
        rw[hw]at h;obtain⟨rfl,rfl⟩:=Hz h;obtain⟨v,c,d⟩:=Bqt (R:=R) (t:=t) (Bge _ _ _ _ _ hw);exact⟨rfl,Afb (Nz ha) (Nz hb) Dh c d⟩
    · cases h
  · rename_i p q
    cases hd:deepG P t with
    | none=>rw[hd]at h;cases h
    | some ks =>
      rw[hd]at h;cases hw:(binKG op).run ks p q with
      | none=>simp only[hw]at h;cases h
      | some w =>
        simp only[hw]at h;obtain⟨rfl,rfl⟩:=Hz h;exact⟨rfl,Cco hd hw ha hb rfl rfl⟩
  · cases hw:(binKW (xIsSl (P.underlying t)) (xIsFn (P.underlying t)) (xIsNf (P.underlying t) b) op).run u z with
    | none=>rw[hw]at h;cases h
    | some w =>
      rw[hw]at h;obtain⟨rfl,rfl⟩:=Hz h;exact⟨rfl,Ccp hw ha hb rfl rfl⟩
theorem Bli(op:BinOp)(t:TypeId)(a b:Operand)(t':TypeId):Jc P (.binOp op t a b t'):=fun R e e' m x m' he hg h=>by
 have ha:=Ee he hg a;have hb:=Ee he hg b;unfold opK at h;simp only at h;split at h
 ·split at h
  ·have h':(match (rdK a).run e,(rdK b).run e with | .i k u,.i _ (.ofNat n)=>OR.v (.i k (k.wrap (u*2^(min n k.bits)))) m|_,_=>.bad) = .v x m':=h;split at h'
   ·rename_i k u k' n hu hz;obtain⟨rfl,rfl⟩:=Hz h';rw[hu]at ha;rw[hz]at hb;refine .inl ⟨rfl,Afb (Nz ha) (Nz hb) Dh (.i _ _ .nil) ?_⟩;show Op.shift .shl k u k' (Int.ofNat n)=_;unfold Op.shift;rw[if_neg (show ¬(Int.ofNat n<0) from Int.not_lt.2 (Bbi n))];rfl
   ·cases h'
  ·have h':(match (rdK a).run e,(rdK b).run e with | .i k u,.i _ (.ofNat n)=>OR.v (.i k (u.fdiv (2^(min n k.bits)))) m|_,_=>.bad) = .v x m':=h;split at h'
   ·rename_i k u k' n hu hz;obtain⟨rfl,rfl⟩:=Hz h';rw[hu]at ha;rw[hz]at hb;refine .inl ⟨rfl,Afb (Nz ha) (Nz hb) Dh (.i _ _ .nil) ?_⟩;show Op.shift .shr k u k' (Int.ofNat n)=_;unfold Op.shift;rw[if_neg (show ¬(Int.ofNat n<0) from Int.not_lt.2 (Bbi n))];rfl
   ·cases h'
  ·have h':(match (rdK a).run e,(rdK b).run e with
    | .i k a,.i k' b=>match xKind k k' with
     | true=>match (binKN op).run k a b with|some v=>OR.v v m|none=>.bad
     | false=>.bad
    | .g a,.g b=>match deepG P t with
     | some ks=>match (binKG op).run ks a b with|some v=>.v v m|none=>.bad
     | none=>.bad
    | u,z=>match (binKW (xIsSl (P.underlying t)) (xIsFn (P.underlying t)) (xIsNf (P.underlying t) b) op).run u z with|some v=>.v v m|none=>.bad) = .v x m':=h
   exact .inl (Bqu he hg h')
 ·rename_i ks hf;obtain⟨fs,C,D,E,F⟩:=Adl hf;split at h
  ·have h':(match (rdK a).run e,(rdK b).run e with | .g p,.g q=>(match eqF ks p q with|some r=>OR.v (.b r) m|none=>.bad)|_,_=>.bad) = .v x m':=h;split at h'
   ·rename_i p q hu hz;rw[hu]at ha;rw[hz]at hb;cases hr:eqF ks p q with
    | none=>rw[hr]at h';cases h'
    | some r =>
     rw[hr]at h';obtain⟨rfl,rfl⟩:=Hz h';obtain⟨p',c,d⟩:=Aem ha;obtain⟨q',f,j⟩:=Aem hb;obtain⟨ps,qs,w,B⟩:=Akv fs.toList 0 ks p q p' q' r F hr c f;refine .inl ⟨rfl,_,.b _ .nil,fun Y Z dd ty pos af g=>?_⟩;have:=Acg (P:=P) (Y:=Y) (e:=e') (ty:=ty) (t':=t') (x:=a) (y:=b) (fs:=fs.toList) (by rw[Ads];exact C) D E d j w;rw[B];exact this Y Z dd pos af g fun _ _ h=>h
   ·cases h'
  ·have h':(match (rdK a).run e,(rdK b).run e with | .g p,.g q=>(match eqF ks p q with|some r=>OR.v (.b !r) m|none=>.bad)|_,_=>.bad) = .v x m':=h;split at h'
   ·rename_i p q hu hz;rw[hu]at ha;rw[hz]at hb;cases hr:eqF ks p q with
    | none=>rw[hr]at h';cases h'
    | some r =>
     rw[hr]at h';obtain⟨rfl,rfl⟩:=Hz h';obtain⟨p',c,d⟩:=Aem ha;obtain⟨q',f,j⟩:=Aem hb;obtain⟨ps,qs,w,B⟩:=Akv fs.toList 0 ks p q p' q' r F hr c f;refine .inl ⟨rfl,_,.b _ .nil,fun Y Z dd ty pos af g=>?_⟩;have:=Aci (P:=P) (Y:=Y) (e:=e') (ty:=ty) (t':=t') (x:=a) (y:=b) (fs:=fs.toList) (by rw[Ads];exact C) D E d j w;rw[B];exact this Y Z dd pos af g fun _ _ h=>h
   ·cases h'
  ·cases h
end
end
section
section
variable{P:Program}{R:XR}{e:Tr CV}{e':Env}{m m':Mem}{x:CV}
theorem Wi{o}{Y:Ro}{v}(hv:V1 R x v)(h:∀Y ty,Yld P Y e' o ty v):Tj P o R e' x:=⟨v,hv,fun Y Z dd ty pos af g=>h Y ty Y Z dd pos af g fun _ _ h=>h⟩
theorem Blf{fs i o n}(h:fldAt P fs i=some (o,n)):∃f,fs[i]?=some f/\f.offset=o/\∃t,P.info? f.type=some t/\t.size=n:=by
 unfold fldAt at h;cases hf:fs[i]? with
 | none=>rw[hf]at h;cases h
 | some f =>
  rw[hf]at h;simp only at h;cases hn:xSzT P f.type with
  | none=>rw[hn]at h;cases h
  | some n'=>rw[hn]at h;cases h;exact⟨f,rfl,rfl,Ny hn⟩
theorem Ale(t:TypeId)(a:Operand)(i:Nat):Jc P (.fieldAddr t a i):=fun R e e' m x m' he hg h=>by
 have ha:=Ee he hg a;unfold opK at h;simp only at h;split at h
 ·rename_i fs hT;split at h
  ·rename_i o n hf;split at h
   ·rename_i hn;have h':(match (rdK a).run e with | .p k off=>OR.v (.p k (Nat.add off o)) m|_=>.bad) = .v x m':=h;split at h'
    ·rename_i k off hu;obtain⟨rfl,rfl⟩:=Hz h';rw[hu]at ha;obtain⟨b,c,d,g⟩:=Azb ha;obtain⟨f,j,q,u⟩:=Blf hf;refine .inl ⟨rfl,Wi (Y:=fun _=>none) (.p d .nil) fun Y ty=>?_⟩;exact Ajt hT (by rw[<-Bhn];exact j) q u (by have:=lZ6 hn;omega) g rfl
    ·cases h'
   ·cases h
  ·cases h
 ·cases h
theorem Alf(t:TypeId)(a b:Operand):Jc P (.indexAddr t a b):=fun R e e' m x m' he hg h=>by
 have ha:=Ee he hg a;have hb:=Ee he hg b;unfold opK at h;simp only at h;split at h
 ·rename_i el hT;split at h
  ·rename_i n hn;have h':(match (rdK a).run e,(rdK b).run e with
    | .sl k off ln _ _,.i _ (.ofNat i)=>match Nat.ble (Nat.succ i) ln with|true=>OR.v (.p k (Nat.add off (Nat.mul i n))) m|false=>.bad
    | _,_=>.bad) = .v x m':=h
   split at h'
   ·rename_i k off ln kn c ik i hu hz;split at h'
    ·rename_i hlt;obtain⟨rfl,rfl⟩:=Hz h';rw[hu]at ha;rw[hz]at hb;obtain⟨bl,d,f,g⟩:=Za ha;refine .inl ⟨rfl,Wi (Y:=fun _=>none) (.p f .nil) fun Y ty=>?_⟩;exact Ajv i hT (Ny hn) g (Nz hb) rfl (lZ6 hlt) rfl
    ·cases h'
   ·cases h'
  ·cases h
 ·rename_i ln el hT;split at h
  ·rename_i n hn;have h':(match (rdK a).run e,(rdK b).run e with
    | .p k off,.i _ (.ofNat i)=>match Nat.ble (Nat.succ i) ln with|true=>OR.v (.p k (Nat.add off (Nat.mul i n))) m|false=>.bad
    | _,_=>.bad) = .v x m':=h
   split at h'
   ·rename_i k off ik i hu hz;split at h'
    ·rename_i hlt;obtain⟨rfl,rfl⟩:=Hz h';rw[hu]at ha;rw[hz]at hb;obtain⟨bl,d,f,g⟩:=Azb ha;refine .inl ⟨rfl,Wi (Y:=fun _=>none) (.p f .nil) fun Y ty=>?_⟩;exact Aju i hT (Ny hn) g (Nz hb) rfl (lZ6 hlt) rfl
    ·cases h'
   ·cases h'
  ·cases h
 ·cases h
theorem Bkb(l:List UInt8)(i:Nat):(⟨l.toArray⟩:ByteArray)[i]?=l[i]?:=by
 by_cases h:i<l.length
 ·rw[Qj h,getElem?_pos (⟨l.toArray⟩:ByteArray) i (by show i<l.toArray.size;simpa using h)];rfl
 ·rw[Sa (by omega),getElem?_neg (⟨l.toArray⟩:ByteArray) i (by show ¬i<l.toArray.size;simpa using h)]
theorem Arj{Y:Ro}{Z:Own}{l:List Value}{n off:Nat}{Q:Value->Own->Prop}{t:TypeId}(ha:∃d,P.underlying t=some d/\Qv d=true)(hn:∃i,P.info? t=some i/\i.size=n)(h:Q (.agg ((l.drop off).take n).toArray) Z):wpS P Y (part t l.toArray off) Z Q:=by
 show wpS P Y ((isAgg t).bind _) Z Q;rw[Ad];refine Hi ha ?_;simp only[if_true];show wpS P Y ((sizeOf t).bind _) Z Q;rw[Ad];refine Dx hn ?_;have a:l.toArray.extract off (off+n)=((l.drop off).take n).toArray:=by simp[Blw]
 rw[a];exact h
theorem Bay(t:TypeId)(a b:Operand):Jc P (.index t a b):=fun R e e' m x m' he hg h=>by
 have ha:=Ee he hg a;have hb:=Ee he hg b;unfold opK at h;simp only at h;split at h
 ·rename_i ln el hT;split at h
  ·rename_i n hn hagg;have h':(match (rdK a).run e,(rdK b).run e with
    | .g l,.i _ (.ofNat i)=>match Nat.ble (Nat.succ i) ln,xNth (Nat.mul i n) l with|true,some v=>OR.v v m|_,_=>.bad
    | _,_=>.bad) = .v x m':=h
   split at h'
   ·rename_i l ik i hu hz;split at h'
    ·rename_i w hlt hw;obtain⟨rfl,rfl⟩:=Hz h';rw[hu]at ha;rw[hz]at hb;obtain⟨l',d,f⟩:=Aem ha;rw[Aep]at hw;obtain⟨v,j,k⟩:=d.at hw;refine .inl ⟨rfl,Jg (Instr.index t (Af e' a) (Af e' b)) (fun _ _ _ _ _=>rfl) k fun Y Z=>?_⟩;rw[f,Nz hb];show wpS P Y ((underlying t).bind _) Z _;rw[Ad];refine Az hT ?_;simp only[];have hlt:=lZ6 hlt;rw[if_pos ⟨Bbi i,by show (i:Int)<(ln:Int);omega⟩];show wpS P Y ((sizeOf el).bind _) Z _;rw[Ad];refine Dx (Ny hn) ?_;refine Qr (Ze hagg) ?_ ⟨rfl,rfl⟩;rw[Me];exact j
    ·cases h'
   ·cases h'
  ·rename_i n hn hagg;have h':(match (rdK a).run e,(rdK b).run e with
    | .g l,.i _ (.ofNat i)=>match Nat.ble (Nat.succ i) ln,xTkn n (xDrp (Nat.mul i n) l) with|true,some r=>OR.v (.g r) m|_,_=>.bad
    | _,_=>.bad) = .v x m':=h
   split at h'
   ·rename_i l ik i hu hz;split at h'
    ·rename_i r hlt hw;obtain⟨rfl,rfl⟩:=Hz h';rw[hu]at ha;rw[hz]at hb;obtain⟨l',d,f⟩:=Aem ha;rw[Aan]at hw;refine .inl ⟨rfl,Jg (v:=.agg ((l'.drop (i*n)).take n).toArray) (Instr.index t (Af e' a) (Af e' b)) (fun _ _ _ _ _=>rfl) (.g ?_ .nil) fun Y Z=>?_⟩
     ·obtain⟨_,rfl⟩:=Aau _ _ _ hw;exact(d.drop _).take _
     rw[f,Nz hb];show wpS P Y ((underlying t).bind _) Z _;rw[Ad];refine Az hT ?_;simp only[];have hlt:=lZ6 hlt;rw[if_pos ⟨Bbi i,by show (i:Int)<(ln:Int);omega⟩];show wpS P Y ((sizeOf el).bind _) Z _;rw[Ad];refine Dx (Ny hn) ?_;exact Arj (Ze hagg) (Ny hn) ⟨rfl,rfl⟩
    ·cases h'
   ·cases h'
  ·cases h
 ·rename_i hT;have h':(match (rdK a).run e,(rdK b).run e with
    | .s l,.i _ (.ofNat i)=>match xNth i l with|some b=>OR.v (.i .u8 (.ofNat b.toNat)) m|none=>.bad
    | _,_=>.bad) = .v x m':=h
  split at h'
  ·rename_i l ik i hu hz;rw[Aep]at h';cases hc:l[i]? with
   | none=>rw[hc]at h';cases h'
   | some c =>
    rw[hc]at h';obtain⟨rfl,rfl⟩:=Hz h';rw[hu]at ha;rw[hz]at hb;refine .inl ⟨rfl,Wi (Y:=fun _=>none) (.i _ _ .nil) fun Y ty=>?_⟩;exact Ace i c hT (Yz ha) (Nz hb) rfl (by rw[Bkb];exact hc)
  ·cases h'
 ·cases h
theorem Azc{v}(h:V1 R .sn v):v = .slice none 0 0:=by cases h;rfl
theorem Bav(s d:TypeId)(a:Operand):Jc P (.convert s d a):=fun R e e' m x m' he hg h=>by
 have ha:=Ee he hg a;unfold opK at h;simp only at h;split at h
 ·rename_i k0 k hS hD;have h':(match (rdK a).run e with | .i _ v=>OR.v (.i k (k.wrap v)) m|_=>.bad) = .v x m':=h;split at h'
  ·rename_i k1 v hu;obtain⟨rfl,rfl⟩:=Hz h';rw[hu]at ha;exact .inl ⟨rfl,Wi (Y:=fun _=>none) (.i _ _ .nil) fun Y ty=>Acf hS hD (Nz ha) rfl⟩
  ·cases h'
 ·rename_i el hS hD;split at h
  ·rename_i hE;have h':(match (rdK a).run e with
    | .s v=>OR.v (.sl m.nx 0 (xLen v) false 0) (m.add (.grow 1 (xBytesC v)))
    | _=>.bad) = .v x m':=h
   split at h'
   ·rename_i v hu;obtain⟨rfl,rfl⟩:=Hz h';rw[hu]at ha;refine .inr ⟨.add _ _,fun _=>Ats _,fun Y Z Z9 dd ty pos af g hm=>?_⟩;obtain⟨L,G,hm⟩:=hm;show wpS P Y ((convert s d (Af e' a)).bind fun v=>Sem.pure (Next.value v)) Z _;rw[Ad,Yz ha];show wpS P Y ((underlying s).bind _) Z _;rw[Ad];refine Az hS ?_;show wpS P Y ((underlying d).bind _) Z _;rw[Ad];refine Az hD ?_;show wpS P Y ((underlying el).bind _) Z _;rw[Ad];refine Az hE ?_;show wpS P Y ((choose (.appendCap v.toArray.size 0 el)).bind _) Z _;rw[Ad];show (if (Question.appendCap v.toArray.size 0 el).forced then _ else ∀tt,_);rw[if_neg (by simp[Question.forced])];intro tt;have j:v.length<=(Question.appendCap v.toArray.size 0 el).cut tt:=by simp[Question.cut]
    generalize (Question.appendCap v.toArray.size 0 el).cut tt=nc at j;show wpS P Y ((newRow el ((v.toArray.map fun b=>Value.int .u8 b.toNat)++Array.replicate (nc-v.toArray.size) (.int .u8 0))).bind _) Z _;rw[Ad];refine Ik fun r=>?_;have f:((v.toArray.map fun (b:UInt8)=>Value.int .u8 (b.toNat:Int))++Array.replicate (nc-v.toArray.size) (Value.int .u8 0))=((v.map fun (c:UInt8)=>Value.int .u8 (c.toNat:Int))++List.replicate (nc-v.length) (Value.int .u8 0)).toArray:=by
     apply Array.ext';simp
    rw[f];show wpS P Y ((markStringish ⟨r,0,none⟩).bind _) _ _;rw[Ad];show wpS P Y ((shape r).bind _) _ _;rw[Ad];refine⟨_,.inr mC,?_⟩;refine .inr ⟨by simp,0,_,_,0,0,rfl,?_⟩;have hb:∀(R:XR) (l:List UInt8),VR R (xBytesC l) (l.map fun (c:UInt8)=>Value.int .u8 (c.toNat:Int)):=fun R l=>by
     induction l with
     | nil=>exact .nil
     | cons c l ih=>exact .i _ _ ih
    have n:xLen v=v.toArray.size:=by rw[Ig];simp
    refine⟨R.add m.nx (r,nc),_,hm.fresh _,.inl rfl,?_,?_⟩
    ·rw[n];exact .slU XR.add_same .nil
    ·refine hm.add (.grow (hb _ v) (by simp;omega) Nat.one_pos fun i hi=>?_);simp only[Uu,Bho]at hi;simp;omega
   ·cases h'
  ·cases h
 ·cases h
theorem Wr{b az ts dd ty pos af g}(f:Operand->Value):∃cs,execOp f ⟨dd,.call ⟨.builtin b,az,ts⟩,ty,pos,af,g⟩=builtin b ts ty cs (az.map f):=⟨_,rfl⟩
theorem Mw{b c}{vs:List Value}{v}(hc:c.callee = .builtin b)(hv:c.args.map (Af e')=vs.toArray)(hx:V1 R x v)(h:∀ty cs Y Z,wpS P Y (builtin b c.argTypes ty cs vs.toArray) Z (fun nx Z'=>nx = .value v/\Z'=Z)):Tj P (.call c) R e' x:=⟨v,hx,fun Y Z dd ty pos af g=>by
 obtain⟨cl,az,ts⟩:=c;simp only at hc;subst hc;obtain⟨cs,a⟩:=Wr (b:=b) (az:=az) (ts:=ts) (dd:=dd) (ty:=ty) (pos:=pos) (af:=af) (g:=g) (Af e');simp only at hv h;rw[a,hv];exact h ty cs Y Z⟩
end
end
section
section
variable{P:Program}{R:XR}{e:Tr CV}{e':Env}{m m':Mem}{x:CV}
theorem Anz(o:Option Nat)(d:Nat):xOr o d=o.getD d:=by cases o<;>rfl
def BV(v:Option Value)(n:Option Nat):Prop:=(v=none/\n=none)∨∃k q,v=some (.int k (q:Nat))/\n=some q
theorem Azr(he:EnvR R e e')(hg:Om R)(o:Option Operand){r:Option Nat}(h:(xBnd o).run e=some r):BV (o.map (Af e')) r:=by
 cases o with
 | none=>cases h;exact .inl ⟨rfl,rfl⟩
 | some a =>
  have ha:=Ee he hg a;have h':(match (rdK a).run e with | .i _ (.ofNat n)=>some (some n)|_=>none)=some r:=h;split at h'
  ·rename_i k n hu;cases h';rw[hu]at ha;exact .inr ⟨k,n,by rw[Aoq,Nz ha];rfl,rfl⟩
  ·cases h'
theorem Qc{k:IntKind}{q y:Nat}{code:BoundsCode}(h:q<=y):Instr.sliceBound (.int k (q:Nat)) y code=pure q:=by show (if 0<=(q:Int)/\(q:Int)<=y then pure (q:Int).toNat else _)=_;rw[if_pos (by omega)];simp
theorem Afe{b:Bool}{ln cp:Nat}{lo hi mx:Option Value}{l h q:Option Nat}(hlo:BV lo l)(hhi:BV hi h)(hmx:BV mx q)(hq:q.isSome=true->h.isSome=true)(h1:l.getD 0<=h.getD ln)(h2:h.getD ln<=q.getD cp)(h3:q.getD cp<=cp) :
  Instr.sliceBounds b ln cp lo hi mx=pure (l.getD 0,h.getD ln,q.getD cp):=by
 rcases hlo with⟨rfl,rfl⟩|⟨a,c,rfl,rfl⟩<;>rcases hhi with⟨rfl,rfl⟩|⟨k2,q2,rfl,rfl⟩<;>rcases hmx with⟨rfl,rfl⟩|⟨k3,q3,rfl,rfl⟩ <;>
  simp only[Amb,Option.getD_none,Bmq,Awr,Aii,imp_false,not_true]at h1 h2 h3 hq ⊢<;>unfold Instr.sliceBounds<;>simp only[Bmq,Awr]
 ·rfl
 ·simp only[pure_bind,Qc h2]
 ·simp only[pure_bind,Qc h3,Qc h2]
 ·simp only[pure_bind,Qc h1]
 ·simp only[pure_bind,Qc h2,Qc h1]
 ·simp only[pure_bind,Qc h3,Qc h2,Qc h1]
def Aut(P:Program)(o:Op):Prop:=∀R e e' m x k,EnvR R e e'->Om R->(opK P o).run e m = .rd x k ->
 ∀R9 m3 Y Z Z9,MemX R9 m3 Y Z Z9->m3.obj k=m.obj k->R9 k=R k->∃v,V1 R9 x v/\∀dd ty pos af g,wpS P Y (execOp (Af e') ⟨dd,o,ty,pos,af,g⟩) Z (fun nx Z'=>nx = .value v/\Z'=Z)
theorem Aee{x y k j}(h:OR.rd x k = .rd y j):x=y/\k=j:=by cases h;exact⟨rfl,rfl⟩
theorem MemR.roomC{Y:Ro}{Z Z9:Own}{L:List (Nat×Nat×Res)}{G:Own}{m3:Mem}(hm:MemR R m3 Y Z Z9 L G){n k c q b d:Nat}{kn:Bool}(h:xRoomC m n k kn c q=true)(hk:m3.obj k=m.obj k)(hR:R k=some (b,d)):q<=Yb kn c d:=by
 unfold xRoomC at h;cases kn with
 | true=>exact lZ6 h
 | false =>
  simp only at h;split at h
  ·rename_i n' l ho;rw[<-hk]at ho;split at h
   ·rename_i hn;have hn:=lZ8 hn;subst hn;have h:=lZ6 h;rw[Ig]at h;replace h:(c+q)*n<=l.length:=h;have key:∀{o:Res},ObjR R d (.grow n l) o->l.length<=d*n/\0<n:=fun {o} ho=>by
     cases ho with
     | grow h1 g j h4=>have:=h1.len;exact⟨by omega,j⟩
    have g:l.length<=d*n/\0<n:=by
     unfold Mem.obj at ho;split at ho
     ·rename_i o hg;cases ho;obtain⟨p,t,r,i,a,u,e,v⟩:=hm.at hg (by simp);rw[hR]at a;cases a;exact key e
     ·rename_i o hg;cases ho;obtain⟨p,t,y,a,u,f,e⟩:=hm.ro k _ hg;rw[hR]at a;cases a;exact key e
     ·cases ho
    have j:c+q<=d:=Nat.le_of_mul_le_mul_right (To h g.1) g.2;show q<=d-c;omega
   ·cases h
  ·cases h
theorem Bvv{a b:Nat}(h:a≠b):Nat.beq a b=false:=by
 cases hx:Nat.beq a b with
 | false=>rfl
 | true=>exact absurd (lZ8 hx) h
def SlP(R:XR)(n k off ln:Nat)(kn:Bool)(c l:Nat)(h q:Option Nat)(x:CV)(b d:Nat):Prop :=
 h.getD ln<=q.getD (Yb kn c d)/\q.getD (Yb kn c d)<=Yb kn c d /\
  V1 R x (.slice (some (if q.getD (Yb kn c d)=l then ⟨b,off,none⟩ else ⟨b,off+l*n,none⟩)) (h.getD ln-l) (q.getD (Yb kn c d)-l))
theorem Arc{n k off ln c l:Nat}{kn:Bool}{h q:Option Nat}{y:OR}(hx:xSliceM n k off ln kn c l h q m=y)(hy:y ≠ .bad):(q.isSome=true->h.isSome=true)/\l<=h.getD ln /\
    ((∃x, y = .v x m /\ ∀{R : XR} {b d}, R k=some (b, d) -> SlP R n k off ln kn c l h q x b d) ∨
     (∃x, y = .rd x k /\ ∀{R : XR} {m3 : Mem} {Y Z Z9 L G b d}, MemR R m3 Y Z Z9 L G -> m3.obj k=m.obj k -> R k=some (b, d) -> SlP R n k off ln kn c l h q x b d)) := by
  unfold xSliceM at hx;have val:∀{R:XR} {q b d:Nat} {h':Nat},R k=some (b,d)->V1 R (.sl k (match Nat.beq q l with|true=>off|false=>Nat.add off (Nat.mul l n)) (Nat.sub h' l) true (Nat.sub q l)) (.slice (some (if q=l then ⟨b,off,none⟩ else ⟨b,off+l*n,none⟩)) (h'-l) (q-l)):=fun {R q b d h'} hR=>by
    by_cases hq:q=l
    · subst hq
      rw[if_pos rfl];have:Nat.beq q q=true:=by simp
      rw[this];exact .slK hR .nil
    · rw[if_neg hq,Bvv hq]
      exact .slK hR .nil
  cases q with
  | some q =>
    cases h with
    | none=>exact absurd hx.symm hy
    | some h =>
      simp only at hx;split at hx
      · rename_i a e f
        have a:=lZ6 a;have e:=lZ6 e;refine⟨fun _=>rfl,a,?_⟩;split at hx
        · refine .inl ⟨_,hx.symm,fun {R b d} hR=>⟨e,lZ6 f,val hR⟩⟩
        · refine .inr ⟨_,hx.symm,fun {R m3 Y Z Z9 L G b d} hm hk hR=>⟨e,hm.roomC f hk hR,val hR⟩⟩
      · exact absurd hx.symm hy
  | none =>
    simp only[Anz]at hx;split at hx
    · exact absurd hx.symm hy
    · rename_i a
      have a:=lZ6 a;split at hx
      · rename_i e
        have e:=lZ6 e;exact⟨fun h=>(by cases h),a,.inl ⟨_,hx.symm,fun {R b d} hR=>⟨e,Ii _,val hR⟩⟩⟩
      · exact absurd hx.symm hy
    · rename_i a
      have a:=lZ6 a;split at hx
      · rename_i e _
        refine⟨fun h=>(by cases h),a,.inr ⟨_,hx.symm,fun {R m3 Y Z Z9 L G b d} hm hk hR=>⟨hm.roomC e hk hR,Ii _,?_⟩⟩⟩;show V1 R _ (.slice (some (if d-c=0 then ⟨b,off,none⟩ else ⟨b,off+0*n,none⟩)) (h.getD ln-0) (d-c-0));rw[Awz,Abw,ite_self];exact .slU hR .nil
      · rename_i l0 e _
        split at hx
        · rename_i f
          refine⟨fun h=>(by cases h),a,.inr ⟨_,hx.symm,fun {R m3 Y Z Z9 L G b d} hm hk hR=>⟨hm.roomC e hk hR,Ii _,?_⟩⟩⟩;have f:l0+2<=d-c:=hm.roomC f hk hR;show V1 R _ (.slice (some (if d-c=l0+1 then ⟨b,off,none⟩ else ⟨b,off+(l0+1)*n,none⟩)) (h.getD ln-(l0+1)) (d-c-(l0+1)));rw[if_neg (by omega)];have:d-c-(l0+1)=d-(c+(l0+1)):=by omega
          rw[this];exact .slU hR .nil
        · exact absurd hx.symm hy
      · exact absurd hx.symm hy
theorem Agx{n k c q:Nat}(h:xRoomC m n k false c q=true):∃ob,m.obj k=some ob/\ob ≠ .dead:=by
 unfold xRoomC at h;simp only at h;split at h
 ·rename_i ho;exact⟨_,ho,by simp⟩
 ·cases h
theorem Bce{n k off ln c l j:Nat}{kn:Bool}{h q:Option Nat}{x:CV}(hx:xSliceM n k off ln kn c l h q m = .rd x j):∃ob,m.obj j=some ob/\ob ≠ .dead:=by
 unfold xSliceM at hx;cases q with
 | some q =>
  cases h with
  | none=>cases hx
  | some h =>
   simp only at hx;split at hx
   ·rename_i h3;split at hx
    ·cases hx
    ·cases hx;exact Agx h3
   ·cases hx
 | none =>
  simp only at hx;split at hx
  ·cases hx
  ·split at hx<;>cases hx
  ·split at hx
   ·rename_i h3 _;cases hx;exact Agx h3
   ·rename_i h3 _;split at hx
    ·cases hx;exact Agx h3
    ·cases hx
   ·cases hx
theorem Arl{t el:TypeId}{n k off ln c l0:Nat}{kn:Bool}{lo hi mx:Option Value}{l h q:Option Nat}{x:CV}{b d:Nat}{Y:Ro}{Z:Own}{Q:Value->Own->Prop}(hT:P.underlying t=some (.slice el))(hn:xSzT P el=some n)
  (hlo:BV lo l) (hhi:BV hi h) (hmx:BV mx q) (hq:q.isSome=true->h.isSome=true) (h1:l.getD 0<=h.getD ln) (hl:l0=l.getD 0) (hs:SlP R n k off ln kn c l0 h q x b d) (hQ:Q (.slice (some (if q.getD (Yb kn c d)=l0 then ⟨b,off,none⟩ else ⟨b,off+l0*n,none⟩)) (h.getD ln-l0) (q.getD (Yb kn c d)-l0)) Z) :
  wpS P Y (Instr.sliceAt t (.slice (some ⟨b,off,none⟩) ln (Yb kn c d)) lo hi mx) Z Q:=by
 subst hl;obtain⟨e,f,g⟩:=hs;show wpS _ Y ((underlying t).bind _) Z _;rw[Ad];refine Az hT ?_;show wpS _ Y ((underlying t).bind _) Z _;rw[Ad];refine Az hT ?_;simp only[];rw[Afe hlo hhi hmx hq h1 e f];show wpS _ Y ((sizeOf el).bind _) Z _;rw[Ad];refine Dx (Ny hn) ?_;have a:(if q.getD (Yb kn c d)=l.getD 0 then some (⟨b,off,none⟩:Addr) else (some (⟨b,off,none⟩:Addr)).map (·.add (l.getD 0*n)))=some (if q.getD (Yb kn c d)=l.getD 0 then ⟨b,off,none⟩ else ⟨b,off+l.getD 0*n,none⟩):=by
  by_cases hq:q.getD (Yb kn c d)=l.getD 0
  ·rw[if_pos hq,if_pos hq]
  ·rw[if_neg hq,if_neg hq,Aoq,Ld]
 rw[a];exact hQ
theorem Xb{t:TypeId}{a:Operand}{lo hi mx:Option Operand}:∀dd ty pos af g,execOp (Af e') ⟨dd,.slice t a lo hi mx,ty,pos,af,g⟩=(Instr.sliceAt t (Af e' a) (lo.map (Af e')) (hi.map (Af e')) (mx.map (Af e'))).bind fun v=>Sem.pure (Next.value v):=fun _ _ _ _ _=>rfl
theorem Ahp{t:TypeId}{a:Operand}{lo hi mx:Option Operand}{y:OR}(he:EnvR R e e')(hg:Om R)(h:(opK P (.slice t a lo hi mx)).run e m=y)(hy:y ≠ .bad) :
  (∃el n k off ln kn c l0 l h q,P.underlying t=some (.slice el)/\xSzT P el=some n/\V1 R (.sl k off ln kn c) (Af e' a)/\BV (lo.map (Af e')) l/\BV (hi.map (Af e')) h/\BV (mx.map (Af e')) q/\l0=l.getD 0/\xSliceM n k off ln kn c l0 h q m=y)∨∃x,y = .v x m/\Tj P (.slice t a lo hi mx) R e' x:=by
 have ha:=Ee he hg a;have hlo:=fun {r}=>Azr he hg lo (r:=r);have hhi:=fun {r}=>Azr he hg hi (r:=r);have hmx:=fun {r}=>Azr he hg mx (r:=r);unfold opK at h;simp only at h;split at h
 ·rename_i el hT;split at h
  ·rename_i n lo1 hi1 mx1 hn e1 e2 e3;rw[e1]at hlo;rw[e2]at hhi;rw[e3]at hmx;have h':(match (rdK a).run e with
    | .sl k off ln kn c=>match lo1 e,hi1 e,mx1 e with
     | some l,some h,some q=>xSliceM n k off ln kn c (xOr l 0) h q m
     | _,_,_=>.bad
    | .sn=>match lo1 e,hi1 e,mx1 e with
     | some l,some h,some q=>match Nat.beq (xOr l 0) 0,Nat.beq (xOr h 0) 0,Nat.beq (xOr q 0) 0,xMxOk h q with
      | true,true,true,true=>OR.v .sn m
      | _,_,_,_=>.bad
     | _,_,_=>.bad
    | _=>.bad)=y:=h
   split at h'
   ·rename_i k off ln kn c hu;split at h'
    ·rename_i l h0 q g1 g2 g3;rw[hu]at ha;exact .inl ⟨el,n,k,off,ln,kn,c,_,l,h0,q,hT,hn,ha,hlo g1,hhi g2,hmx g3,Anz ..,h'⟩
    ·exact absurd h'.symm hy
   ·rename_i hu;split at h'
    ·rename_i l h0 q g1 g2 g3;split at h'
     ·rename_i d f g q4;refine .inr ⟨_,h'.symm,?_⟩;rw[hu]at ha;have g:=lZ8 g;rw[Anz]at g;have i:q.isSome=true->h0.isSome=true:=fun hq=>by
       cases q with
       | none=>cases hq
       | some q =>
        cases h0 with
        | none=>cases q4
        | some h=>rfl
      have d:=lZ8 d;have f:=lZ8 f;rw[Anz]at d f;refine Jg _ Xb (.sn .nil) fun Y Z=>?_;rw[Azc ha];show wpS _ Y ((underlying t).bind _) Z _;rw[Ad];refine Az hT ?_;show wpS _ Y ((underlying t).bind _) Z _;rw[Ad];refine Az hT ?_;simp only[];rw[Afe (hlo g1) (hhi g2) (hmx g3) i (by rw[d];exact Hr _) (by rw[f];exact Hr _) (by rw[g];exact Ii _)];show wpS _ Y ((sizeOf el).bind _) Z _;rw[Ad];refine Dx (Ny hn) ?_;rw[d,f,g];exact⟨rfl,rfl⟩
     ·exact absurd h'.symm hy
    ·exact absurd h'.symm hy
   ·exact absurd h'.symm hy
  ·exact absurd h.symm hy
 ·rename_i hT;split at h
  ·rename_i lo1 hi1 e1 e2;rw[e1]at hlo;rw[e2]at hhi;have h':(match (rdK a).run e,lo1 e,hi1 e with
    | .s b,some l,some h=>match xOr h (xLen b),xOr l 0 with
     | h,l=>match Nat.ble h (xLen b),Nat.ble l h with
      | true,true=>match xTkn (Nat.sub h l) (xDrp l b) with|some r=>OR.v (.s r) m|none=>.bad
      | _,_=>.bad
    | _,_,_=>.bad)=y:=h
   split at h'
   ·rename_i b l h0 hu g1 g2;simp only[Anz,Ig,Aan]at h';split at h'
    ·rename_i d f;have d:=lZ6 d;have f:=lZ6 f;split at h'
     ·rename_i r hr;refine .inr ⟨_,h'.symm,?_⟩;obtain⟨_,rfl⟩:=Aau _ _ _ hr;rw[hu]at ha;refine Jg _ Xb (.s _ .nil) fun Y Z=>?_;rw[Yz ha];show wpS _ Y ((underlying t).bind _) Z _;rw[Ad];refine Az hT ?_;show wpS _ Y ((underlying t).bind _) Z _;rw[Ad];refine Az hT ?_;have hsz:(⟨b.toArray⟩:ByteArray).size=b.length:=rfl;simp only[hsz,Option.map_none,Awr,Aii,if_false];rw[Afe (q:=none) (hlo g1) (hhi g2) (.inl ⟨rfl,rfl⟩) (fun h=>(by cases h)) f d (Ii _)];refine⟨?_,rfl⟩;show Value.string ((⟨b.toArray⟩:ByteArray).extract (l.getD 0) (h0.getD b.length))=_;congr 1;apply ByteArray.ext;rw[ByteArray.data_extract];simp[Blw]
     ·exact absurd h'.symm hy
    ·exact absurd h'.symm hy
   ·exact absurd h'.symm hy
  ·exact absurd h.symm hy
 ·exact absurd h.symm hy
theorem Bba(t:TypeId)(a:Operand)(lo hi mx:Option Operand):Jc P (.slice t a lo hi mx):=fun R e e' m x m' he hg h=>by
 rcases Ahp he hg h (by simp) with⟨el,n,k,off,ln,kn,c,D,l,C,q,hT,hn,ha,p,u,v,w,y⟩|⟨x',f,i⟩
 ·obtain⟨z,B,j⟩:=Arc y (by simp);rcases j with⟨x',b,j⟩|⟨x',b,_⟩
  ·obtain⟨rfl,rfl⟩:=Hz b;obtain⟨bl,d,f,i⟩:=Za ha;have hs:=j f;refine .inl ⟨rfl,_,hs.2.2,fun Y Z dd ty pos af g=>?_⟩;rw[Xb,Ad,i];subst w;exact Arl hT hn p u v z B rfl hs ⟨rfl,rfl⟩
  ·cases b
 ·obtain⟨rfl,rfl⟩:=Hz f;exact .inl ⟨rfl,i⟩
theorem Awc(t:TypeId)(a:Operand)(lo hi mx:Option Operand):Aut P (.slice t a lo hi mx):=fun R e e' m x k he hg h R9 m3 Y Z Z9 hm ho z=>by
 rcases Ahp he hg h (by simp) with⟨el,n,k',off,ln,kn,c,E,l,D,q,hT,hn,ha,p,u,v,w,y⟩|⟨x',f,j⟩
 ·obtain⟨B,C,i⟩:=Arc y (by simp);rcases i with⟨x',b,_⟩|⟨x',b,i⟩
  ·cases b
  ·obtain⟨rfl,rfl⟩:=Aee b;obtain⟨bl,d,f,j⟩:=Za ha;obtain⟨L,G,hm⟩:=hm;have hs:=i hm ho (z.trans f);refine⟨_,hs.2.2,fun dd ty pos af g=>?_⟩;rw[Xb,Ad,j];subst w;exact Arl hT hn p u v B C rfl hs ⟨rfl,rfl⟩
 ·cases f
theorem Bil{t:TypeId}{l:List CV}{v:CV}(h:(partK P t).run l=some v):(∃n r,xAggT P t=some true/\xSzT P t=some n/\xTkn n l=some r/\v = .g r)∨(xAggT P t=some false/\∃r,l=v::r):=by
 unfold partK at h;split at h
 ·rename_i ha;split at h
  ·rename_i n hn;simp only at h;split at h
   ·rename_i r hr;cases h;exact .inl ⟨n,r,ha,hn,hr,rfl⟩
   ·cases h
  ·cases h
 ·rename_i ha;simp only at h;split at h
  ·cases h;exact .inr ⟨ha,_,rfl⟩
  ·cases h
 ·cases h
theorem Bax(t:TypeId)(a:Operand)(i:Nat):Jc P (.field t a i):=fun R e e' m x m' he hg h=>by
 have ha:=Ee he hg a;unfold opK at h;simp only at h;split at h
 ·rename_i fs hT;split at h
  ·rename_i f hf;have h':(match (rdK a).run e with
    | .g l=>match (partK P f.type).run (xDrp f.offset l) with|some v=>OR.v v m|none=>.bad
    | _=>.bad) = .v x m':=h
   split at h'
   ·rename_i l hu;cases hp:(partK P f.type).run (xDrp f.offset l) with
    | none=>rw[hp]at h';cases h'
    | some v =>
     rw[hp]at h';obtain⟨rfl,rfl⟩:=Hz h';rw[hu]at ha;obtain⟨l',j,k⟩:=Aem ha;rw[Aan]at hp;have hf':fs[i]?=some f:=by rw[<-Bhn];exact hf
     have exe:∀dd ty pos af g,execOp (Af e') ⟨dd,.field t a i,ty,pos,af,g⟩=(Instr.field t (Af e' a) i).bind fun v=>Sem.pure (Next.value v):=fun _ _ _ _ _=>rfl;rcases Bil hp with⟨n,r,b,c,q,rfl⟩|⟨b,r,c⟩
     ·refine .inl ⟨rfl,Jg (v:=.agg ((l'.drop f.offset).take n).toArray) _ exe (.g ?_ .nil) fun Y Z=>?_⟩
      ·obtain⟨_,rfl⟩:=Aau _ _ _ q;exact(j.drop _).take _
      rw[k];show wpS _ Y ((underlying t).bind _) Z _;rw[Ad];refine Az hT ?_;simp only[hf'];show wpS _ Y (part f.type l'.toArray f.offset) Z _;exact Arj (Ze b) (Ny c) ⟨rfl,rfl⟩
     ·obtain⟨w,p,u⟩:=(j.drop f.offset).at (d:=0) (v:=v) (by rw[c];rfl);refine .inl ⟨rfl,Jg (v:=w) _ exe u fun Y Z=>?_⟩;rw[k];show wpS _ Y ((underlying t).bind _) Z _;rw[Ad];refine Az hT ?_;simp only[hf'];show wpS _ Y (part f.type l'.toArray f.offset) Z _;refine Qr (Ze b) ?_ ⟨rfl,rfl⟩;rw[Me];rw[Ama,Abw]at p;exact p
   ·cases h'
  ·cases h
 ·cases h
end
end
section
section
variable{P:Program}{R:XR}{e:Tr CV}{e':Env}{m m':Mem}{x:CV}
theorem VR.set{l l2 c o vs ws}(h:VR R l c)(hs:xSetL o vs l=some l2)(hv:VR R vs ws):o+ws.length<=c.length/\VR R l2 (over c o ws):=by obtain⟨a,b⟩:=Aoa o vs l l2 hs;have hl:=h.len;have hw:=hv.len;rw[hw,hl]at a;refine⟨a,?_⟩;rw[Qe ws c o a,b,hw];exact(h.take o).app (hv.app (h.drop _))
theorem Adf(he:EnvR R e e')(hg:Om R){off place:Nat->Option (Nat×Nat)}(hp:∀i o z,off i=some (o,z)->place i=some (o,z)):∀(ps:List (Nat×Operand)) (l l2:List CV) (c:List Value),(fillK off ps).run l e=some l2->VR R l c ->
  ∃c2,Instr.fill place c.toArray (ps.map fun p=>(p.1,Af e' p.2))=some c2.toArray/\VR R l2 c2
 | [],l,l2,c,h,hv=>by cases h;exact⟨c,rfl,hv⟩
 | (i,a)::ps,l,l2,c,h,hv=>by
  unfold fillK at h;split at h
  ·cases h
  ·rename_i o z ho;simp only at h;split at h
   ·cases h
   ·rename_i vs hc;split at h
    ·cases h
    ·rename_i hz;split at h
     ·rename_i l3 hs;have hz:=lZ8 hz;rw[Ig]at hz;have b:=(Ee he hg a).cells hc;obtain⟨d,f⟩:=hv.set hs b;have k:=b.len;obtain⟨c2,g,j⟩:=Adf he hg hp ps l3 l2 _ h f;refine⟨c2,?_,j⟩;rw[Je,Be (cs:=(Af e' a).cells.toList) (by simp) (by rw[hp i o z ho,<-k,hz]) d];exact g
     ·cases h
def sizesL(P:Program):List Field->List Nat
 | []=>[]
 | f::fs=>((xSzT P f.type).getD 0)::sizesL P fs
theorem Auz:∀{fs:List Field},allSz P fs=true->Wu P fs (sizesL P fs)
 | [],_=>trivial
 | f::fs,h=>by
  unfold allSz at h;split at h
  ·rename_i n hn;refine⟨?_,Auz h⟩;rw[hn];exact Ny hn
  ·cases h
theorem Bfc:∀(fs:List Field) (i o z:Nat),fldAt P fs i=some (o,z)->(Gs fs (sizesL P fs))[i]?=some (o,z)
 | [],i,o,z,h=>by simp[fldAt]at h
 | f::fs,0,o,z,h=>by
  unfold fldAt at h;simp only[Bhl]at h;simp only[sizesL,Gs,Bhl];cases hn:xSzT P f.type with
  | none=>rw[hn]at h;cases h
  | some n=>rw[hn]at h;cases h;rfl
 | f::fs,i+1,o,z,h=>by
  simp only[sizesL,Gs,Xr];refine Bfc fs i o z ?_;unfold fldAt at h ⊢;rw[Xr]at h;exact h
theorem Bau(t:TypeId)(ps:Array (Nat×Operand)):Jc P (.build t ps):=fun R e e' m x m' he hg h=>by
 have hps:ps=ps.toList.toArray:=by simp
 unfold opK at h;simp only at h;split at h
 ·rename_i z fs hz hT;split at h
  ·rename_i c hsz hc;have h':(match (fillK (fldAt P fs.toList) ps.toList).run c e with|some l=>OR.v (.g l) m|none=>.bad) = .v x m':=h;split at h'
   ·rename_i l hf;obtain⟨rfl,rfl⟩:=Hz h';obtain⟨v,hv,rfl⟩:=Qu hz;have hvc:=(vOf R v).cells hc;obtain⟨d,a,b⟩:=Adf he hg (place:=((Gs fs.toList (sizesL P fs.toList))[·]?)) (Bfc fs.toList) ps.toList c l _ hf hvc;refine .inl ⟨rfl,Wi (Y:=fun _=>none) (.g b .nil) fun Y ty=>?_⟩;rw[hps];exact Dn (fs:=fs.toList) (zc:=v.cells.toList) (by rw[Ads];exact hT) hv (by simp) (Auz hsz) rfl a
   ·cases h'
  ·cases h
 ·rename_i z ln el hz hT;split at h
  ·rename_i n c hn hc;have h':(match (fillK (fun i=>some (Nat.mul i n,n)) ps.toList).run c e with|some l=>OR.v (.g l) m|none=>.bad) = .v x m':=h;split at h'
   ·rename_i l hf;obtain⟨rfl,rfl⟩:=Hz h';obtain⟨v,hv,rfl⟩:=Qu hz;have hvc:=(vOf R v).cells hc;obtain⟨d,a,b⟩:=Adf he hg (place:=fun i=>some (i*n,n)) (fun i o z h=>h) ps.toList c l _ hf hvc;refine .inl ⟨rfl,Jg (Instr.build t (ps.map fun (p:Nat×Operand)=>(p.1,Af e' p.2))) (fun _ _ _ _ _=>rfl) (.g b .nil) fun Y Z=>?_⟩;unfold Instr.build;show wpS P Y ((zeroValue t).bind _) Z _;rw[Ad];refine Jz hv ?_;show wpS P Y ((underlying t).bind _) Z _;rw[Ad];refine Az hT ?_;dsimp only;show wpS P Y ((sizeOf el).bind _) Z _;rw[Ad];refine Dx (Ny hn) ?_;have f:(ps.map fun (p:Nat×Operand)=>(p.1,Af e' p.2)).toList=ps.toList.map fun p=>(p.1,Af e' p.2):=by simp
    have j:v.cells=v.cells.toList.toArray:=by simp
    rw[f,j,a];exact⟨rfl,rfl⟩
   ·cases h'
  ·cases h
 ·cases h
theorem Aog(n:Nat):Bfx n (0,0):=fun i _=>by simp
theorem Arr{o el l vs}(s:Sem Value)(mk:Nat->Value)(hs:∀dd ty pos af g,execOp (Af e') ⟨dd,o,ty,pos,af,g⟩=s.bind fun v=>Sem.pure (Next.value v))(h:∀Y Z Q,(∀r,Q (mk r) ((r,.obj (.cells vs.toArray el (0,0)))::Z))->wpS P Y s Z Q)(hv:VR R l vs)(hx:∀R' r,R' m.nx=some (r,0)->V1 R' x (mk r)):Bfv P o R e' m x (m.add (.cells l)) :=
 Auw (c:=0) s mk hs h (fun R' hR=>.cells (hv.mono hR) (Aog _)) hx
theorem Bat(t:TypeId):Jc P (.alloc t):=fun R e e' m x m' he hg h=>by
 unfold opK at h;simp only at h;split at h
 ·rename_i z hz;split at h
  ·rename_i c hc;obtain⟨rfl,rfl⟩:=Hz h;obtain⟨v,hv,rfl⟩:=Qu hz;refine .inr (Arr (vs:=v.cells.toList) (el:=t) (Instr.alloc t true (.tuple #[])) (fun r=>.pointer (some ⟨r,0,none⟩)) (fun _ _ _ _ _=>rfl) (fun Y Z Q hq=>?_) ((vOf R v).cells hc) fun R' r hr=>.p hr .nil);show wpS P Y ((zeroValue t).bind _) Z _;rw[Ad];refine Jz hv ?_;show wpS P Y ((newVar t v).bind _) Z _;rw[Ad];refine Ik fun r=>?_;have:=hq r;rw[Ads]at this;exact this
  ·cases h
 ·cases h
theorem Blj(t:TypeId)(a:Operand):Jc P (.box t a):=fun R e e' m x m' he hg h=>by
 have ha:=Ee he hg a;have h':(match ((rdK a).run e).cells with|some c=>OR.v (.p m.nx 0) (m.add (.cells c))|none=>.bad) = .v x m':=h;split at h'
 ·rename_i c hc;obtain⟨rfl,rfl⟩:=Hz h';refine .inr (Arr (vs:=(Af e' a).cells.toList) (el:=t) (Instr.box t (Af e' a)) (fun r=>.pointer (some ⟨r,0,none⟩)) (fun _ _ _ _ _=>rfl) (fun Y Z Q hq=>?_) (ha.cells hc) fun R' r hr=>.p hr .nil);show wpS P Y ((newVar t (Af e' a)).bind _) Z _;rw[Ad];refine Ik fun r=>?_;have:=hq r;rw[Ads]at this;exact this
 ·cases h'
theorem Atk(t:TypeId):Jc P (.makeMap t none):=fun R e e' m x m' he hg h=>by
 obtain⟨rfl,rfl⟩:=Hz h;refine .inr (Auw (c:=0) (ob:=.map ([]:List MapEntry).toArray 0) (Instr.makeMap t none) (fun r=>.map (some r)) (fun _ _ _ _ _=>rfl) (fun Y Z Q hq=>?_) (fun R' hR=>.map .nil .nil ⟨fun i e h=>(by cases h),rfl⟩) fun R' r hr=>.m hr .nil);show wpS P Y ((newObj (.map #[] 0)).bind _) Z _;rw[Ad];exact .inl ⟨rfl,fun r=>hq r⟩
theorem Aoi(t:TypeId)(s:Operand):Jc P (.makeChan t s):=fun R e e' m x m' he hg h=>by
 have hs:=Ee he hg s;unfold opK at h;simp only at h;split at h
 ·rename_i dir el hT;split at h
  ·rename_i ti hi;have h':(match (rdK s).run e with
    | .i _ (.ofNat 0)=>OR.v (.c m.nx) (m.add .chan)
    | .i _ (.ofNat (n+1))=>match Nat.ble ti.bytes 4096,Nat.ble (n+1) 1000 with|true,true=>.v (.c m.nx) (m.add (.crowd (n+1) []))|_,_=>.bad
    | _=>.bad) = .v x m':=h
   split at h'
   ·rename_i k hu;obtain⟨rfl,rfl⟩:=Hz h';rw[hu]at hs;refine .inr ⟨.add m .chan,fun _=>Ats _,fun Y Z Z9 dd ty pos af g hm=>?_⟩;obtain⟨L,G,hm⟩:=hm;show wpS P Y ((Instr.makeChan t (Af e' s)).bind fun v=>Sem.pure (Next.value v)) Z _;rw[Ad,Nz hs];show wpS P Y ((underlying t).bind _) Z _;rw[Ad];refine Az hT ?_;show wpS P Y ((typeInfo el).bind _) Z _;rw[Ad];refine Gj hi ?_;have hmx:¬((0:Int)<0∨(0:Int)>IntKind.i64.max∨(ti.bytes:Int)*0>2^48-112):=by
     have:IntKind.i64.max=9223372036854775807:=by simp[IntKind.max,IntKind.signed,IntKind.bits]
     omega
    show wpS P Y (if ((0:Int)<0∨(0:Int)>IntKind.i64.max∨(ti.bytes:Int)*0>2^48-112) then _ else _) Z _;rw[if_neg hmx];show wpS P Y ((newObj (.chan 0 #[] false 0 0 false)).bind _) Z _;rw[Ad];refine .inr (.inl ⟨rfl,fun r=>?_⟩);exact⟨R.add m.nx (r,0),_,hm.fresh _,.inl rfl,.c XR.add_same .nil,hm.add .chan⟩
   ·rename_i k n hu;split at h'
    ·rename_i a b;have a:=lZ6 a;have b:=lZ6 b;obtain⟨rfl,rfl⟩:=Hz h';rw[hu]at hs;refine .inr ⟨.add m _,fun _=>Ats _,fun Y Z Z9 dd ty pos af g hm=>?_⟩;obtain⟨L,G,hm⟩:=hm;show wpS P Y ((Instr.makeChan t (Af e' s)).bind fun v=>Sem.pure (Next.value v)) Z _;rw[Ad,Nz hs];show wpS P Y ((underlying t).bind _) Z _;rw[Ad];refine Az hT ?_;show wpS P Y ((typeInfo el).bind _) Z _;rw[Ad];refine Gj hi ?_;have hmx:¬(((n+1:Nat):Int)<0∨((n+1:Nat):Int)>IntKind.i64.max∨(ti.bytes:Int)*((n+1:Nat):Int)>2^48-112):=by
      have d:IntKind.i64.max=9223372036854775807:=by simp[IntKind.max,IntKind.signed,IntKind.bits]
      have j:ti.bytes*(n+1)<=4096*1000:=Ame a b;have f:(ti.bytes:Int)*((n+1:Nat):Int)=((ti.bytes*(n+1):Nat):Int):=by push_cast;rfl
      rw[d,f];omega
     show wpS P Y (if (((n+1:Nat):Int)<0∨((n+1:Nat):Int)>IntKind.i64.max∨(ti.bytes:Int)*((n+1:Nat):Int)>2^48-112) then _ else _) Z _;rw[if_neg hmx];show wpS P Y ((newObj (.chan (n+1) #[] false 0 0 false)).bind _) Z _;rw[Ad];refine .inr (.inr ⟨n+1,rfl,fun r=>?_⟩);exact⟨R.add m.nx (r,0),_,hm.fresh _,.inl rfl,.c XR.add_same .nil,hm.add (.crowd (Rs:=[]) trivial)⟩
    ·cases h'
   ·cases h'
  ·cases h
 ·cases h
end
end
section
section
variable{P:Program}{R:XR}{e:Tr CV}{e':Env}{m m':Mem}{x:CV}{Y:Ro}{Z Z9:Own}{L:List (Nat×Nat×Res)}{G:Own}{t:TypeId}
theorem Bfh{k off n r}(h:m.read k off n=some r):∃l,m.row k=some l/\n<=(l.drop off).length/\r=(l.drop off).take n:=by
 unfold Mem.read at h;cases hr:m.row k with
 | none=>rw[hr]at h;cases h
 | some l =>
  rw[hr]at h;simp only[Aan]at h;obtain⟨b,c⟩:=Aau _ _ _ h;exact⟨l,rfl,b,c⟩
theorem MemR.cells(hm:MemR R m Y Z Z9 L G){k off n l r}(hk:m.row k=some l)(hn:n<=(l.drop off).length)(hr:r=(l.drop off).take n):
  ∃(b c:Nat) (vs:List Value),R k=some (b,c)/\VR R r vs/\vs.length=n/\(∀Q:Array Value->Own->Prop,Q vs.toArray Z->wpS P Y (loadCells ⟨b,off,none⟩ n) Z Q)/\∀v,vs=[v]->∀Q:Value->Own->Prop,Q v Z->wpS P Y (load ⟨b,off,none⟩) Z Q:=by
 obtain⟨b,c,l',rest,t,fz,h,d,e⟩:=hm.row hk;have hv:VR R r ((l'.drop off).take n):=by rw[hr];exact(e.drop off).take n
 have g:((l'.drop off).take n).length=n:=by
  have:=(e.drop off).len;rw[Jb];omega
 have f:∀j v,((l'.drop off).take n)[j]?=some v->Gy (.cells (l'++rest).toArray t fz) (off+j)=some v:=fun j v hj=>by
  have hj':=(lZ4.1 hj).1;rw[Afp (by omega),Ama]at hj;simp only[Gy,Me];rw[Atq (lZ4.1 hj).1];exact hj
 refine⟨b,c,_,h,hv,g,fun Q hq=>?_,fun v i Q hq=>?_⟩
 ·show wpS P Y (loadCellsFrom ⟨b,off,none⟩ 0 n #[]) Z Q;have:=Ff (P:=P) (a:=⟨b,off,none⟩) rfl d (Q:=Q) ((l'.drop off).take n) 0 #[] (fun j v hj=>by simpa using f j v hj) (by simpa using hq)
  rwa[g]at this
 ·refine⟨rfl,rfl,_,v,d,?_,hq⟩;have:=f 0 v (by rw[i];rfl);simpa using this
theorem Acn{Q r i fz}:∀(vs:List Value) (a:Addr) (k:Nat) (c:List Value) (Z:Own),a.block=r->a.spot=none->(∀v∈vs,single v=true)->Z[i]?=some (r,.obj (.cells c.toArray t fz))->a.off+k+vs.length<=c.length->Bfx c.length fz ->
  Q () (Z.set i (r,.obj (.cells (over c (a.off+k) vs).toArray t fz)))->wpS P Y (storeCells a vs k) Z Q:=by
 intro vs;induction vs with
 | nil =>
  intro a k c Z _ _ _ hi _ _ hq;have:Z.set i (r,Res.obj (.cells (over c (a.off+k) []).toArray t fz))=Z:=by
   apply Atr;intro j;rw[Vi];split
   ·rename_i e;subst e;split
    ·exact hi.symm
    ·rename_i h;rw[Sa (by omega)]
   ·rfl
  rw[this]at hq;exact hq
 | cons v vs ih =>
  intro a k c Z ha hs hv hi hl hf hq;simp only[lZ9]at hl;show wpS P Y ((store (a.add k) v).bind _) Z Q;rw[Ad,Agj a hs];refine⟨rfl,rfl,hv v mC,i,c.toArray,t,fz,by rw[ha];exact hi,by simp;omega,hf _ (by show a.off+k<_;omega),?_⟩;have hlt:i<Z.length:=by
   rcases Re i Z.length with h|h
   ·exact h
   ·rw[Sa h]at hi;cases hi
  refine ih a (k+1) (c.set (a.off+k) v) _ ha hs (fun w hw=>hv w (lZ0 _ hw)) ?_ (by rw[Wb];omega) (by rw[Wb];exact hf) ?_
  ·rw[Vi];simp only[if_true,hlt];rw[ha];simp
  ·rw[Bei];rw[over]at hq;rw[show a.off+(k+1)=a.off+k+1 by omega];exact hq
theorem Bbb(t:TypeId)(a v:Operand):Jc P (.store t a v):=fun R e e' m x m' he hg h=>by
 have ha:=Ee he hg a;have hv:=Ee he hg v;unfold opK at h;simp only at h;split at h
 ·rename_i n hn;have h':(match (rdK a).run e with
   | .p k off=>match ((rdK v).run e).cells with
    | some c=>match Nat.beq (xLen c) n with
     | true=>match m.store k off c with|some m=>OR.v .undef m|none=>.bad
     | false=>.bad
    | none=>.bad
   | _=>.bad) = .v x m':=h
  split at h'
  ·rename_i k off hu;rw[hu]at ha;obtain⟨b,E,hR,hav⟩:=Azb ha;split at h'
   ·rename_i c hc;have hcv:=hv.cells hc;split at h'
    ·rename_i y;have y:=lZ8 y;rw[Ig,hcv.len]at y;cases hst:m.store k off c with
     | none=>rw[hst]at h';cases h'
     | some m1 =>
      rw[hst]at h';obtain⟨rfl,rfl⟩:=Hz h';unfold Mem.store at hst;split at hst
      ·cases hst
      ·rename_i hall;have hsg:=hcv.singles hall;have go:∀{o o':CO},m.M.get k=some (.own o)->o ≠ .dead->m1=m.put k o'->(∀{R:XR} {d:Nat} {rs:Res},VR R c (Af e' v).cells.toList->ObjR R d o rs->∃cs t fz,rs = .obj (.cells cs.toArray t fz)/\off+(Af e' v).cells.toList.length<=cs.length/\Bfx cs.length fz/\ObjR R d o' (.obj (.cells (over cs off (Af e' v).cells.toList).toArray t fz))) ->
         Bfv P (.store t a v) R e' m .undef m1:=fun {o o'} hget hd hm1 hobj=>by
        subst hm1;refine⟨.put _ _ _,fun hx=>(by cases hx),fun Y Z Z9 dd ty pos af g hm=>?_⟩;obtain⟨L,G,hm⟩:=hm;obtain⟨D,F,rs,i,j,f,u,q⟩:=hm.at hget hd;rw[hR]at j;cases j;obtain⟨cs,t',fz,rfl,w,z,C⟩:=hobj hcv u;show wpS P Y ((Instr.storeAt t (Af e' a) (Af e' v)).bind fun _=>Sem.pure Next.skip) Z _;rw[Ad,hav];show wpS P Y ((sizeOf t).bind _) Z _;rw[Ad];refine Dx (Ny hn) ?_;have hsz:(Af e' v).cells.size=n:=by rw[<-y];simp
        show wpS P Y (if (Af e' v).cells.size≠n then _ else storeCells ⟨b,off,none⟩ (Af e' v).cells.toList) Z _;rw[if_neg (by simpa using hsz)];refine Acn _ ⟨b,off,none⟩ 0 cs Z rfl rfl hsg f (by simpa using w) z ?_;rw[Abw];exact⟨R,undef,.refl,.inr ⟨rfl,rfl⟩,.t .nil .nil,hm.put q hR f C⟩
       split at hst
       ·rename_i l hget;split at hst
        ·rename_i r hs;cases hst;refine .inr (go hget (by simp) rfl fun {R d rs} hw ho=>?_);cases ho with
         | @cells _ l' t1 fz j f =>
          obtain⟨u,q⟩:=j.set hs hw;exact⟨l',t1,fz,rfl,u,f,.cells q (by rw[Pr];exact f)⟩
        ·cases hst
       ·rename_i n' l hget;split at hst
        ·rename_i r hs;cases hst;refine .inr (go hget (by simp) rfl fun {R d rs} hw ho=>?_);cases ho with
         | @grow _ _ l' rest t1 fz j f u q =>
          obtain⟨w,z⟩:=j.set hs hw;refine⟨l'++rest,t1,fz,rfl,by rw[lZ3];omega,by rw[lZ3];exact q,?_⟩;have B:over (l'++rest) off (Af e' v).cells.toList=over l' off (Af e' v).cells.toList++rest:=by
           rw[Qe _ _ _ (by rw[lZ3];omega),Qe _ _ _ w,Bvb (by omega),Bdl w];simp
          rw[B];exact .grow z (by rw[Pr];exact f) u (by rw[Pr];exact q)
        ·cases hst
       ·cases hst
    ·cases h'
   ·cases h'
  ·cases h'
 ·cases h
end
end
end
end Go.Proofs.YtfeahfjambednaaGreatDoor
