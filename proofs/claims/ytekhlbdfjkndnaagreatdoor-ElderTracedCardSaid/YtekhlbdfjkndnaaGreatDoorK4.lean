/- Part 4 of what all laws of layer 8 need: a logic of programs that start goroutines, and what the functions yield. -/
import Derived.Test.YtekhlbdfjkndnaaGreatDoorK3
import Derived.KernelRfl
set_option linter.unusedVariables false
set_option linter.unusedSimpArgs false
set_option maxRecDepth 100000
set_option maxHeartbeats 4000000
namespace Go.Proofs.YtekhlbdfjkndnaaGreatDoor
open Go
noncomputable section
section
theorem Bps{l:List LPart}{j k:Nat}{q:LPart}{s:ByteArray}(hq:l[j]?=some q)(hjk:j<k)(h:(q.of_.toList==s.toList)=true):Jl (l.take k) s=true:=by unfold Jl;rw[Aqj];exact⟨q,lZ6 (i:=j) (by rw[Zc hjk];exact hq),by rw[Bool.beq_comm];exact h⟩
theorem Buz{b:LBook}{i:Nat}{s:ByteArray}{y:LLot}(hn:b.lots[(Cr (b.lots.take i) s).toNat]?=some y)(h:Cr (b.lots.take i) s>=0):(b.lots.take i)[(Cr (b.lots.take i) s).toNat]?=some y:=by obtain⟨z,hz,_⟩:=Wf h;have:=(lZ1.1 hz).1;rw[Lo]at this;rw[Zc (by omega)];exact hn
theorem Axi{b:LBook}{i:Nat}{s:ByteArray}(h:Cr (b.lots.take i) s>=0):(Cr (b.lots.take i) s).toNat<b.lots.length:=by obtain⟨z,hz,_⟩:=Wf h;have:=(lZ1.1 hz).1;rw[Lo]at this;omega
theorem Bus{l:List LPart}{j:Nat}{q:LPart}{s:ByteArray}(hq:l[j]?=some q)(h:(q.of_.toList==s.toList)=false)(hs:Jl (l.take j) s=false):Jl (l.take (j+1)) s=false:=by rw[<-Acr hq s,hs,Bool.beq_comm,h];rfl
variable{mn:Bool}{X:Frame->List Frame->Ro->Own->Cy->Prop}{Y:Ro}{Z:Own}
theorem Bcg{l:LLot}{vl:Value}(rl:Val Y vl l)(hn:l.parts.length<=100000)(hb:∀p∈l.parts,0<=p.grams/\p.grams<=100000):CallsH (CX mn X) 19 #[vl] Y Z (rP Y Z (iV (Ef l))):=by
 refine Bu 21 [2] Tryz.func19 rfl fun Q u a3=>qA fun O w=>Arv (Nk (v:=vl) rfl fun y=>?_);refine Bb (a:=l) rl fun N H n=>Au (iV 0) (qC w fun T C=>Au (iV 0) (Ary rfl rfl C fun U V D E=>Au (iV 0) (l_k E (Ao (Cc (fun mm ee dd Y' Z'=>∃(i:Nat) (a:Int),(l.parts.length-i)=mm/\[]=dd/\N=Y'/\Z=Z'/\ee 1=pV y/\ee 3=iV a/\ee 4=iV i/\(i<=l.parts.length)/\(a=Yc (l.parts.take i))/\(0<=a/\a<=100000*(i:Int))/\True) (m:=_) ⟨0,0,rfl,rfl,rfl,rfl,rfl,rfl,rfl,Hn _,rfl,⟨by omega,by omega⟩,trivial⟩ ?_)))));rintro m6 ZQ _ _ _ ⟨i,a,rfl,rfl,rfl,rfl,d,g,e,a5,h,a6,_⟩;refine qD fun W YQ F G=>l_v (Ah (v:=iV i) e) (Arw (Ba LLot.f_parts Cdr rfl Fl n d) fun v9 M=>Arw (Ax Fl rfl M) fun a7 j=>?_);have a0:=Val.len j;refine l_v (Ci (el:=38) Cdt rfl j) (l_v (Da rfl rfl) (l_k G (Bp (t:=decide ((i:Int)<(l.parts.length:Int))) rfl (fun c=>?_) (fun c=>?_))))
 ·have I:=lZ3 c;refine Al (kk F ?_);refine Ai fun P x=>Ao (qB (l_v (Ah (v:=iV a) g) (Arw (Ba LLot.f_parts Cdr rfl Fl n d) fun a8 J=>Arw (Ax Fl rfl J) fun a9 K=>l_v (Ah (v:=iV i) e) ?_)));obtain⟨b,f⟩:=Ed (xs:=l.parts) (i:=i) (by omega);have a4:=hb _ (lZ6 f);refine Arw (Ch i Cdt Je rfl K (q:=(i:Int)) rfl rfl f) fun aa L=>Arw (Ba LPart.f_grams Cds rfl ty3 L) fun ab k=>?_;have⟨a1,a2⟩:=At.rng k;refine l_v (Bc ty3 rfl k) (l_v (Br rfl rfl (z:=a+b.grams) (Bo (by rfl) (by omega) (by omega))) (Au (iV (a+b.grams)) (l_k x (qB (l_v (Ah (v:=iV i) e) (l_v (Fp (((i+1):Nat):Int)) (Au (iV ((i+1):Nat)) (Ac ?_))))))));refine⟨_,?_,(i+1),(a+b.grams),rfl,rfl,rfl,rfl,d,rfl,rfl,(by omega),(by rw[Arn f,h]),⟨by omega,by omega⟩,trivial⟩;omega
 have I:=lZ2 c;refine Bx (kk D ?_);refine qA fun R B=>l_v (Ah (v:=iV a) g) (Au (iV a) (l_k B (Aj (Cfq H) (Aq (u (rT (iV a) ?_))))));rw[h,show i=l.parts.length by omega,Agm];rfl
theorem Bch{l:List LLot}{vl:Value}{s:ByteArray}(rl:Val Y vl l):CallsH (CX mn X) 47 #[vl,.string s] Y Z (rP Y Z (iV (Cr l s))):=by
 refine Bu 20 [4] Tryz.func47 rfl fun Q u a0=>qA fun L y=>Au (iV 0) (qE y fun P R D E=>Au (iV 0) (l_k E (Ao (Cc (fun mm ee dd Y' Z'=>∃(i:Nat),(l.length-i)=mm/\[]=dd/\Y=Y'/\Z=Z'/\ee 0=vl/\ee 1=(.string s)/\ee 5=iV i/\(i<=l.length)/\(∀j,j<i->atP l (fun x=>x.name.toList==s.toList) j=false)/\True) (m:=_) ⟨0,rfl,rfl,rfl,rfl,rfl,rfl,rfl,Hn _,fun j h=>absurd h (Uk _),trivial⟩ ?_))));rintro m4 W _ _ _ ⟨i,rfl,rfl,rfl,rfl,d,k,c,a1,f,_⟩;refine qD fun T U F G=>l_v (Ah (v:=iV i) c) (l_v (Ah (v:=vl) d) ?_);have ZQ:=Val.len rl;refine l_v (Ci (el:=36) Cdp rfl rl) (l_v (Da rfl rfl) (l_k G (Bp (t:=decide ((i:Int)<(l.length:Int))) rfl (fun b=>?_) (fun b=>?_))))
 ·have J:=lZ3 b;refine Al (kk F ?_);refine Ai fun V H=>Ao (qA fun M z=>l_v (Ah (v:=vl) d) (l_v (Ah (v:=iV i) c) ?_));obtain⟨g,e⟩:=Ed (xs:=l) (i:=i) (by omega);refine Arw (Ch i Cdp Ga rfl rl (q:=(i:Int)) rfl rfl e) fun a2 K=>Arw (Ba LLot.f_name Cdr rfl ty9 K) fun a3 w=>?_;have YQ:=At.slen w;refine l_v (Pk ty9 rfl w) (l_v (Ah (v:=.string s) k) (l_v (Ain (p:=g.name) (q:=s) rfl rfl) (l_k z (Bp (t:=(g.name).toList==(s).toList) rfl (fun a=>?_) (fun a=>?_)))))
  ·have I:=Jr a;refine qA fun N B=>l_v (Ah (v:=iV i) c) (Au (iV i) (l_k B (Aq (u (rT (iV i) ?_)))));have hi:=Fh (n:=l.length) f (by omega) (show atP l _ i=true by simp only[atP,e,b,a]);rw[<-Zf];simp only[Oi,hi]
  have I:=Jq a;refine Al (kk H ?_);refine qB (l_v (Ah (v:=iV i) c) (l_v (Fp (((i+1):Nat):Int)) (Au (iV ((i+1):Nat)) (Ac ?_))));refine⟨_,?_,(i+1),rfl,rfl,rfl,rfl,d,k,rfl,(by omega),(Eg f (by simp only[atP,e,b,a])),trivial⟩;omega
 have J:=lZ2 b;refine Bx (kk D ?_);refine qA fun O C=>Au (iV (-1)) (l_k C (Aq (u (rT (iV (-1)) ?_))));have hn:=Ep (n:=l.length) fun j hj=>f j (by omega);rw[<-Zf];simp only[Oi,hn]
theorem Brw{l:List LLot}{vl:Value}{s:ByteArray}(rl:Val Y vl l)(h8:l.length<=8)(hb:∀x∈l,x.parts.length<=6/\∀p∈x.parts,1<=p.grams/\p.grams<=100000):CallsH (CX mn X) 48 #[vl,.string s] Y Z (rP Y Z (iV (tkO s l))):=by
 refine Bu 47 [4] Tryz.func48 rfl fun Q N ap=>qA fun K1 O=>Au (iV 0) (Arx rfl rfl O fun K2 V=>Au (iV 0) (Ary rfl rfl V fun K3 K4 YQ k4=>Au (iV 0) (l_k k4 (Ao (Cc (fun mm ee dd Y' Z'=>∃(i:Nat) (a:Int),(l.length-i)=mm/\[]=dd/\Y=Y'/\Z=Z'/\ee 0=vl/\ee 1=(.string s)/\ee 5=iV a/\ee 6=iV i/\(i<=l.length)/\(a=tkO s (l.take i))/\(0<=a/\a<=600000*(i:Int))/\True) (m:=_) ⟨0,0,rfl,rfl,rfl,rfl,rfl,rfl,rfl,rfl,Hn _,rfl,⟨by omega,by omega⟩,trivial⟩ ?_)))));rintro m5 e5 _ _ _ ⟨i,a,rfl,rfl,rfl,rfl,D,L,E,F,aw,H,ax,_⟩;refine qD fun K6 K7 k6 k7=>l_v (Ah (v:=iV i) F) (l_v (Ah (v:=vl) D) ?_);have g8:=Val.len rl;refine l_v (Ci (el:=36) Cdp rfl rl) (l_v (Da rfl rfl) (l_k k7 (Bp (t:=decide ((i:Int)<(l.length:Int))) rfl (fun y=>?_) (fun y=>?_))))
 ·have q9:=lZ3 y;refine Al (kk k6 ?_);refine Ai fun ac P=>Ao (qA fun ad R=>Au (iV 0) (l_k R (Ao ?_)));obtain⟨b,j⟩:=Ed (xs:=l) (i:=i) (by omega);obtain⟨ao,M⟩:=hb _ (lZ6 j);refine Cc (fun mm ee dd Y' Z'=>∃(k:Nat) (c:Int),(b.parts.length-k)=mm/\[]=dd/\Y=Y'/\Z=Z'/\ee 0=vl/\ee 1=(.string s)/\ee 6=iV i/\ee 5=iV c/\ee 7=iV k/\(k<=b.parts.length)/\(c=tkO s (l.take i)+Sn s (b.parts.take k))/\(0<=c/\c<=600000*(i:Int)+100000*(k:Int))/\True) (m:=_) ⟨0,a,rfl,rfl,rfl,rfl,D,L,F,E,rfl,Hn _,(by rw[H];exact(Bdy _).symm),⟨by omega,by omega⟩,trivial⟩ ?_;rintro ar aj _ _ _ ⟨k,c,rfl,rfl,rfl,rfl,d,u,e,B,h,au,C,av,_⟩;refine qD fun ae af T U=>l_v (Ah (v:=iV k) h) (l_v (Ah (v:=vl) d) (l_v (Ah (v:=iV i) e) (Arw (Ch i Cdp Ga rfl rl (q:=(i:Int)) rfl rfl j) fun ay a2=>Arw (Ba LLot.f_parts Cdr rfl Fl a2) fun az a3=>Arw (Ax Fl rfl a3) fun b0 I=>?_)));have ak:=Val.len I;refine l_v (Ci (el:=38) Cdt rfl I) (l_v (Da rfl rfl) (l_k U (Bp (t:=decide ((k:Int)<(b.parts.length:Int))) rfl (fun w=>?_) (fun w=>?_))))
  ·have a0:=lZ3 w;refine Al (kk T ?_);refine Ai fun ag G=>Ao (qA fun ah W=>l_v (Ah (v:=vl) d) (l_v (Ah (v:=iV i) e) (Arw (Ch i Cdp Ga rfl rl (q:=(i:Int)) rfl rfl j) fun b1 a4=>Arw (Ba LLot.f_parts Cdr rfl Fl a4) fun b2 a5=>Arw (Ax Fl rfl a5) fun b3 a6=>l_v (Ah (v:=iV k) h) ?_)));obtain⟨f,n⟩:=Ed (xs:=b.parts) (i:=k) (by omega);have aq:=M _ (lZ6 n);refine Arw (Ch k Cdt Je rfl a6 (q:=(k:Int)) rfl rfl n) fun b4 a7=>Arw (Ba LPart.f_of_ Cds rfl ty9 a7) fun b5 J=>?_;have al:=At.slen J;refine l_v (Pk ty9 rfl J) (l_v (Ah (v:=.string s) u) (l_v (Ain (p:=f.of_) (q:=s) rfl rfl) (l_k W (Bp (t:=(f.of_).toList==(s).toList) rfl (fun g=>?_) (fun g=>?_)))))
   ·have a1:=Jr g;refine qB (l_v (Ah (v:=iV c) B) (l_v (Ah (v:=vl) d) (l_v (Ah (v:=iV i) e) (Arw (Ch i Cdp Ga rfl rl (q:=(i:Int)) rfl rfl j) fun b6 a8=>Arw (Ba LLot.f_parts Cdr rfl Fl a8) fun b7 a9=>Arw (Ax Fl rfl a9) fun b8 aa=>l_v (Ah (v:=iV k) h) (Arw (Ch k Cdt Je rfl aa (q:=(k:Int)) rfl rfl n) fun ba ab=>Arw (Ba LPart.f_grams Cds rfl ty3 ab) fun bb K=>?_)))));have⟨am,an⟩:=At.rng K;refine l_v (Bc ty3 rfl K) (l_v (Br rfl rfl (z:=c+f.grams) (Bo (by rfl) (by omega) (by omega))) (Au (iV (c+f.grams)) (l_k G (qB (l_v (Ah (v:=iV k) h) (l_v (Fp (((k+1):Nat):Int)) (Au (iV ((k+1):Nat)) (Ac ?_))))))));refine⟨_,?_,(k+1),(c+f.grams),rfl,rfl,rfl,rfl,d,u,e,rfl,rfl,(by omega),(by rw[Aro n,if_pos (Ccq g),C];omega),⟨by omega,by omega⟩,trivial⟩;omega
   have a1:=Jq g;refine Al (kk G ?_);refine qB (l_v (Ah (v:=iV k) h) (l_v (Fp (((k+1):Nat):Int)) (Au (iV ((k+1):Nat)) (Ac ?_))));refine⟨_,?_,(k+1),c,rfl,rfl,rfl,rfl,d,u,e,B,rfl,(by omega),(by rw[Aro n,if_neg (Ccp g),C];omega),⟨by omega,by omega⟩,trivial⟩;omega
  have a0:=lZ2 w;refine Bx (kk P ?_);refine qB (l_v (Ah (v:=iV i) e) (l_v (Fp (((i+1):Nat):Int)) (Au (iV ((i+1):Nat)) (Ac ?_))));refine⟨_,?_,(i+1),c,rfl,rfl,rfl,rfl,d,u,B,rfl,(by omega),(by rw[Aym j,C,show k=b.parts.length by omega,Agm]),⟨by omega,by omega⟩,trivial⟩;omega
 have q9:=lZ2 y;refine Bx (kk YQ ?_);refine qA fun ai ZQ=>l_v (Ah (v:=iV a) E) (Au (iV a) (l_k ZQ (Aq (N (rT (iV a) ?_)))));rw[H,show i=l.length by omega,Agm]
theorem Azl{b:LBook}{i:Nat}{vb:Value}(rv:Val Y vb b)(ok:LotsOk ⟨b.fields,b.lots.take i⟩)(hn8:b.lots.length<=8)(hi:i<b.lots.length):CallsH (CX mn X) 23 #[vb,iV i] Y Z (rP Y Z (iV (Nz b i))):=by
 refine Bu 108 [4] Tryz.func23 rfl fun Q B et=>qA fun K1 k1=>Arv (Nk (v:=vb) rfl fun k2=>?_);refine Bb (a:=b) rv fun g5 C u=>Au (iV 0) (qC k1 fun K3 k3=>Arw (Ba LBook.f_lots Cdm rfl Dr u) fun v4 r4=>Arw (Ax Dr rfl r4) fun v5 r5=>Av (iV i) ?_);obtain⟨g,w⟩:=Ed (xs:=b.lots) (i:=i) (by omega);refine Arw (Ch i Cdp Ga rfl r5 (q:=(i:Int)) rfl rfl w) fun v6 r6=>Arw (Ax Ga rfl r6) fun v8 r8=>Arv (Ct Auu fun k9=>?_);refine Cx rfl (Dv (v:=v8) (a:=g) (c:=Aut) Ga rfl rfl r8 rfl ?_);refine Bb (a:=g) r8 fun d9 y D=>?_;replace u:=At.mono y u;refine qE k3 fun da de bg bj=>Arw (Ba LLot.f_name Cdr rfl ty9 D) fun ff aw=>?_;have eg:=At.slen aw;refine l_v (Pk ty9 rfl aw) (Arv (Cw Bkh Tryz.func22 ?_));refine l_v (Iy rfl) (l_k bj (Bp (t:=!(Hg g.name)) rfl (fun a4=>?_) (fun a4=>?_)))
 ·have b8:=not_eq_t a4;refine qA fun df bk=>Au (iV 4) (l_k bk (Aj (Cfq (Cft C y)) (Aq (B (rT (iV 4) ?_)))));rw[Pt w (Bvr b8)]
 have E:=Ha a4;refine Al (kk bg ?_);refine Ai fun dg bl=>Ai fun dh am=>Ais (Hd 0 (zT 1 15) rfl (Ba LBook.f_fields Cdm rfl Hw u) fun fg cr=>Hd 1 (zT 2 14) rfl (Ax Hw rfl cr) fun fh cs=>Jp 2 (zT 3 13) rfl (Ba LLot.f_name Cdr rfl ty9 D) fun fi ax=>?_);have eh:=At.slen ax;refine Fd 3 (zT 4 12) rfl (Pk ty9 rfl ax) (Qp 4 (zT 5 11) rfl (Bm (Ass cs) Cfb rfl rfl ⟨rfl,rfl,trivial⟩ ⟨Cfs,?_⟩));refine Fd 5 (zT 6 10) rfl (Uy rfl rfl) (Fd 6 (zT 7 9) rfl (Ah (v:=.bool (decide (Aht b.fields g.name>=0))) rfl) (Akk (decide (Aht b.fields g.name>=0)) (fun f=>?_) (fun f=>?_)))
 ·have G:=lZ3 f;refine Jg 7 (zT 8 8) rfl Cfs (gN rfl f) (Jg 8 (zT 9 7) rfl Cfs (gN rfl f) (Jg 9 (zT 10 6) rfl Cfs (gN rfl f) (Jg 10 zZ2 rfl Cfs (gN rfl f) (Ty 11 zZ3 rfl Cfs (gN rfl f) (Ty 12 zZ4 rfl Cfs (gN rfl f) (Ty 13 zZ5 rfl Cfs (gN rfl f) (Ty 14 zZ6 rfl Cfs (gN rfl f) (Fd 15 zZ7 rfl (Bt rfl f (v:=bT) rfl) (Ec rfl (kk am ?_))))))))));refine Co rfl rfl (qA fun di bm=>Au (iV 5) (l_k bm (Aj (Cfq (Cft C y)) (Aq (B (rT (iV 5) ?_))))));rw[Pt w (Bnm E (Axk.2 (.inl G)))]
 have G:=lZ2 f;refine Mm 7 (zT 8 8) rfl Cfs (qF f) (Ba LBook.f_lots Cdm rfl Dr u) fun fj ct=>Mm 8 (zT 9 7) rfl Cfs (qF f) (Ax Dr rfl ct) fun fk cu=>Tz 9 (zT 10 6) rfl Cfs (qF f) (Ah (v:=iV i) rfl) (Mm 10 zZ2 rfl Cfs (qF f) (Uu i Cdp Ga rfl cu (q:=(i:Int)) rfl rfl (by omega)) fun fl cv=>Akp 11 zZ3 rfl Cfs (qF f) (Ba LLot.f_name Cdr rfl ty9 D) fun fm ay=>?_);have ei:=At.slen ay;refine Td 12 zZ4 rfl Cfs (qF f) (Pk ty9 rfl ay) (Aza 13 zZ5 rfl (qF f) (Bm (Bch (s:=g.name) cv) Tryz.func47 rfl rfl ⟨rfl,rfl,trivial⟩ ⟨Cfs,?_⟩));refine Td 14 zZ6 rfl Cfs (qF f) (Uy rfl rfl) (Fd 15 zZ7 rfl (Bn rfl f (v:=.bool (decide ((Cr (b.lots.take i) g.name)>=0))) rfl) (Ec rfl (kk am ?_)));refine Bp (t:=decide ((Cr (b.lots.take i) g.name)>=0)) rfl (fun a5=>?_) (fun a5=>?_)
 ·have H:=lZ3 a5;refine qA fun dj bn=>Au (iV 5) (l_k bn (Aj (Cfq (Cft C y)) (Aq (B (rT (iV 5) ?_)))));rw[Pt w (Bnm E (Axk.2 (.inr H)))]
 have H:=lZ2 a5;refine Al (kk bl ?_);refine qD fun dk dl bo bp=>Arw (Ba LLot.f_parts Cdr rfl Fl D) fun fn cw=>Arw (Ax Fl rfl cw) fun fo az=>?_;have ej:=Val.len az;refine l_v (Ci (el:=38) Cdt rfl az) (Arv (Cw Bwn Cfk ?_));refine l_v (Iy rfl) (l_k bp (Bp (t:=!(inR (g.parts.length:Int) 1 6)) rfl (fun a6=>?_) (fun a6=>?_)))
 ·have aj:=not_eq_t a6;have f0:=Aic.1 aj;refine qA fun dm bq=>Au (iV 2) (l_k bq (Aj (Cfq (Cft C y)) (Aq (B (rT (iV 2) ?_)))));rw[Pt w (Bvq E (Baz G H) aj)]
 have L:=Ha a6;have f1:=Fz.1 L;refine Al (kk bo ?_);refine qD fun dn dp br bt=>Au (iV 0) (l_k bt (Ao (Cc (fun mm ee dd Y' Z'=>∃(k:Nat),(g.parts.length-k)=mm/\[]=dd/\d9=Y'/\Z=Z'/\ee 1=iV i/\ee 2=pV k2/\ee 5=pV k9/\ee 6=iV k/\(k<=g.parts.length)/\(∀j,j<k->Ahc (Im (Hz b.fields) (b.lots.take i)) (tkM (b.lots.take i)) g.parts j=0)/\True) (m:=_) ⟨0,rfl,rfl,rfl,rfl,rfl,rfl,rfl,rfl,Hn _,fun j h=>absurd h (Uk _),trivial⟩ ?_)));rintro ew e8 _ _ _ ⟨k,rfl,rfl,rfl,rfl,ac,W,YQ,ZQ,ey,J,_⟩;refine qD fun dq dr bu bv=>l_v (Ah (v:=iV k) ZQ) (Arw (Ba LLot.f_parts Cdr rfl Fl D YQ) fun fp cx=>Arw (Ax Fl rfl cx) fun fq b0=>?_);have ek:=Val.len b0;refine l_v (Ci (el:=38) Cdt rfl b0) (l_v (Da rfl rfl) (l_k bv (Bp (t:=decide ((k:Int)<(g.parts.length:Int))) rfl (fun a8=>?_) (fun a8=>?_))))
 ·have cg:=lZ3 a8;refine Al (kk bu ?_);refine Ai fun ds an=>Ao (qA fun dt bx=>Arw (Ba LLot.f_parts Cdr rfl Fl D YQ) fun fr cy=>Arw (Ax Fl rfl cy) fun fs cz=>l_v (Ah (v:=iV k) ZQ) ?_);obtain⟨e,I⟩:=Ed (xs:=g.parts) (i:=k) (by omega);refine Arw (Ch k Cdt Je rfl cz (q:=(k:Int)) rfl rfl I) fun ft d0=>Arw (Ax Je rfl d0) fun d8 b1=>Arv (Ct Ahq fun ao=>?_);refine Cx rfl (Dv (v:=d8) (a:=e) (c:=Ahp) Je rfl rfl b1 rfl ?_);refine Bb (a:=e) b1 fun b6 F M=>?_;replace u:=At.mono F u;replace D:=At.mono F D;refine Asa bx fun du bz=>Ais (Hd 0 (zT 1 7) rfl (Ba LBook.f_lots Cdm rfl Dr u W) fun fu d1=>Hd 1 (zT 2 6) rfl (Ax Dr rfl d1) fun fv d2=>Gh 2 (zT 3 5) rfl (Ah (v:=iV i) ac) (Hd 3 (zT 4 4) rfl (Uu i Cdp Ga rfl d2 (q:=(i:Int)) rfl rfl (by omega)) fun fw d3=>Jp 4 (zT 5 3) rfl (Ba LPart.f_of_ Cds rfl ty9 M) fun fx b2=>?_));have em:=At.slen b2;refine Fd 5 (zT 6 2) rfl (Pk ty9 rfl b2) (Qp 6 (zT 7 1) rfl (Bm (Bch (s:=e.of_) d3) Tryz.func47 rfl rfl ⟨rfl,rfl,trivial⟩ ⟨Cfs,?_⟩));refine Fd 7 (zT 8 0) rfl (Cp (v:=iV (Cr (b.lots.take i) e.of_)) rfl) (Ec rfl (kk bz ?_));refine Ai fun dv c0=>Ai fun b7 c1=>?_;have aq:∀(T:Bool) (ee:Env),(ee 1=iV i)/\(ee 2=pV k2)/\(ee 5=pV k9)/\(ee 6=iV k)/\(ee 7=pV ao)/\(ee 8=(iV (Cr (b.lots.take i) e.of_)))/\(ee 68=(.bool T))/\(T=true->Cr (b.lots.take i) e.of_<0/\Aht b.fields e.of_<0)/\(T=false->Aht b.fields e.of_>=0∨Cr (b.lots.take i) e.of_>=0)/\True->b7 ee [] b6 Z:=by
   rintro T e9 ⟨b9,ba,bb,bc,be,bf,bd,cd,ce,_⟩;apply c1;refine Bp (t:=T) bd (fun a9=>?_) (fun a9=>?_)
   ·obtain⟨eu,ev⟩:=cd a9;refine qA fun dw c2=>Au (iV 6) (l_k c2 (Aj (Cfq (Cft (Cft C y) F)) (Aq (B (rT (iV 6) ?_)))));rw[Pt w ((Aig E (Baz G H) L).trans (by rw[Hy,Db J (by omega) (Nj I (Bef (Baz (by omega) (by omega)))) (by decide)]))]
   have his:=ce a9;refine Al (kk c0 ?_);refine qD fun dx dy c3 c4=>Au (iV 0) (l_k c4 (Ao (Cc (fun mm ee dd Y' Z'=>∃(j:Nat),(k-j)=mm/\[]=dd/\b6=Y'/\Z=Z'/\ee 1=iV i/\ee 2=pV k2/\ee 5=pV k9/\ee 6=iV k/\ee 7=pV ao/\ee 8=(iV (Cr (b.lots.take i) e.of_))/\ee 9=iV j/\(j<=k)/\(Jl (g.parts.take j) e.of_=false)/\True) (m:=_) ⟨0,rfl,rfl,rfl,rfl,b9,ba,bb,bc,be,bf,rfl,Hn _,rfl,trivial⟩ ?_)));rintro ex ea _ _ _ ⟨j,rfl,rfl,rfl,rfl,a0,O,a1,a2,P,ad,ae,ez,U,_⟩;refine qD fun dz e0 c5 c6=>l_v (Ah (v:=iV j) ae) (l_v (Ah (v:=iV k) a2) (l_v (Da rfl rfl) (l_k c6 (Bp (t:=decide ((j:Int)<(k:Int))) rfl (fun aa=>?_) (fun aa=>?_)))))
   ·have ch:=lZ3 aa;refine Al (kk c5 ?_);refine Ai fun e1 c7=>Ao (Ai fun e2 c8=>Ais (Hd 0 (zT 1 8) rfl (Ba LLot.f_parts Cdr rfl Fl D a1) fun fy d4=>Hd 1 (zT 2 7) rfl (Ax Fl rfl d4) fun fz d5=>Gh 2 (zT 3 6) rfl (Ah (v:=iV j) ae) ?_));obtain⟨ai,af⟩:=Ed (xs:=g.parts) (i:=j) (by omega);refine Hd 3 (zT 4 5) rfl (Ch j Cdt Je rfl d5 (q:=(j:Int)) rfl rfl af) fun g0 d6=>Hd 4 (zT 5 4) rfl (Ba LPart.f_of_ Cds rfl ty9 d6) fun g1 b3=>?_;have en:=At.slen b3;refine Gh 5 (zT 6 3) rfl (Pk ty9 rfl b3) (Jp 6 (zT 7 2) rfl (Ba LPart.f_of_ Cds rfl ty9 M P) fun g2 b4=>?_);have eo:=At.slen b4;refine Fd 7 zZ0 rfl (Pk ty9 rfl b4) (Fd 8 zZ1 rfl (Ain (p:=ai.of_) (q:=e.of_) rfl rfl) (Ec rfl (kk c8 ?_)));refine Bp (t:=(ai.of_).toList==(e.of_).toList) rfl (fun N=>?_) (fun N=>?_)
    ·have ci:=Jr N;refine qA fun e3 c9=>Au (iV 5) (l_k c9 (Aj (Cfq (Cft (Cft C y) F)) (Aq (B (rT (iV 5) ?_)))));rw[Pt w ((Aig E (Baz G H) L).trans (by rw[Hy,Db J (by omega) (Nj I (Bee (Axk.2 his) (Bps af (by omega) N))) (by decide)]))]
    have ci:=Jq N;refine Al (kk c7 ?_);refine qB (l_v (Ah (v:=iV j) ae) (l_v (Fp (((j+1):Nat):Int)) (Au (iV ((j+1):Nat)) (Ac ?_))));refine⟨_,?_,(j+1),rfl,rfl,rfl,rfl,a0,O,a1,a2,P,ad,rfl,(by omega),(Bus af N U),trivial⟩;omega
   have ch:=lZ2 aa;refine Bx (kk c3 ?_);refine qD fun e4 e5 ca cb=>Arw (Ba LPart.f_grams Cds rfl ty3 M P) fun g3 b5=>?_;have⟨ep,eq⟩:=At.rng b5;refine l_v (Bc ty3 rfl b5) (Arv (Cw Bwn Cfk ?_));refine l_v (Iy rfl) (l_k cb (Bp (t:=!(inR e.grams 1 100000)) rfl (fun ab=>?_) (fun ab=>?_)))
   ·have ak:=not_eq_t ab;have f2:=Aic.1 ak;refine qA fun e6 cc=>Au (iV 1) (l_k cc (Aj (Cfq (Cft (Cft C y) F)) (Aq (B (rT (iV 1) ?_)))));rw[Pt w ((Aig E (Baz G H) L).trans (by rw[Hy,Db J (by omega) (Nj I (Bed (Axk.2 his) (show Jl (g.parts.take k) _=false by rw[show k=j by omega];exact U) ak)) (by decide)]))]
   have V:=Ha ab;have f3:=Fz.1 V;refine Al (kk ca ?_);refine Ai fun e7 ap=>Ais (Fd 0 (zT 1 20) rfl (Ah (v:=iV (Cr (b.lots.take i) e.of_)) ad) (Fd 1 (zT 2 19) rfl (Uy rfl rfl) (Fd 2 (zT 3 18) rfl (Ah (v:=.bool (decide ((Cr (b.lots.take i) e.of_)>=0))) rfl) (Akk (decide ((Cr (b.lots.take i) e.of_)>=0)) (fun d=>?_) (fun d=>?_)))))
   ·have hkb:=Bqi (s:=e.of_) (l:=b.lots.take i) (fun x hx=>Adb ok x hx);have hkl:(b.lots.take i).length<=8:=by rw[Lo];omega
    have K:=lZ3 d;refine Mm 3 (zT 4 17) rfl Cfs (qF d) (Ba LBook.f_lots Cdm rfl Dr u O) fun g4 d7=>Mm 4 (zT 5 16) rfl Cfs (qF d) (Ax Dr rfl d7) fun f4 cj=>Tz 5 (zT 6 15) rfl Cfs (qF d) (Ah (v:=iV i) a0) (Mm 6 (zT 7 14) rfl Cfs (qF d) (Uu i Cdp Ga rfl cj (q:=(i:Int)) rfl rfl (by first|omega|exact Axi K)) fun f5 ck=>Mm 7 (zT 8 13) rfl Cfs (qF d) (Ba LPart.f_of_ Cds rfl ty9 M P) fun f6 ar=>?_);have eb:=At.slen ar;refine Tz 8 (zT 9 12) rfl Cfs (qF d) (Pk ty9 rfl ar) (Mm 10 (zR o1 [9,1,1,10]) rfl Cfs (qF d) (Ba LPart.f_grams Cds rfl ty3 M P) fun f7 au=>?_);have⟨ec,ed⟩:=At.rng au;refine Tz 11 (zR o1 [9,1,2,9]) rfl Cfs (qF d) (Bc ty3 rfl au) (Mm 13 (zR o1 [9,1,2,1,1,7]) rfl Cfs (qF d) (Ba LBook.f_lots Cdm rfl Dr u O) fun f8 cl=>Mm 14 (zR o1 [9,1,2,1,2,6]) rfl Cfs (qF d) (Ax Dr rfl cl) fun f9 cm=>Tz 15 (zR o1 [9,1,2,1,3,5]) rfl Cfs (qF d) (Ah (v:=iV (Cr (b.lots.take i) e.of_)) ad) ?_);obtain⟨ah,al⟩:=Ed (xs:=b.lots) (i:=((Cr (b.lots.take i) e.of_)).toNat) (by first|omega|exact Axi K);have R:=Buz al K;have es:=Sf ok R;have er:=(ok.lnm _ _ R).2.2.2.2;refine Mm 16 (zR o1 [9,1,2,1,4,4]) rfl Cfs (qF d) (Ch (((Cr (b.lots.take i) e.of_)).toNat) Cdp Ga rfl cm (q:=Cr (b.lots.take i) e.of_) rfl (by omega) al) fun fa cn=>Mm 17 (zR o1 [9,1,2,1,5,3]) rfl Cfs (qF d) (Ax Ga rfl cn) fun fb co=>Aza 9 (zR o1 [12,1,5,3]) rfl (qF d) (Bm (Brw (s:=e.of_) ck (by rw[Lo];omega) (fun x hx=>Adb ok x hx)) Tryz.func48 rfl rfl ⟨rfl,rfl,trivial⟩ ⟨Cfs,?_⟩);refine Tz 12 (zT 18 3) rfl Cfs (qF d) (Br rfl rfl (z:=(tkO e.of_ (b.lots.take i))+e.grams) (Bo (by rfl) (by omega) (by omega))) (Aza 18 (zT 19 2) rfl (qF d) (Bm (Bcg co (by omega) (fun p hp=>by have:=(Adb ok _ (lZ6 R)).2 p hp;omega)) Tryz.func19 rfl rfl ⟨rfl,trivial⟩ ⟨Cfs,?_⟩));refine Td 19 (zT 20 1) rfl Cfs (qF d) (Gl rfl rfl) (Fd 20 (zT 21 0) rfl (Bt rfl d (v:=.bool (decide (((tkO e.of_ (b.lots.take i))+e.grams)>(Ef ah)))) rfl) (Ec rfl (kk ap ?_)));refine Bp (t:=decide (((tkO e.of_ (b.lots.take i))+e.grams)>(Ef ah))) rfl (fun a3=>?_) (fun a3=>?_)
    ·have ag:=lZ3 a3;refine qA fun db bh=>Au (iV 8) (l_k bh (Aj (Cfq (Cft (Cft C y) F)) (Aq (B (rT (iV 8) ?_)))));rw[Pt w ((Aig E (Baz G H) L).trans (by rw[Hy,Db J (by omega) (Nj I (Btw ok (show Jl (g.parts.take k) _=false by rw[show k=j by omega];exact U) V K R ag)) (by decide)]))]
    have ag:=lZ2 a3;refine Al (kk an ?_);refine qB (l_v (Ah (v:=iV k) a2) (l_v (Fp (((k+1):Nat):Int)) (Au (iV ((k+1):Nat)) (Bj (Cfq F) (Ac ?_)))));refine⟨_,?_,(k+1),rfl,rfl,rfl,rfl,a0,O,a1,rfl,(by omega),(Eg J (Nj I (Bor ok (show Jl (g.parts.take k) _=false by rw[show k=j by omega];exact U) V K R ag))),trivial⟩;omega
   have K:=lZ2 d;refine Jg 3 (zT 4 17) rfl Cfs (gN rfl d) (Jg 4 (zT 5 16) rfl Cfs (gN rfl d) (Jg 5 (zT 6 15) rfl Cfs (gN rfl d) (Jg 6 (zT 7 14) rfl Cfs (gN rfl d) (Jg 7 (zT 8 13) rfl Cfs (gN rfl d) (Jg 8 (zT 9 12) rfl Cfs (gN rfl d) (Jg 10 (zR o1 [9,1,1,10]) rfl Cfs (gN rfl d) (Jg 11 (zR o1 [9,1,2,9]) rfl Cfs (gN rfl d) (Jg 13 (zR o1 [9,1,2,1,1,7]) rfl Cfs (gN rfl d) (Jg 14 (zR o1 [9,1,2,1,2,6]) rfl Cfs (gN rfl d) (Jg 15 (zR o1 [9,1,2,1,3,5]) rfl Cfs (gN rfl d) (Jg 16 (zR o1 [9,1,2,1,4,4]) rfl Cfs (gN rfl d) (Jg 17 (zR o1 [9,1,2,1,5,3]) rfl Cfs (gN rfl d) (Ty 9 (zR o1 [12,1,5,3]) rfl Cfs (gN rfl d) (Jg 12 (zT 18 3) rfl Cfs (gN rfl d) (Ty 18 (zT 19 2) rfl Cfs (gN rfl d) (Ty 19 (zT 20 1) rfl Cfs (gN rfl d) (Fd 20 (zT 21 0) rfl (Bn rfl d (v:=bF) rfl) (Ec rfl (kk ap ?_)))))))))))))))))));refine Cg rfl rfl (Al (kk an ?_));refine qB (l_v (Ah (v:=iV k) a2) (l_v (Fp (((k+1):Nat):Int)) (Au (iV ((k+1):Nat)) (Bj (Cfq F) (Ac ?_)))));refine⟨_,?_,(k+1),rfl,rfl,rfl,rfl,a0,O,a1,rfl,(by omega),(Eg J (Nj I (Boq (show Jl (g.parts.take k) _=false by rw[show k=j by omega];exact U) V K (by omega)))),trivial⟩;omega
  refine qB (Av (iV (Cr (b.lots.take i) e.of_)) (l_v (Da rfl rfl) (Av (.bool (decide ((Cr (b.lots.take i) e.of_)<0))) (Cn (decide ((Cr (b.lots.take i) e.of_)<0)) (fun n=>?_) (fun n=>?_)))))
  ·have cf:=lZ3 n;refine Ak (qF n) (Ba LBook.f_fields Cdm rfl Hw u W) fun fc cp=>Ak (qF n) (Ax Hw rfl cp) fun fd cq=>Ak (qF n) (Ba LPart.f_of_ Cds rfl ty9 M) fun fe av=>?_;have ef:=At.slen av;refine Aa (qF n) (Pk ty9 rfl av) (Ae (qF n) (Cw (Ass cq) Cfb ?_));refine Aa (qF n) (Da rfl rfl) (l_v (Bt rfl n (v:=.bool (decide (Aht b.fields e.of_<0))) rfl) (Ac ?_));refine aq (decide (Aht b.fields e.of_<0)) _ ⟨ac,W,YQ,ZQ,rfl,rfl,rfl.trans rfl,fun h=>⟨by omega,lZ3 h⟩,fun h=>.inl (by have:=lZ2 h;omega),trivial⟩
  have cf:=lZ2 n;refine Ap (gN rfl n) (Ap (gN rfl n) (Ap (gN rfl n) (Ap (gN rfl n) (Ap (gN rfl n) (Ap (gN rfl n) (l_v (Bn rfl n (v:=bF) rfl) (Ac ?_)))))));refine aq false _ ⟨ac,W,YQ,ZQ,rfl,rfl,rfl.trans (congrArg Value.bool rfl),fun h=>Bool.noConfusion h,fun h=>by omega,trivial⟩
 have cg:=lZ2 a8;refine Bx (kk br ?_);refine qA fun dc bi=>Au (iV 0) (l_k bi (Aj (Cfq (Cft C y)) (Aq (B (rT (iV 0) ?_)))));rw[Pt w ((Aig E (Baz G H) L).trans (by rw[Hy,Fb fun j hj=>J j (by omega)]))]
theorem Asr{b:LBook}{vb:Value}(rv:Val Y vb b):CallsH (CX mn X) 7 #[vb] Y Z (rP Y Z (iV (Gt b))):=by
 refine Bu 52 [2] Tryz.func7 rfl fun Q g bv=>qA fun K1 V=>Arv (Nk (v:=vb) rfl fun K=>?_);refine Bb (a:=b) rv fun T k c=>Au (iV 0) (Ary rfl rfl V fun K3 K4 k3 k4=>Arw (Ba LBook.f_fields Cdm rfl Hw c) fun v5 r5=>Arw (Ax Hw rfl r5) fun v6 R=>?_);have g7:=Val.len R;refine l_v (Ci (el:=9) Cdq rfl R) (l_v (Gl rfl rfl) (l_k k4 (Bp (t:=decide ((b.fields.length:Int)>5)) rfl (fun D=>?_) (fun D=>?_))))
 ·have q8:=lZ3 D;refine qA fun K9 k9=>Au (iV 2) (l_k k9 (Aj (Cfq k) (Aq (g (rT (iV 2) ?_)))));rw[Beb (by omega)]
 have q8:=lZ2 D;refine Al (kk k3 ?_);refine qD fun b0 b1 W YQ=>Au (iV 0) (l_k YQ (Ao (Cc (fun mm ee dd Y' Z'=>∃(f:Nat),(b.fields.length-f)=mm/\[]=dd/\T=Y'/\Z=Z'/\ee 1=pV K/\ee 3=iV f/\(f<=b.fields.length)/\(∀j,j<f->Jt b.fields j=0)/\True) (m:=_) ⟨0,rfl,rfl,rfl,rfl,rfl,rfl,Hn _,fun j h=>absurd h (Uk _),trivial⟩ ?_)));rintro bx bn _ _ _ ⟨f,rfl,rfl,rfl,rfl,d,p,c0,e,_⟩;refine qD fun b2 b3 ZQ a0=>l_v (Ah (v:=iV f) p) (Arw (Ba LBook.f_fields Cdm rfl Hw c d) fun c2 an=>Arw (Ax Hw rfl an) fun c3 L=>?_);have bp:=Val.len L;refine l_v (Ci (el:=9) Cdq rfl L) (l_v (Da rfl rfl) (l_k a0 (Bp (t:=decide ((f:Int)<(b.fields.length:Int))) rfl (fun y=>?_) (fun y=>?_))))
 ·have aj:=lZ3 y;refine Al (kk ZQ ?_);refine Ai fun b4 a1=>Ao (qD fun b5 b6 a2 a3=>Arw (Ba LBook.f_fields Cdm rfl Hw c d) fun c4 ao=>Arw (Ax Hw rfl ao) fun c5 ap=>l_v (Ah (v:=iV f) p) ?_);obtain⟨H,u⟩:=Ed (xs:=b.fields) (i:=f) (by omega);refine Arw (Ch f Cdq ty9 rfl ap (q:=(f:Int)) rfl rfl u) fun c6 M=>?_;have bq:=At.slen M;refine l_v (Pk ty9 rfl M) (Arv (Cw Bkh Tryz.func22 ?_));refine l_v (Iy rfl) (l_k a3 (Bp (t:=!(Hg H)) rfl (fun z=>?_) (fun z=>?_)))
  ·have U:=not_eq_t z;refine qA fun b7 a4=>Au (iV 4) (l_k a4 (Aj (Cfq k) (Aq (g (rT (iV 4) ?_)))));rw[Bax (by omega) (Db e (by omega) (Bkz u U) (by decide)) (by decide)]
  have I:=Ha z;refine Al (kk a2 ?_);refine Ai fun b9 a5=>Ais (Hd 0 (zT 1 10) rfl (Ba LBook.f_fields Cdm rfl Hw c d) fun c7 aq=>Hd 1 (zT 2 9) rfl (Ax Hw rfl aq) fun c8 ar=>Gh 2 (zT 3 8) rfl (Ah (v:=iV f) p) (Hd 3 (zT 4 7) rfl (Uu f Cdq ty9 rfl ar (q:=(f:Int)) rfl rfl (by omega)) fun c9 au=>Hd 4 (zT 5 6) rfl (Ba LBook.f_fields Cdm rfl Hw c d) fun ca av=>Hd 5 (zT 6 5) rfl (Ax Hw rfl av) fun cb aw=>Fd 6 (zT 7 4) rfl (Ah (v:=iV f) p) (Jp 7 (zT 8 3) rfl (Ch f Cdq ty9 rfl aw (q:=(f:Int)) rfl rfl u) fun cc N=>?_)));have br:=At.slen N;refine Fd 8 (zT 9 2) rfl (Pk ty9 rfl N) (Qp 9 (zT 10 1) rfl (Bm (Ass au) Cfb rfl rfl ⟨rfl,rfl,trivial⟩ ⟨Cfs,?_⟩));refine Fd 10 (zT 11 0) rfl (Uy rfl rfl) (Ec rfl (kk a5 ?_));refine Bp (t:=decide (Aht (b.fields.take f) H>=0)) rfl (fun B=>?_) (fun B=>?_)
  ·have G:=lZ3 B;refine qA fun ba a6=>Au (iV 5) (l_k a6 (Aj (Cfq k) (Aq (g (rT (iV 5) ?_)))));rw[Bax (by omega) (Db e (by omega) (Bla u I G) (by decide)) (by decide)]
  have G:=lZ2 B;refine Al (kk a1 ?_);refine qB (l_v (Ah (v:=iV f) p) (l_v (Fp (((f+1):Nat):Int)) (Au (iV ((f+1):Nat)) (Ac ?_))));refine⟨_,?_,(f+1),rfl,rfl,rfl,rfl,d,rfl,(by omega),(Eg e (Bky u I G)),trivial⟩;omega
 have aj:=lZ2 y;refine Bx (kk W ?_);refine qD fun bb bc a7 a8=>Arw (Ba LBook.f_lots Cdm rfl Dr c d) fun cd ax=>Arw (Ax Dr rfl ax) fun ce O=>?_;have bt:=Val.len O;refine l_v (Ci (el:=36) Cdp rfl O) (l_v (Gl rfl rfl) (l_k a8 (Bp (t:=decide ((b.lots.length:Int)>8)) rfl (fun w=>?_) (fun w=>?_))))
 ·have ak:=lZ3 w;refine qA fun bd a9=>Au (iV 2) (l_k a9 (Aj (Cfq k) (Aq (g (rT (iV 2) ?_)))));rw[Bec (by omega) (Fb fun j hj=>e j (by omega)) (by omega)]
 have J:b.lots.length<=8:=by have:=lZ2 w;omega
 have ak:=lZ2 w;refine Al (kk a7 ?_);refine qD fun be bf aa ab=>Au (iV 0) (l_k ab (Ao (Cc (fun mm ee dd Y' Z'=>∃(l:Nat),(b.lots.length-l)=mm/\[]=dd/\T=Y'/\Z=Z'/\ee 1=pV K/\ee 4=iV l/\(l<=b.lots.length)/\(∀j,j<l->Nz b j=0)/\True) (m:=_) ⟨0,rfl,rfl,rfl,rfl,d,rfl,Hn _,fun j h=>absurd h (Uk _),trivial⟩ ?_)));rintro bz bo _ _ _ ⟨l,rfl,rfl,rfl,rfl,E,F,c1,x,_⟩;refine qD fun bg bh ac ad=>l_v (Ah (v:=iV l) F) (Arw (Ba LBook.f_lots Cdm rfl Dr c E) fun cf ay=>Arw (Ax Dr rfl ay) fun cg P=>?_);have bu:=Val.len P;refine l_v (Ci (el:=36) Cdp rfl P) (l_v (Da rfl rfl) (l_k ad (Bp (t:=decide ((l:Int)<(b.lots.length:Int))) rfl (fun C=>?_) (fun C=>?_))))
 ·have al:=lZ3 C;refine Al (kk ac ?_);refine Ai fun bi ae=>Ao (qA fun bj af=>Arw (Ax Jo E c) fun ch az=>l_v (Ah (v:=iV l) F) (Arv (Bm (Azl az (Btj (by omega) (fun j hj=>e j (by omega)) J x) J (by omega)) Tryz.func23 rfl rfl ⟨rfl,rfl,trivial⟩ ?_)));refine Au (iV (Nz b l)) (qC af fun bk ag=>Av (iV (Nz b l)) (l_v (Dg rfl rfl) (l_k ag (Bp (t:=(Nz b l) != 0) rfl (fun n=>?_) (fun n=>?_)))))
  ·have am:=Ls n;refine qA fun bl ah=>Av (iV (Nz b l)) (Au (iV (Nz b l)) (l_k ah (Aj (Cfq k) (Aq (g (rT (iV (Nz b l)) ?_))))));rw[Zg (by omega) (Fb fun j hj=>e j (by omega)) (by omega) (Db x (by omega) rfl (Ls n))]
  have am:=Jh n;refine Al (kk ae ?_);refine qB (l_v (Ah (v:=iV l) F) (l_v (Fp (((l+1):Nat):Int)) (Au (iV ((l+1):Nat)) (Ac ?_))));refine⟨_,?_,(l+1),rfl,rfl,rfl,rfl,E,rfl,(by omega),(Eg x (Jh n)),trivial⟩;omega
 have al:=lZ2 C;refine Bx (kk aa ?_);refine qA fun bm ai=>Au (iV 0) (l_k ai (Aj (Cfq k) (Aq (g (rT (iV 0) ?_)))));rw[Zg (by omega) (Fb fun j hj=>e j (by omega)) (by omega) (Fb fun j hj=>x j (by omega))]
theorem Brr{l:LLot}{vl:Value}(rl:Val Y vl l):CallsH (CX mn X) 21 #[vl] Y Z (fun w Y' Z'=>Y'=Y/\Z'=Z/\∃z,w = .int .i64 z):=by
 refine Bu 29 [2] Tryz.func21 rfl fun Q j ab=>qA fun ZQ C=>Arv (Nk (v:=vl) rfl fun I=>?_);refine Bb (a:=l) rl fun YQ k c=>Au (iV 0) (Ary rfl rfl C fun K3 K4 L M=>Arw (Ba LLot.f_parts Cdr rfl Fl c) fun v5 W=>Arw (Ax Fl rfl W) fun v6 y=>?_);have g7:=Val.len y;refine l_v (Ci (el:=38) Cdt rfl y) (l_v (Gl rfl rfl) (l_k M (Bp (t:=decide ((l.parts.length:Int)>40)) rfl (fun e=>?_) (fun e=>?_))))
 ·have P:=lZ3 e;refine qA fun K9 N=>Au (iV 1001) (l_k N (Aj (Cfq k) (Aq (j ⟨rfl,rfl,_,rfl⟩))))
 have P:=lZ2 e;refine Al (kk L ?_);refine qA fun a0 D=>Arw (Ba LLot.f_name Cdr rfl ty9 c) fun ae p=>?_;have a8:=At.slen p;refine l_v (Pk ty9 rfl p) (l_v (Afz Cdn (s:=l.name) rfl) (Au (iV (l.name.size:Int)) (Ary rfl rfl D fun a1 a2 E F=>Au (iV 0) (l_k F (Ao (Cc (fun mm ee dd Y' Z'=>∃(i:Nat) (n:Int),(l.parts.length-i)=mm/\[]=dd/\YQ=Y'/\Z=Z'/\ee 1=pV I/\ee 3=iV n/\ee 4=iV i/\(i<=l.parts.length)/\True) (m:=_) ⟨0,(l.name.size:Int),rfl,rfl,rfl,rfl,rfl,rfl,rfl,Hn _,trivial⟩ ?_))))));rintro ac a7 _ _ _ ⟨i,n,rfl,rfl,rfl,rfl,f,h,g,ad,_⟩;refine qD fun a3 a4 G H=>l_v (Ah (v:=iV i) g) (Arw (Ba LLot.f_parts Cdr rfl Fl c f) fun af R=>Arw (Ax Fl rfl R) fun ag u=>?_);have a9:=Val.len u;refine l_v (Ci (el:=38) Cdt rfl u) (l_v (Da rfl rfl) (l_k H (Bp (t:=decide ((i:Int)<(l.parts.length:Int))) rfl (fun d=>?_) (fun d=>?_))))
 ·have O:=lZ3 d;refine Al (kk G ?_);refine Ai fun a5 J=>Ao (qB (l_v (Ah (v:=iV n) h) (Arw (Ba LLot.f_parts Cdr rfl Fl c f) fun ah T=>Arw (Ax Fl rfl T) fun ai U=>l_v (Ah (v:=iV i) g) ?_)));obtain⟨b,B⟩:=Ed (xs:=l.parts) (i:=i) (by omega);refine Arw (Ch i Cdt Je rfl U (q:=(i:Int)) rfl rfl B) fun aj V=>Arw (Ba LPart.f_of_ Cds rfl ty9 V) fun ak x=>?_;have aa:=At.slen x;refine l_v (Pk ty9 rfl x) (l_v (Afz Cdn (s:=b.of_) rfl) (l_v (Br rfl rfl (z:=IntKind.i64.wrap (n+(b.of_.size:Int))) rfl) (Au (iV (IntKind.i64.wrap (n+(b.of_.size:Int)))) (l_k J (qB (l_v (Ah (v:=iV i) g) (l_v (Fp (((i+1):Nat):Int)) (Au (iV ((i+1):Nat)) (Ac ?_)))))))));refine⟨_,?_,(i+1),(IntKind.i64.wrap (n+(b.of_.size:Int))),rfl,rfl,rfl,rfl,f,rfl,rfl,(by omega),trivial⟩;omega
 have O:=lZ2 d;refine Bx (kk E ?_);refine qA fun a6 K=>l_v (Ah (v:=iV n) h) (Au (iV n) (l_k K (Aj (Cfq k) (Aq (j ⟨rfl,rfl,_,rfl⟩)))))
theorem Bkb{b:LBook}{vb:Value}(rv:Val Y vb b):CallsH (CX mn X) 6 #[vb] Y Z (fun w Y' Z'=>Y'=Y/\Z'=Z/\∃b,w = .bool b):=by
 refine Bu 48 [2] Tryz.func6 rfl fun Q y b9=>qA fun K1 U=>Arv (Nk (v:=vb) rfl fun G=>?_);refine Bb (a:=b) rv fun N C d=>Au bF (Ary rfl rfl U fun K3 K4 k3 H=>Arw (Ba LBook.f_fields Cdm rfl Hw d) fun v5 r5=>Arw (Ax Hw rfl r5) fun v6 M=>?_);have g7:=Val.len M;refine l_v (Ci (el:=9) Cdq rfl M) (l_v (Gl rfl rfl) (Av (.bool (decide ((b.fields.length:Int)>40))) (Cn (decide ((b.fields.length:Int)>40)) (fun c=>?_) (fun c=>?_))))
 ·have q8:=lZ3 c;refine Ap (gN rfl c) (Ap (gN rfl c) (Ap (gN rfl c) (Ap (gN rfl c) (l_v (Bt rfl c (v:=bT) rfl) (l_k H (Co rfl rfl (qA fun K9 k9=>Au bT (l_k k9 (Aj (Cfq C) (Aq (y ⟨rfl,rfl,_,rfl⟩)))))))))))
 have q8:=lZ2 c;refine Ak (qF c) (Ba LBook.f_lots Cdm rfl Dr d) fun be ac=>Ak (qF c) (Ax Dr rfl ac) fun bf I=>?_;have b4:=Val.len I;refine Aa (qF c) (Ci (el:=36) Cdp rfl I) (Aa (qF c) (Gl rfl rfl) (l_v (Bn rfl c (v:=.bool (decide ((b.lots.length:Int)>40))) rfl) (l_k H (Bp (t:=decide ((b.lots.length:Int)>40)) rfl (fun g=>?_) (fun g=>?_)))))
 ·have a9:=lZ3 g;refine qA fun am V=>Au bT (l_k V (Aj (Cfq C) (Aq (y ⟨rfl,rfl,_,rfl⟩))))
 have a9:=lZ2 g;refine Al (kk k3 ?_);refine qA fun an W=>Au (iV 0) (Ary rfl rfl W fun ao ap YQ ZQ=>Au (iV 0) (l_k ZQ (Ao (Cc (fun mm ee dd Y' Z'=>∃(i:Nat) (n:Int),(b.fields.length-i)=mm/\[]=dd/\N=Y'/\Z=Z'/\ee 1=pV G/\ee 3=iV n/\ee 4=iV i/\(i<=b.fields.length)/\True) (m:=_) ⟨0,0,rfl,rfl,rfl,rfl,rfl,rfl,rfl,Hn _,trivial⟩ ?_))));rintro ba b2 _ _ _ ⟨i,n,rfl,rfl,rfl,rfl,f,E,k,bc,_⟩;refine qD fun aq ar a0 a1=>l_v (Ah (v:=iV i) k) (Arw (Ba LBook.f_fields Cdm rfl Hw d f) fun bg ad=>Arw (Ax Hw rfl ad) fun bh J=>?_);have b5:=Val.len J;refine l_v (Ci (el:=9) Cdq rfl J) (l_v (Da rfl rfl) (l_k a1 (Bp (t:=decide ((i:Int)<(b.fields.length:Int))) rfl (fun h=>?_) (fun h=>?_))))
 ·have aa:=lZ3 h;refine Al (kk a0 ?_);refine Ai fun au a2=>Ao (qB (l_v (Ah (v:=iV n) E) (Arw (Ba LBook.f_fields Cdm rfl Hw d f) fun bi ae=>Arw (Ax Hw rfl ae) fun bj af=>l_v (Ah (v:=iV i) k) ?_)));obtain⟨e,O⟩:=Ed (xs:=b.fields) (i:=i) (by omega);refine Arw (Ch i Cdq ty9 rfl af (q:=(i:Int)) rfl rfl O) fun bk K=>?_;have b6:=At.slen K;refine l_v (Pk ty9 rfl K) (l_v (Afz Cdn (s:=e) rfl) (l_v (Br rfl rfl (z:=IntKind.i64.wrap (n+(e.size:Int))) rfl) (Au (iV (IntKind.i64.wrap (n+(e.size:Int)))) (l_k a2 (qB (l_v (Ah (v:=iV i) k) (l_v (Fp (((i+1):Nat):Int)) (Au (iV ((i+1):Nat)) (Ac ?_)))))))));refine⟨_,?_,(i+1),(IntKind.i64.wrap (n+(e.size:Int))),rfl,rfl,rfl,rfl,f,rfl,rfl,(by omega),trivial⟩;omega
 have aa:=lZ2 h;refine Bx (kk YQ ?_);refine qD fun av aw a3 a4=>Au (iV 0) (l_k a4 (Ao (Cc (fun mm ee dd Y' Z'=>∃(i:Nat) (n:Int),(b.lots.length-i)=mm/\[]=dd/\N=Y'/\Z=Z'/\ee 1=pV G/\ee 3=iV n/\ee 5=iV i/\(i<=b.lots.length)/\True) (m:=_) ⟨0,n,rfl,rfl,rfl,rfl,f,E,rfl,Hn _,trivial⟩ ?_)));rintro bb b3 _ _ _ ⟨i,n,rfl,rfl,rfl,rfl,p,F,u,bd,_⟩;refine qD fun ax ay a5 a6=>l_v (Ah (v:=iV i) u) (Arw (Ba LBook.f_lots Cdm rfl Dr d p) fun bl ag=>Arw (Ax Dr rfl ag) fun bm L=>?_);have b7:=Val.len L;refine l_v (Ci (el:=36) Cdp rfl L) (l_v (Da rfl rfl) (l_k a6 (Bp (t:=decide ((i:Int)<(b.lots.length:Int))) rfl (fun j=>?_) (fun j=>?_))))
 ·have ab:=lZ3 j;refine Al (kk a5 ?_);refine Ai fun az a7=>Ao (qB (l_v (Ah (v:=iV n) F) (Arw (Ba LBook.f_lots Cdm rfl Dr d p) fun bn ah=>Arw (Ax Dr rfl ah) fun bo ai=>l_v (Ah (v:=iV i) u) ?_)));obtain⟨b1,P⟩:=Ed (xs:=b.lots) (i:=i) (by omega);refine Arw (Ch i Cdp Ga rfl ai (q:=(i:Int)) rfl rfl P) fun bp aj=>Arw (Ax Ga rfl aj) fun al ak=>Arv (Cm (vs:=[al]) (Brr ak) Tryz.func21 rfl rfl ⟨rfl,trivial⟩ fun bq br bt R=>?_);obtain⟨x,B,D,T⟩:=R;replace x:=x.symm;replace B:=B.symm;subst x B T;refine l_v (Br rfl rfl (z:=IntKind.i64.wrap (n+D)) rfl) (Au (iV (IntKind.i64.wrap (n+D))) (l_k a7 (qB (l_v (Ah (v:=iV i) u) (l_v (Fp (((i+1):Nat):Int)) (Au (iV ((i+1):Nat)) (Ac ?_)))))));refine⟨_,?_,(i+1),(IntKind.i64.wrap (n+D)),rfl,rfl,rfl,rfl,p,rfl,rfl,(by omega),trivial⟩;omega
 have ab:=lZ2 j;refine Bx (kk a3 ?_);refine qA fun b0 a8=>l_v (Ah (v:=iV n) F) (l_v (Gl rfl rfl) (Au (.bool (decide (n>1000))) (l_k a8 (Aj (Cfq C) (Aq (y ⟨rfl,rfl,_,rfl⟩))))))
theorem Apj{n s:Nat}(hn:n<=8)(hs:s<256):CallsH (CX mn X) 9 #[iV n,.int .u8 (s:Int)] Y Z (fun w Y' Z'=>Ro.le Y Y'/\Z'=Z/\Val Y' w (Bw (Dm n s):List Int)):=by
 refine Bu 22 [4] Tryz.func9 rfl fun Q I a2=>qA fun K1 J=>Au nS (Arx rfl rfl J fun K2 M=>Au nS (Ary rfl rfl M fun K3 K4 N O=>Au (iV 0) (l_k O (Ao (Cc (fun mm ee dd Y' Z'=>∃(i:Nat) (a:Value) (e:Own),(n-i)=mm/\[]=dd/\Ro.le Y Y'/\(e++Z)=Z'/\ee 0=iV n/\ee 1=(.int .u8 (s:Int))/\ee 5=a/\ee 6=iV i/\(i<=n)/\Grow Y' 3 a (Bw ((List.range i).filter (Gw s))) e/\True) (m:=_) ⟨0,nS,[],rfl,rfl,Cfs,rfl,rfl,rfl,rfl,rfl,Hn _,Hm,trivial⟩ ?_)))));rintro m5 e5 _ ZQ _ ⟨i,a,e,rfl,rfl,k,rfl,g,h,j,d,a3,b,_⟩;refine qD fun K6 K7 P R=>l_v (Ah (v:=iV i) d) (l_v (Ah (v:=iV n) g) (l_v (Da rfl rfl) (l_k R (Bp (t:=decide ((i:Int)<(n:Int))) rfl (fun f=>?_) (fun f=>?_)))))
 ·have V:=lZ3 f;refine Al (kk P ?_);refine Ai fun K9 x=>Ao (qA fun a0 K=>l_v (Ah (v:=.int .u8 (s:Int)) h) (l_v (Ah (v:=iV i) d) (l_v (Bzu (p:=s) (q:=i) rfl rfl (by omega)) (l_v (Bzr (p:=s>>>i) (q:=1) rfl rfl (Aqi (Axc _ _) (by omega)) (by decide)) (l_v (Ek rfl rfl) (l_k K (Bp (t:=((((s>>>i) &&& 1):Nat):Int)==1) rfl (fun c=>?_) (fun c=>?_))))))))
  ·have G:=bitM.symm.trans c;have U:=Jr c;refine qB (l_v (Ah (v:=a) j) (l_v (Ah (v:=iV i) d) (Arv (Bi (α:=Int) (xs:=[(i:Int)]) (vs:=[iV i]) Cdo ty3 zr3 rfl (by decide) (Dk (os:=[.tmp 18]) ⟨rfl,trivial⟩) ⟨Cv.2 ⟨rfl,by constructor<;>omega⟩,trivial⟩ rfl (by decide) fun u E D=>?_))))
   have B:Grow ZQ 3 (.slice (some ⟨u,0,none⟩) 1 1) ([(i:Int)]:List Int) [(u,oC E.toArray 3)]:=Bs D rfl (by decide);refine Ca B fun a4 y W=>?_;replace b:=Grow.mono y b;refine Arv (Gc (Z:=Z) (gr:=e) (xs:=Bw ((List.range i).filter (Gw s))) (ys:=([(i:Int)]:List Int)) Cdo Cdo (Ab Cer) rfl nL rfl rfl rfl rfl b W (by have:=Alb (p:=Gw s) (i:=i);simp only[lZ4,Gb,Nx];omega) fun z F C=>?_);refine Au z (l_k x (qB (l_v (Ah (v:=iV i) d) (l_v (Fp (((i+1):Nat):Int)) (Au (iV ((i+1):Nat)) (Ac ?_))))));refine⟨_,?_,(i+1),z,F,rfl,rfl,(Cft k y),rfl,g,h,rfl,rfl,(by omega),(Fy (by rw[Aps G]) C),trivial⟩;omega
  have H:=bitM.symm.trans c;have U:=Jq c;refine Al (kk x ?_);refine qB (l_v (Ah (v:=iV i) d) (l_v (Fp (((i+1):Nat):Int)) (Au (iV ((i+1):Nat)) (Ac ?_))));refine⟨_,?_,(i+1),a,e,rfl,rfl,k,rfl,g,h,j,rfl,(by omega),(Fy (by rw[Apr H]) b),trivial⟩;omega
 have V:=lZ2 f;refine Bx (kk N ?_);refine qA fun a1 L=>l_v (Ah (v:=a) j) (Au a (l_k L (Hc b fun a5 T YQ=>Aq (I ⟨Cft k T,rfl,Abz (v:=a) rfl (Val.cast ?_ YQ)⟩))))
 ·rw[show i=n by omega];rfl
end
section
inductive Tr(α:Type) where
 | leaf
 | node (v:Option α) (l r:Tr α)
def Tr.get{α:Type}(t:Tr α):Nat->Option α:=Tr.rec (motive:=fun _=>Nat->Option α) (fun _=>none)
 (fun v _ _ gl gr k=>Bool.rec (Bool.rec (gl (Nat.div k 2)) (gr (Nat.sub (Nat.div k 2) 1)) (Nat.beq (Nat.mod k 2) 0)) v (Nat.beq k 0)) t
def Tr.put{α:Type}(n:Nat):Tr α->Nat->α->Tr α:=Nat.rec (motive:=fun _=>Tr α->Nat->α->Tr α) (fun t _ _=>t)
 (fun _ ih t k a=>Tr.rec (motive:=fun _=>Tr α)
  (Bool.rec (Bool.rec (.node none (ih .leaf (Nat.div k 2) a) .leaf) (.node none .leaf (ih .leaf (Nat.sub (Nat.div k 2) 1) a)) (Nat.beq (Nat.mod k 2) 0)) (.node (some a) .leaf .leaf) (Nat.beq k 0))
  (fun v l r _ _=>Bool.rec (Bool.rec (.node v (ih l (Nat.div k 2) a) r) (.node v l (ih r (Nat.sub (Nat.div k 2) 1) a)) (Nat.beq (Nat.mod k 2) 0)) (.node (some a) l r) (Nat.beq k 0)) t) n
def Tr.set{α:Type}(t:Tr α)(k:Nat)(a:α):Tr α:=Tr.put (Nat.succ k) t k a
inductive CV where
 | bad
 | b (x:Bool)
 | i (k:IntKind) (n:Int)
 | s (x:List UInt8)
 | pn
 | p (k off:Nat)
 | sn
 | sl (k off ln:Nat) (kn:Bool) (c:Nat)
 | mn
 | m (k:Nat)
 | cn
 | c (k:Nat)
 | fn
 | f (g:Nat) (xs ys:List CV)
 | y (k:Nat)
 | n
 | a (t:Nat) (v:CV)
 | g (l:List CV)
 | t (l:List CV)
deriving Inhabited
def CV.undef:CV:=.t []
def CV.cells:CV->Option (List CV)
 | .g l=>some l
 | .bad=>none
 | v=>some [v]
def CV.isCell:CV->Bool
 | .g _=>false
 | .t _=>false
 | .bad=>false
 | _=>true
def xAllC(l:List CV):Bool:=List.rec (motive:=fun _=>Bool) true (fun a _ ih=>match a.isCell with|true=>ih|false=>false) l
def xOf0:Value->CV
 | .bool x=>.b x
 | .int k n=>.i k n
 | .string x=>.s x.data.toList
 | .pointer none=>.pn
 | .slice none 0 0=>.sn
 | .map none=>.mn
 | .chan none=>.cn
 | .nilFunc=>.fn
 | .nilIface=>.n
 | .func (.func g) xs ys=>match xs.toList,ys.toList with
  | [],[]=>.f g [] []
  | _,_=>.bad
 | _=>.bad
def xOf1:Value->CV
 | .iface t v=>.a t (xOf0 v)
 | v=>xOf0 v
def xOfV:Value->CV
 | .agg l=>.g (l.toList.map xOf1)
 | .tuple l=>.t (l.toList.map xOf1)
 | v=>xOf1 v
def xDrp{α:Type}(n:Nat):List α->List α:=Nat.rec (motive:=fun _=>List α->List α) (fun l=>l) (fun _ ih l=>List.rec (motive:=fun _=>List α) [] (fun _ l _=>ih l) l) n
def xTkn{α:Type}(n:Nat):List α->Option (List α):=Nat.rec (motive:=fun _=>List α->Option (List α)) (fun _=>some [])
 (fun _ ih l=>List.rec (motive:=fun _=>Option (List α)) none (fun a l _=>match ih l with|some r=>some (a::r)|none=>none) l) n
def xNth{α:Type}(n:Nat):List α->Option α:=Nat.rec (motive:=fun _=>List α->Option α) (fun l=>List.rec (motive:=fun _=>Option α) none (fun a _ _=>some a) l)
 (fun _ ih l=>List.rec (motive:=fun _=>Option α) none (fun _ l _=>ih l) l) n
def xApp{α:Type}(x y:List α):List α:=List.rec (motive:=fun _=>List α) y (fun a _ ih=>a::ih) x
def xLen{α:Type}(x:List α):Nat:=List.rec (motive:=fun _=>Nat) 0 (fun _ _ ih=>Nat.succ ih) x
def xOver(vs:List CV):List CV->Option (List CV):=List.rec (motive:=fun _=>List CV->Option (List CV)) (fun l=>some l)
 (fun v _ ih l=>List.rec (motive:=fun _=>Option (List CV)) none (fun _ l _=>match ih l with|some r=>some (v::r)|none=>none) l) vs
def xSetL(n:Nat)(vs:List CV):List CV->Option (List CV):=Nat.rec (motive:=fun _=>List CV->Option (List CV)) (fun l=>xOver vs l)
 (fun _ ih l=>List.rec (motive:=fun _=>Option (List CV)) none (fun a l _=>match ih l with|some r=>some (a::r)|none=>none) l) n
inductive CO where
 | cells (l:List CV)
 | grow (n:Nat) (l:List CV)
 | map (es:List (CV×CV))
 | loop (busy:Nat) (pend:Option Code) (n:Nat) (env:Tr CV) (ps:List Tmp) (as_ body:Code) (dk:Nat)
 | defd
 | chan
 | dead
 | rcv (vs:List CV)
 | crowd (k:Nat) (ms:List (CV×List (Nat×Option Nat×List CV)×Nat×Nat))
 | iter (k n:Nat) (seen:List Nat)
inductive Cell where
 | own (o:CO)
 | ro (o:CO)
structure Mem where
 M:Tr Cell
 nx:Nat
 log:List Nat
 ln:Nat
 outs:List CV
inductive CD where
 | mark (k:Nat)
 | close (k:Nat)
structure St where
 e:Tr CV
 m:Mem
 ds:List CD
def Mem.obj(m:Mem)(k:Nat):Option CO:=match m.M.get k with|some (.own o)=>some o|some (.ro o)=>some o|none=>none
def xRowO:CO->Option (List CV)
 | .cells l=>some l
 | .grow _ l=>some l
 | _=>none
def Mem.row(m:Mem)(k:Nat):Option (List CV):=match m.M.get k with
 | some (.own o)=>xRowO o
 | some (.ro o)=>xRowO o
 | none=>none
def Mem.add(m:Mem)(o:CO):Mem:=⟨m.M.set m.nx (.own o),Nat.succ m.nx,m.log,m.ln,m.outs⟩
def Mem.put(m:Mem)(k:Nat)(o:CO):Mem:=⟨m.M.set k (.own o),m.nx,k::m.log,Nat.succ m.ln,m.outs⟩
def Mem.store(m:Mem)(k off:Nat)(vs:List CV):Option Mem:=match xAllC vs with
 | false=>none
 | true=>match m.M.get k with
  | some (.own (.cells l))=>match xSetL off vs l with|some r=>some (m.put k (.cells r))|none=>none
  | some (.own (.grow n l))=>match xSetL off vs l with|some r=>some (m.put k (.grow n r))|none=>none
  | _=>none
def Mem.read(m:Mem)(k off n:Nat):Option (List CV):=match m.row k with
 | some l=>xTkn n (xDrp off l)
 | none=>none
inductive OR where
 | v (x:CV) (m:Mem)
 | rd (x:CV) (k:Nat)
 | enter (f:FuncId) (args:List CV)
 | round (k:Nat) (args:List CV)
 | go (f:CV) (args:List CV)
 | recv (k:Nat) (ok:Bool)
 | send (k:Nat) (x:CV)
 | dclose (x:CV)
 | bad
structure K1 where
 run:Tr CV->CV
structure KL where
 run:Tr CV->List CV
structure KO where
 run:Tr CV->Mem->OR
def rdK:Operand->K1
 | .tmp t=>⟨fun e=>match e.get t with|some v=>v|none=>.bad⟩
 | .const v=>⟨fun _=>xOfV v⟩
 | .global g=>match Nat.ble (Nat.succ g) 16 with|true=>⟨fun _=>.p g 0⟩|false=>⟨fun _=>.bad⟩
 | .func f=>⟨fun _=>.f f [] []⟩
def rdsK:List Operand->KL
 | []=>⟨fun _=>[]⟩
 | x::l=>match rdK x,rdsK l with|⟨f⟩,⟨g⟩=>⟨fun e=>f e::g e⟩
def xEqS(x:List UInt8):List UInt8->Bool:=List.rec (motive:=fun _=>List UInt8->Bool) (fun y=>List.rec (motive:=fun _=>Bool) true (fun _ _ _=>false) y)
 (fun a _ ih y=>List.rec (motive:=fun _=>Bool) false (fun b y _=>Bool.rec false (ih y) (Nat.beq a.toNat b.toNat)) y) x
def xEqI:Int->Int->Bool
 | .ofNat x,.ofNat y=>Nat.beq x y
 | .negSucc x,.negSucc y=>Nat.beq x y
 | _,_=>false
def xLtI:Int->Int->Bool
 | .ofNat x,.ofNat y=>Nat.ble (Nat.succ x) y
 | .negSucc x,.negSucc y=>Nat.ble (Nat.succ y) x
 | .negSucc _,.ofNat _=>true
 | .ofNat _,.negSucc _=>false
def xRepL(z:List CV)(n:Nat):List CV:=Nat.rec (motive:=fun _=>List CV) [] (fun _ ih=>xApp z ih) n
def xBytesC(l:List UInt8):List CV:=List.rec (motive:=fun _=>List CV) [] (fun b _ ih=>.i .u8 (.ofNat b.toNat)::ih) l
def xVOf(m:Mem):Option CV->OR
 | some x=>.v x m
 | none=>.bad
def xAggT(P:Program)(t:TypeId):Option Bool:=match P.underlying t with
 | some d=>some (Qv d)
 | none=>none
def xSzT(P:Program)(t:TypeId):Option Nat:=match P.info? t with|some i=>some i.size|none=>none
def xZeroT(P:Program)(t:TypeId):Option CV:=match P.info? t with
 | some i=>match i.zero with|some v=>some (xOfV v)|none=>none
 | none=>none
def xZeroC(P:Program)(t:TypeId):Option Nat:=match P.info? t with
 | some i=>match i.zero with|some v=>some v.cells.size|none=>none
 | none=>none
structure LK where
 run:List CV->Option CV
def partK(P:Program)(t:TypeId):LK:=match xAggT P t with
 | some true=>match xSzT P t with
  | some n=>⟨fun l=>match xTkn n l with|some r=>some (.g r)|none=>none⟩
  | none=>⟨fun _=>none⟩
 | some false=>⟨fun l=>match l with|v::_=>some v|[]=>none⟩
 | none=>⟨fun _=>none⟩
structure FK where
 run:List CV->Tr CV->Option (List CV)
def fillK(off:Nat->Option (Nat×Nat)):List (Nat×Operand)->FK
 | []=>⟨fun l _=>some l⟩
 | (i,x)::r=>match off i with
  | none=>⟨fun _ _=>none⟩
  | some (o,z)=>⟨fun l e=>match ((rdK x).run e).cells with
   | none=>none
   | some c=>match Nat.beq (xLen c) z with
    | false=>none
    | true=>match xSetL o c l with
     | some l=>(fillK off r).run l e
     | none=>none⟩
def fldAt(P:Program)(fs:List Field)(i:Nat):Option (Nat×Nat):=match fs[i]? with
 | some f=>match xSzT P f.type with|some n=>some (f.offset,n)|none=>none
 | none=>none
def allSz(P:Program):List Field->Bool
 | []=>true
 | f::fs=>match xSzT P f.type with|some _=>allSz P fs|none=>false
def flatK(P:Program):Nat->List Field->Option (List IntKind)
 | _,[]=>some []
 | n,f::fs=>match f.name == "_",Nat.beq f.offset n,P.underlying f.type,flatK P (Nat.succ n) fs with
  | false,true,some (.int k),some l=>some (k::l)
  | _,_,_,_=>none
def flatT(P:Program)(t:TypeId):Option (List IntKind):=match P.stoodInHeld t,P.eqGuardType P.depth t,P.underlying t with
 | false,false,some (.struct fs)=>flatK P 0 fs.toList
 | _,_,_=>none
def xKind:IntKind->IntKind->Bool
 | .i8,.i8 | .i16,.i16 | .i32,.i32 | .i64,.i64 | .u8,.u8 | .u16,.u16 | .u32,.u32 | .u64,.u64=>true
 | _,_=>false
def eqF0:List CV->List CV->Option Bool
 | [],[]=>some true
 | _,_=>none
def eqF1(k:IntKind)(ih:List CV->List CV->Option Bool):List CV->List CV->Option Bool
 | .i k1 a::x,.i k2 b::y=>match xKind k k1,xKind k k2 with
  | true,true=>match ih x y with|some r=>some (match xEqI a b with|true=>r|false=>false)|none=>none
  | _,_=>none
 | _,_=>none
def eqF(ks:List IntKind):List CV->List CV->Option Bool:=List.rec (motive:=fun _=>List CV->List CV->Option Bool) eqF0 (fun k _ ih=>eqF1 k ih) ks
inductive CK where
 | i (k:IntKind)
 | s
 | b
def xCatO:Option (List CK)->Option (List CK)->Option (List CK)
 | some a,some b=>some (a++b)
 | _,_=>none
def deepF(P:Program)(g:TypeId->Option (List CK)):Nat->List Field->Option (List CK)
 | _,[]=>some []
 | n,f::fs=>match f.name == "_",Nat.beq f.offset n,g f.type,xSzT P f.type with
  | false,true,some a,some z=>match Nat.beq a.length z with|true=>xCatO (some a) (deepF P g (Nat.add n z) fs)|false=>none
  | _,_,_,_=>none
def deepT(P:Program):Nat->TypeId->Option (List CK)
 | 0,_=>none
 | d+1,t=>match P.underlying t with
  | some (.int k)=>some [.i k]
  | some .string=>some [.s]
  | some .bool=>some [.b]
  | some (.struct fs)=>match P.stoodInHeld t with|false=>deepF P (deepT P d) 0 fs.toList|true=>none
  | _=>none
def eqC:CK->CV->CV->Option Bool
 | .i k,.i k1 a,.i k2 b=>match xKind k k1,xKind k k2 with|true,true=>some (xEqI a b)|_,_=>none
 | .s,.s a,.s b=>some (xEqS a b)
 | .b,.b a,.b b=>some (a==b)
 | _,_,_=>none
def eqD0:List CV->List CV->Option Bool
 | [],[]=>some true
 | _,_=>none
def eqD1(k:CK)(ih:List CV->List CV->Option Bool):List CV->List CV->Option Bool
 | a::x,b::y=>match eqC k a b,ih x y with|some r,some q=>some (match r with|true=>q|false=>false)|_,_=>none
 | _,_=>none
def eqD(ks:List CK):List CV->List CV->Option Bool:=List.rec (motive:=fun _=>List CV->List CV->Option Bool) eqD0 (fun k _ ih=>eqD1 k ih) ks
def deepG(P:Program)(t:TypeId):Option (List CK):=match P.eqGuardType P.depth t,P.underlying t with
 | false,some (.struct _)=>deepT P 100 t
 | _,_=>none
structure BK where
 run:List CV->Mem->OR
def appendK(n:Nat):BK:=⟨fun args m=>match args with
 | [s,.sl k2 off2 lx _ _]=>match m.read k2 off2 (Nat.mul lx n) with
  | none=>.bad
  | some cx=>match Nat.beq lx 0,xAllC cx with
   | false,true=>match s with
    | .sn=>match Nat.ble lx 1000000 with|true=>.v (.sl m.nx 0 lx false 0) (m.add (.grow n cx))|false=>.bad
    | .sl k off ls false c=>match m.M.get k with
      | some (.own (.grow n' l))=>match Nat.beq n n',Nat.beq off 0,Nat.beq c 0,Nat.beq (xLen l) (Nat.mul ls n),Nat.ble (Nat.add ls lx) 1000000 with
       | true,true,true,true,true=>.v (.sl m.nx 0 (Nat.add ls lx) false 0) ((m.put k .dead).add (.grow n (xApp l cx)))
       | true,true,true,false,true=>match xSetL (Nat.mul ls n) cx l with
        | some r=>.v (.sl k 0 (Nat.add ls lx) false 0) (m.put k (.grow n r))
        | none=>.bad
       | _,_,_,_,_=>.bad
      | _=>.bad
    | .sl k off ls true c=>match m.read k off (Nat.mul ls n) with
     | some co=>match Nat.ble (Nat.succ c) (Nat.add ls lx),Nat.ble (Nat.add ls lx) 1000000,xAllC co with
      | true,true,true=>.v (.sl m.nx 0 (Nat.add ls lx) false 0) (m.add (.grow n (xApp co cx)))
      | _,_,_=>.bad
     | none=>.bad
    | _=>.bad
   | _,_=>.bad
 | _=>.bad⟩
def appendZ(n:Nat)(z:List CV):BK:=⟨fun args m=>match args with
 | [.sn,.i _ (.ofNat lx)]=>match Nat.ble 1 lx,Nat.ble lx 1000000 with
  | true,true=>.v (.sl m.nx 0 lx false 0) (m.add (.grow n (xRepL z lx)))
  | _,_=>.bad
 | _=>.bad⟩
def builtinK(P:Program)(b:Builtin)(ts:List TypeId):BK :=
 match b with
 | .len=>match ts with
  | [t]=>match P.underlying t with
   | some (.slice _)=>⟨fun args m=>match args with
    | [.sn]=>.v (.i .i64 0) m
    | [.sl _ _ n _ _]=>.v (.i .i64 (.ofNat n)) m
    | _=>.bad⟩
   | some .string=>⟨fun args m=>match args with|[.s x]=>.v (.i .i64 (.ofNat (xLen x))) m|_=>.bad⟩
   | _=>⟨fun _ _=>.bad⟩
  | _=>⟨fun _ _=>.bad⟩
 | .min=>⟨fun args m=>match args with
  | [.i k x,.i k' y]=>match xKind k k' with|true=>.v (.i k (match xLtI y x with|true=>y|false=>x)) m|false=>.bad
  | _=>.bad⟩
 | .max=>⟨fun args m=>match args with
  | [.i k x,.i k' y]=>match xKind k k' with|true=>.v (.i k (match xLtI x y with|true=>y|false=>x)) m|false=>.bad
  | _=>.bad⟩
 | .append=>match ts with
  | [t,u]=>match P.underlying t,P.underlying u with
   | some (.slice el),some (.slice _)=>match P.info? el,xZeroC P el with
    | some i,some z=>match Nat.ble 1 i.size,Nat.ble i.bytes 4096,Nat.beq z i.size with|true,true,true=>appendK i.size|_,_,_=>⟨fun _ _=>.bad⟩
    | _,_=>⟨fun _ _=>.bad⟩
   | some (.slice el),some (.int _)=>match P.info? el,xZeroC P el,xZeroT P el with
    | some i,some z,some v=>match Nat.ble 1 i.size,Nat.ble i.bytes 4096,Nat.beq z i.size,v.cells with|true,true,true,some c=>appendZ i.size c|_,_,_,_=>⟨fun _ _=>.bad⟩
    | _,_,_=>⟨fun _ _=>.bad⟩
   | _,_=>⟨fun _ _=>.bad⟩
  | _=>⟨fun _ _=>.bad⟩
 | .cap=>match ts with
  | [t]=>match P.underlying t with
   | some (.slice _)=>⟨fun args m=>match args with
    | [.sn]=>.v (.i .i64 0) m
    | [.sl _ _ _ true c]=>.v (.i .i64 (.ofNat c)) m
    | _=>.bad⟩
   | _=>⟨fun _ _=>.bad⟩
  | _=>⟨fun _ _=>.bad⟩
 | _=>⟨fun _ _=>.bad⟩
def xHasBody(P:Program)(g:Nat):Bool:=match P.funcs[g]? with
 | some fn=>match fn.name == "runtime.NumGoroutine" with|true=>false|false=>fn.body.isSome
 | none=>false
inductive EX where
 | indexByte
 | count
def xExtN(n:String):Option EX:=match n == "internal/bytealg.IndexByteString" with
 | true=>some .indexByte
 | false=>match n == "internal/bytealg.CountString" with|true=>some .count|false=>none
def xExt(P:Program)(g:Nat):Option EX:=match P.funcs[g]? with
 | some fn=>match fn.body.isNone with
  | false=>none
  | true=>match fn.name == "runtime.NumGoroutine",(Extern.findNext fn).isNone with
   | false,true=>xExtN fn.name
   | _,_=>none
 | none=>none
def xIdxB(b:Nat)(l:List UInt8):Nat->Option Nat:=List.rec (motive:=fun _=>Nat->Option Nat) (fun _=>none) (fun a _ ih i=>match Nat.beq a.toNat b with|true=>some i|false=>ih (Nat.succ i)) l
def xCntB(b:Nat)(l:List UInt8):Nat:=List.rec (motive:=fun _=>Nat) 0 (fun a _ ih=>match Nat.beq a.toNat b with|true=>Nat.succ ih|false=>ih) l
def xExtV:EX->List CV->Option CV
 | .indexByte,[.s l,.i .u8 (.ofNat b)]=>match Nat.ble b 255 with
  | true=>match xIdxB b l 0 with|some i=>some (.i .i64 (.ofNat i))|none=>some (.i .i64 (-1))
  | false=>none
 | .count,[.s l,.i .u8 (.ofNat b)]=>match Nat.ble b 255 with|true=>some (.i .i64 (.ofNat (xCntB b l)))|false=>none
 | _,_=>none
def callK(P:Program):CV->List CV->OR
 | .f g xs ys,args=>match xHasBody P g with
  | true=>.enter g (xApp xs (xApp args ys))
  | false=>.bad
 | .y k,args=>.round k args
 | _,_=>.bad
def xBadK:KO:=⟨fun _ _=>.bad⟩
def binN(op:BinOp)(k:IntKind)(a b:Int):Option CV :=
 match op with
 | .add=>some (.i k (k.wrap (a+b)))
 | .sub=>some (.i k (k.wrap (a-b)))
 | .mul=>some (.i k (k.wrap (a*b)))
 | .and=>some (.i k (k.wrap (BitVec.ofInt k.bits a &&& BitVec.ofInt k.bits b).toNat))
 | .or=>some (.i k (k.wrap (BitVec.ofInt k.bits a ||| BitVec.ofInt k.bits b).toNat))
 | .andNot=>some (.i k (k.wrap (BitVec.ofInt k.bits a &&& ~~~(BitVec.ofInt k.bits b)).toNat))
 | .eql=>some (.b (xEqI a b))
 | .neq=>some (.b (!xEqI a b))
 | .lss=>some (.b (xLtI a b))
 | .leq=>some (.b (!xLtI b a))
 | .gtr=>some (.b (xLtI b a))
 | .geq=>some (.b (!xLtI a b))
 | .quo=>match xEqI b 0 with|true=>none|false=>some (.i k (k.wrap (a.tdiv b)))
 | .rem=>match xEqI b 0 with|true=>none|false=>some (.i k (a.tmod b))
 | _=>none
structure K3 where
 run:IntKind->Int->Int->Option CV
def binKN:BinOp->K3
 | .add=>⟨binN .add⟩
 | .sub=>⟨binN .sub⟩
 | .mul=>⟨binN .mul⟩
 | .and=>⟨binN .and⟩
 | .or=>⟨binN .or⟩
 | .andNot=>⟨binN .andNot⟩
 | .eql=>⟨binN .eql⟩
 | .neq=>⟨binN .neq⟩
 | .lss=>⟨binN .lss⟩
 | .leq=>⟨binN .leq⟩
 | .gtr=>⟨binN .gtr⟩
 | .geq=>⟨binN .geq⟩
 | .quo=>⟨binN .quo⟩
 | .rem=>⟨binN .rem⟩
 | _=>⟨fun _ _ _=>none⟩
def xIsSl:Option TypeDesc->Bool
 | some (.slice _)=>true
 | _=>false
def xIsFn:Option TypeDesc->Bool
 | some (.func ..)=>true
 | _=>false
def xIsNf:Option TypeDesc->Operand->Bool
 | some (.interface _),.const _=>true
 | _,_=>false
def xEqW(sl fn nf:Bool):CV->CV->Option Bool
 | .s a,.s b=>some (xEqS a b)
 | .sn,.sn=>match sl with|true=>some true|false=>none
 | .sl ..,.sn=>match sl with|true=>some false|false=>none
 | .sn,.sl ..=>match sl with|true=>some false|false=>none
 | .fn,.fn=>match fn with|true=>some true|false=>none
 | .f ..,.fn=>match fn with|true=>some false|false=>none
 | .fn,.f ..=>match fn with|true=>some false|false=>none
 | .n,.n=>match nf with|true=>some true|false=>none
 | _,_=>none
def catW:CV->CV->Option CV
 | .s a,.s b=>match Nat.ble (Nat.add (xLen a) (xLen b)) 1000000 with|true=>some (.s (xApp a b))|false=>none
 | _,_=>none
structure K4 where
 run:CV->CV->Option CV
def binKW(sl fn nf:Bool):BinOp->K4
 | .eql=>⟨fun u z=>match xEqW sl fn nf u z with|some r=>some (.b r)|none=>none⟩
 | .neq=>⟨fun u z=>match xEqW sl fn nf u z with|some r=>some (.b !r)|none=>none⟩
 | .add=>⟨catW⟩
 | _=>⟨fun _ _=>none⟩
structure K5 where
 run:List CK->List CV->List CV->Option CV
def binKG:BinOp->K5
 | .eql=>⟨fun ks a b=>match eqD ks a b with|some r=>some (.b r)|none=>none⟩
 | .neq=>⟨fun ks a b=>match eqD ks a b with|some r=>some (.b !r)|none=>none⟩
 | _=>⟨fun _ _ _=>none⟩
inductive MK where
 | str
 | flat (ks:List IntKind)
 | int (k:IntKind)
def mapKind(P:Program)(kt:TypeId):Option MK:=match P.underlying kt with
 | some .string=>some .str
 | some (.int k)=>some (.int k)
 | some (.struct _)=>match flatT P kt with|some ks=>some (.flat ks)|none=>none
 | _=>none
def eqM:MK->CV->CV->Option Bool
 | .str,.s a,.s b=>some (xEqS a b)
 | .flat ks,.g a,.g b=>eqF ks a b
 | .int k,.i k1 a,.i k2 b=>match xKind k k1,xKind k k2 with|true,true=>some (xEqI a b)|_,_=>none
 | _,_,_=>none
def keyOk:MK->CV->Bool
 | .str,.s _=>true
 | .int k,.i k1 _=>xKind k k1
 | .flat ks,.g a=>(eqF ks a a).isSome
 | _,_=>false
def findX(mk:MK)(k:CV)(l:List (CV×CV)):Option (Option CV):=List.rec (motive:=fun _=>Option (Option CV)) (some none)
 (fun e _ ih=>match e with|(a,v)=>match eqM mk k a with|some true=>some (some v)|some false=>ih|none=>none) l
def putX(mk:MK)(k v:CV)(l:List (CV×CV)):Option (List (CV×CV)):=List.rec (motive:=fun _=>Option (List (CV×CV))) (some [(k,v)])
 (fun e l ih=>match e with|(a,w)=>match eqM mk k a with
  | some true=>some ((k,v)::l)
  | some false=>match ih with|some r=>some ((a,w)::r)|none=>none
  | none=>none) l
structure KB where
 run:Tr CV->Option (Option Nat)
def xBnd:Option Operand->KB
 | none=>⟨fun _=>some none⟩
 | some x=>match rdK x with|⟨f⟩=>⟨fun e=>match f e with | .i _ (.ofNat n)=>some (some n)|_=>none⟩
def xOr(o:Option Nat)(d:Nat):Nat:=match o with|some n=>n|none=>d
def xMxOk(h q:Option Nat):Bool:=match q,h with
 | some _,none=>false
 | _,_=>true
def xRoomC(m:Mem)(n k:Nat)(kn:Bool)(c q:Nat):Bool:=match kn with
 | true=>Nat.ble q c
 | false=>match m.obj k with
  | some (.grow n' l)=>match Nat.beq n n' with|true=>Nat.ble (Nat.mul (Nat.add c q) n) (xLen l)|false=>false
  | _=>false
def xSliceM(n k off ln:Nat)(kn:Bool)(c:Nat)(l:Nat)(h:Option Nat)(q:Option Nat)(m:Mem):OR :=
 match q with
 | some q=>match h with
  | none=>.bad
  | some h=>match Nat.ble l h,Nat.ble h q,xRoomC m n k kn c q with
   | true,true,true=>match kn with
    | true=>.v (.sl k (match Nat.beq q l with|true=>off|false=>Nat.add off (Nat.mul l n)) (Nat.sub h l) true (Nat.sub q l)) m
    | false=>.rd (.sl k (match Nat.beq q l with|true=>off|false=>Nat.add off (Nat.mul l n)) (Nat.sub h l) true (Nat.sub q l)) k
   | _,_,_=>.bad
 | none=>match xOr h ln with
  | h=>match Nat.ble l h,kn with
   | false,_=>.bad
   | true,true=>match Nat.ble h c with
    | true=>.v (.sl k (match Nat.beq c l with|true=>off|false=>Nat.add off (Nat.mul l n)) (Nat.sub h l) true (Nat.sub c l)) m
    | false=>.bad
   | true,false=>match xRoomC m n k false c h,l with
    | true,0=>.rd (.sl k off h false c) k
    | true,l+1=>match xRoomC m n k false c (l+2) with
     | true=>.rd (.sl k (Nat.add off (Nat.mul (l+1) n)) (Nat.sub h (l+1)) false (Nat.add c (l+1))) k
     | false=>.bad
    | false,_=>.bad
def opK(P:Program):Op->KO
 | .move x=>⟨fun e m=>.v ((rdK x).run e) m⟩
 | .assign x=>⟨fun e m=>.v ((rdK x).run e) m⟩
 | .pick c a b=>⟨fun e m=>match (rdK c).run e with | .b true=>.v ((rdK a).run e) m | .b false=>.v ((rdK b).run e) m|_=>.bad⟩
 | .alloc t=>match xZeroT P t with
  | some z=>match z.cells with|some c=>⟨fun _ m=>.v (.p m.nx 0) (m.add (.cells c))⟩|none=>xBadK
  | none=>xBadK
 | .box _ x=>⟨fun e m=>match ((rdK x).run e).cells with|some c=>.v (.p m.nx 0) (m.add (.cells c))|none=>.bad⟩
 | .build t ps=>match xZeroT P t,P.underlying t with
  | some z,some (.struct fs)=>match allSz P fs.toList,z.cells with
   | true,some c=>⟨fun e m=>match (fillK (fldAt P fs.toList) ps.toList).run c e with|some l=>.v (.g l) m|none=>.bad⟩
   | _,_=>xBadK
  | some z,some (.array _ el)=>match xSzT P el,z.cells with
   | some n,some c=>⟨fun e m=>match (fillK (fun i=>some (Nat.mul i n,n)) ps.toList).run c e with|some l=>.v (.g l) m|none=>.bad⟩
   | _,_=>xBadK
  | _,_=>xBadK
 | .buildSlice t ln ps=>match P.underlying t with
  | some (.slice el)=>match xSzT P el,xZeroT P el,xZeroC P el with
   | some n,some z,some zc=>match z.cells,Nat.ble (Nat.mul ln n) 1000000,Nat.ble 1 (Nat.mul ln n),Nat.beq zc n with
    | some c,true,true,true=>⟨fun e m=>match (fillK (fun i=>some (Nat.mul i n,n)) ps.toList).run (xRepL c ln) e with
     | some l=>.v (.sl m.nx 0 ln true ln) (m.add (.cells l))
     | none=>.bad⟩
    | _,_,_,_=>match ln,ps.toList with
     | 0,[]=>⟨fun _ m=>.v (.sl m.nx 0 0 true 0) (m.add (.cells []))⟩
     | _,_=>xBadK
   | _,_,_=>xBadK
  | _=>xBadK
 | .load t a=>⟨fun e m=>match (rdK a).run e with
   | .p k off=>match m.row k with
    | some l=>match (partK P t).run (xDrp off l) with|some v=>.rd v k|none=>.bad
    | none=>.bad
   | _=>.bad⟩
 | .store t a v=>match xSzT P t with
  | some n=>⟨fun e m=>match (rdK a).run e with
   | .p k off=>match ((rdK v).run e).cells with
    | some c=>match Nat.beq (xLen c) n with
     | true=>match m.store k off c with|some m=>.v .undef m|none=>.bad
     | false=>.bad
    | none=>.bad
   | _=>.bad⟩
  | none=>xBadK
 | .nilCheck x=>⟨fun e m=>match (rdK x).run e with
   | .p k off=>.v (.p k off) m
   | _=>.bad⟩
 | .binOp op t x y _=>match flatT P t with
  | none=>match op with
   | .shl=>⟨fun e m=>match (rdK x).run e,(rdK y).run e with | .i k a,.i _ (.ofNat n)=>.v (.i k (k.wrap (a*2^(min n k.bits)))) m|_,_=>.bad⟩
   | .shr=>⟨fun e m=>match (rdK x).run e,(rdK y).run e with | .i k a,.i _ (.ofNat n)=>.v (.i k (a.fdiv (2^(min n k.bits)))) m|_,_=>.bad⟩
   | op=>⟨fun e m=>match (rdK x).run e,(rdK y).run e with
    | .i k a,.i k' b=>match xKind k k' with
     | true=>match (binKN op).run k a b with|some v=>.v v m|none=>.bad
     | false=>.bad
    | .g a,.g b=>match deepG P t with
     | some ks=>match (binKG op).run ks a b with|some v=>.v v m|none=>.bad
     | none=>.bad
    | u,z=>match (binKW (xIsSl (P.underlying t)) (xIsFn (P.underlying t)) (xIsNf (P.underlying t) y) op).run u z with|some v=>.v v m|none=>.bad⟩
  | some ks=>match op with
   | .eql=>⟨fun e m=>match (rdK x).run e,(rdK y).run e with | .g a,.g b=>(match eqF ks a b with|some r=>.v (.b r) m|none=>.bad)|_,_=>.bad⟩
   | .neq=>⟨fun e m=>match (rdK x).run e,(rdK y).run e with | .g a,.g b=>(match eqF ks a b with|some r=>.v (.b !r) m|none=>.bad)|_,_=>.bad⟩
   | _=>xBadK
 | .unOp .not _ x=>⟨fun e m=>match (rdK x).run e with | .b v=>.v (.b !v) m|_=>.bad⟩
 | .unOp .neg _ x=>⟨fun e m=>match (rdK x).run e with | .i k v=>.v (.i k (k.wrap (0-v))) m|_=>.bad⟩
 | .convert s d x=>match P.underlying s,P.underlying d with
  | some (.int _),some (.int k)=>⟨fun e m=>match (rdK x).run e with | .i _ v=>.v (.i k (k.wrap v)) m|_=>.bad⟩
  | some .string,some (.slice el)=>match P.underlying el with
   | some (.int .u8)=>⟨fun e m=>match (rdK x).run e with
    | .s v=>.v (.sl m.nx 0 (xLen v) false 0) (m.add (.grow 1 (xBytesC v)))
    | _=>.bad⟩
   | _=>xBadK
  | _,_=>xBadK
 | .makeFunc (.func g) xs ys=>⟨fun e m=>.v (.f g ((rdsK xs.toList).run e) ((rdsK ys.toList).run e)) m⟩
 | .makeMap _ none=>⟨fun _ m=>.v (.m m.nx) (m.add (.map []))⟩
 | .makeChan t s=>match P.underlying t with
  | some (.chan _ el)=>match P.info? el with
   | some i=>⟨fun e m=>match (rdK s).run e with
    | .i _ (.ofNat 0)=>.v (.c m.nx) (m.add .chan)
    | .i _ (.ofNat (n+1))=>match Nat.ble i.bytes 4096,Nat.ble (n+1) 1000 with|true,true=>.v (.c m.nx) (m.add (.crowd (n+1) []))|_,_=>.bad
    | _=>.bad⟩
   | none=>xBadK
  | _=>xBadK
 | .fieldAddr t x i=>match P.underlying t with
  | some (.struct fs)=>match fldAt P fs.toList i with
   | some (o,n)=>match Nat.ble 1 n with
    | true=>⟨fun e m=>match (rdK x).run e with | .p k off=>.v (.p k (Nat.add off o)) m|_=>.bad⟩
    | false=>xBadK
   | none=>xBadK
  | _=>xBadK
 | .indexAddr t x y=>match P.underlying t with
  | some (.slice el)=>match xSzT P el with
   | some n=>⟨fun e m=>match (rdK x).run e,(rdK y).run e with
    | .sl k off ln _ _,.i _ (.ofNat i)=>match Nat.ble (Nat.succ i) ln with|true=>.v (.p k (Nat.add off (Nat.mul i n))) m|false=>.bad
    | _,_=>.bad⟩
   | none=>xBadK
  | some (.array ln el)=>match xSzT P el with
   | some n=>⟨fun e m=>match (rdK x).run e,(rdK y).run e with
    | .p k off,.i _ (.ofNat i)=>match Nat.ble (Nat.succ i) ln with|true=>.v (.p k (Nat.add off (Nat.mul i n))) m|false=>.bad
    | _,_=>.bad⟩
   | none=>xBadK
  | _=>xBadK
 | .index t x y=>match P.underlying t with
  | some (.array ln el)=>match xSzT P el,xAggT P el with
   | some n,some false=>⟨fun e m=>match (rdK x).run e,(rdK y).run e with
    | .g l,.i _ (.ofNat i)=>match Nat.ble (Nat.succ i) ln,xNth (Nat.mul i n) l with|true,some v=>.v v m|_,_=>.bad
    | _,_=>.bad⟩
   | some n,some true=>⟨fun e m=>match (rdK x).run e,(rdK y).run e with
    | .g l,.i _ (.ofNat i)=>match Nat.ble (Nat.succ i) ln,xTkn n (xDrp (Nat.mul i n) l) with|true,some r=>.v (.g r) m|_,_=>.bad
    | _,_=>.bad⟩
   | _,_=>xBadK
  | some .string=>⟨fun e m=>match (rdK x).run e,(rdK y).run e with
    | .s l,.i _ (.ofNat i)=>match xNth i l with|some b=>.v (.i .u8 (.ofNat b.toNat)) m|none=>.bad
    | _,_=>.bad⟩
  | _=>xBadK
 | .lookup t x y ok=>match P.underlying t with
  | some (.map kt el)=>match mapKind P kt,xZeroT P el with
   | some mk,some z=>⟨fun e m=>match (rdK x).run e with
    | .m k=>match m.obj k,keyOk mk ((rdK y).run e) with
     | some (.map es),true=>match findX mk ((rdK y).run e) es with
      | some (some v)=>.rd (match ok with|true=>.t [v,.b true]|false=>v) k
      | some none=>.rd (match ok with|true=>.t [z,.b false]|false=>z) k
      | none=>.bad
     | _,_=>.bad
    | _=>.bad⟩
   | _,_=>xBadK
  | _=>xBadK
 | .mapUpdate t x y z=>match P.underlying t with
  | some (.map kt _)=>match mapKind P kt with
   | some mk=>⟨fun e m=>match (rdK x).run e with
    | .m k=>match m.M.get k,keyOk mk ((rdK y).run e) with
     | some (.own (.map es)),true=>match putX mk ((rdK y).run e) ((rdK z).run e) es with
      | some es=>.v .undef (m.put k (.map es))
      | none=>.bad
     | _,_=>.bad
    | _=>.bad⟩
   | none=>xBadK
  | _=>xBadK
 | .slice t x lo hi mx=>match P.underlying t with
  | some (.slice el)=>match xSzT P el,xBnd lo,xBnd hi,xBnd mx with
   | some n,⟨lo⟩,⟨hi⟩,⟨mx⟩=>⟨fun e m=>match (rdK x).run e with
    | .sl k off ln kn c=>match lo e,hi e,mx e with
     | some l,some h,some q=>xSliceM n k off ln kn c (xOr l 0) h q m
     | _,_,_=>.bad
    | .sn=>match lo e,hi e,mx e with
     | some l,some h,some q=>match Nat.beq (xOr l 0) 0,Nat.beq (xOr h 0) 0,Nat.beq (xOr q 0) 0,xMxOk h q with
      | true,true,true,true=>.v .sn m
      | _,_,_,_=>.bad
     | _,_,_=>.bad
    | _=>.bad⟩
   | _,_,_,_=>xBadK
  | some .string=>match xBnd lo,xBnd hi,mx with
   | ⟨lo⟩,⟨hi⟩,none=>⟨fun e m=>match (rdK x).run e,lo e,hi e with
    | .s b,some l,some h=>match xOr h (xLen b),xOr l 0 with
     | h,l=>match Nat.ble h (xLen b),Nat.ble l h with
      | true,true=>match xTkn (Nat.sub h l) (xDrp l b) with|some r=>.v (.s r) m|none=>.bad
      | _,_=>.bad
    | _,_,_=>.bad⟩
   | _,_,_=>xBadK
  | _=>xBadK
 | .field t x i=>match P.underlying t with
  | some (.struct fs)=>match fs.toList[i]? with
   | some f=>⟨fun e m=>match (rdK x).run e with
    | .g l=>match (partK P f.type).run (xDrp f.offset l) with|some v=>.v v m|none=>.bad
    | _=>.bad⟩
   | none=>xBadK
  | _=>xBadK
 | .makeSlice t a b=>match P.underlying t with
  | some (.slice el)=>match xSzT P el,xZeroT P el,xZeroC P el,P.info? el with
   | some n,some z,some zc,some i=>match z.cells,Nat.ble 1 n,Nat.beq zc n,Nat.ble i.bytes 4096 with
    | some c,true,true,true=>⟨fun e m=>match (rdK a).run e,(rdK b).run e with
     | .i _ (.ofNat ln),.i _ (.ofNat cp)=>match Nat.beq ln cp,Nat.ble 1 ln,Nat.ble (Nat.mul ln n) 1000000 with
      | true,true,true=>.v (.sl m.nx 0 ln true ln) (m.add (.cells (xRepL c ln)))
      | _,_,_=>.bad
     | _,_=>.bad⟩
    | _,_,_,_=>xBadK
   | _,_,_,_=>xBadK
  | _=>xBadK
 | .insert t x y z=>match P.underlying t with
  | some (.map kt _)=>match mapKind P kt with
   | some mk=>⟨fun e m=>match (rdK x).run e with
    | .m k=>match m.M.get k,keyOk mk ((rdK y).run e) with
     | some (.own (.map es)),true=>match putX mk ((rdK y).run e) ((rdK z).run e) es with
      | some es=>.v .undef (m.put k (.map es))
      | none=>.bad
     | _,_=>.bad
    | _=>.bad⟩
   | none=>xBadK
  | _=>xBadK
 | .range t x=>match P.underlying t with
  | some (.map _ _)=>⟨fun e m=>match (rdK x).run e with
   | .m k=>match m.obj k with|some (.map es)=>.v (.p m.nx 0) (m.add (.iter k (xLen es) []))|_=>.bad
   | _=>.bad⟩
  | _=>xBadK
 | .entry x=>⟨fun e m=>match (rdK x).run e with
   | .p k 0=>match m.M.get k with
    | some (.own (.iter mk n seen))=>match seen.getLast?,m.obj mk with
     | some j,some (.map es)=>match Nat.beq (xLen es) n,xNth j es with
      | true,some (a,v)=>.v (.t [a,v]) m
      | _,_=>.bad
     | _,_=>.bad
    | _=>.bad
   | _=>.bad⟩
 | .extract x i=>⟨fun e m=>match (rdK x).run e with | .t l=>xVOf m (xNth i l)|_=>.bad⟩
 | .call c=>match c.callee with
  | .builtin b=>⟨fun e m=>(builtinK P b c.argTypes.toList).run ((rdsK c.args.toList).run e) m⟩
  | .value (.func g)=>match xExt P g with
   | some ex=>⟨fun e m=>match xExtV ex ((rdsK c.args.toList).run e) with|some v=>.v v m|none=>.bad⟩
   | none=>⟨fun e _=>callK P (.f g [] []) ((rdsK c.args.toList).run e)⟩
  | .value x=>⟨fun e _=>callK P ((rdK x).run e) ((rdsK c.args.toList).run e)⟩
  | _=>xBadK
 | .go c=>match c.callee with
  | .value x=>⟨fun e _=>.go ((rdK x).run e) ((rdsK c.args.toList).run e)⟩
  | _=>xBadK
 | .defer c=>match c.callee,c.args.toList with
  | .builtin .close,[.tmp t]=>⟨fun e _=>match e.get t with|some x=>.dclose x|none=>.bad⟩
  | _,_=>xBadK
 | .send x y=>⟨fun e _=>match (rdK x).run e with | .c k=>.send k ((rdK y).run e)|_=>.bad⟩
 | .recv t x ok=>match P.underlying t with
  | some (.chan _ el)=>match xZeroT P el with
   | some _=>⟨fun e _=>match (rdK x).run e with | .c k=>.recv k ok|_=>.bad⟩
   | none=>xBadK
  | _=>xBadK
 | _=>xBadK
def xMild:Op->Bool
 | .move _ | .assign _ | .pick .. | .build .. | .load .. | .nilCheck _ | .binOp .. | .unOp .. | .makeFunc .. | .fieldAddr .. | .indexAddr .. | .index .. | .lookup .. | .extract .. | .field .. | .slice .. | .convert ..=>true
 | .call {callee:=.builtin .len,..} | .call {callee:=.builtin .min,..} | .call {callee:=.builtin .max,..}=>true
 | _=>false
def xDeps(l:List Oper)(o:Oper):List Bool:=(List.range l.length).map fun k=>o.after.toList.any fun e=>Region.binds .any e&&e.on==k
def xEarly(l:List Oper)(j:Nat):Bool:=match l[j]? with
 | some o=>(match o.op,o.dst,o.guard with | .alloc _,some _,none=>true | .buildSlice ..,some _,none=>true|_,_,_=>false)&&Ahv l (xDeps l o) j
 | none=>false
def xRest0(l:List Oper)(fl:Option Nat)(li:List Bool)(i:Nat):List Nat :=
 Dl l (match fl with|some f=>(match Nat.beq f i with|true=>li|false=>li.set f true)|none=>li)
def xOnly(l:List Oper)(fl:Option Nat)(li:List Bool)(i:Nat):Bool:=(xRest0 l fl li i).all (Nat.beq i)
def xTake(l:List Oper)(li:List Bool)(i:Nat):Bool:=(match l[i]? with|some o=>xMild o.op&&o.dst.isSome|none=>false)&&Ahv l li i
def xFp(l:List Oper)(fl:Option Nat)(li:List Bool)(i:Nat):Bool:=match fl with
 | some f=>(Dl l li).contains f && !(Nat.beq f i)
 | none=>false
def xPlan(l:List Oper)(fl:Option Nat):Nat->List Bool->List (Nat×Bool×Bool)
 | 0,_=>[]
 | n+1,li=>match (Dl l li).filter (fun i=>match fl with|some f=>!(Nat.beq f i)|none=>true) with
  | []=>match fl with
   | some f=>match li.getD f true with
    | true=>[]
    | false=>(f,false,false)::xPlan l fl n (li.set f true)
   | none=>[]
  | r::rs=>match xOnly l fl li r with
   | true=>(r,false,xFp l fl li r)::xPlan l fl n (li.set r true)
   | false=>match (r::rs).find? (xTake l li) with
    | some i=>(i,true,false)::xPlan l fl n (li.set i true)
    | none=>[]
def xGood(l:List Oper)(fl:Option Nat)(pz:List Nat):List (Nat×Bool×Bool)->List Bool->Bool
 | [],li=>match Dl l li with|[]=>true|_=>false
 | (i,tk,fp)::r,li=>(Dl l li).contains i&&(match tk with
   | true=>pz.contains i&&xTake l li i&&(match fl with|some f=>!(Nat.beq f i)|none=>true)
   | false=>xOnly l fl li i&&(match xFp l fl li i with|true=>fp|false=>true))&&xGood l fl pz r (li.set i true)
def xPz(p:List (Nat×Bool×Bool)):List Nat:=(p.filter (·.2.1)).map (·.1)
def xFine(l:List Oper)(fl:Option Nat):Bool:=match xPlan l fl l.length (List.replicate l.length false) with
 | p=>xGood l fl (xPz p) p (List.replicate l.length false)
def xCands(l:List Oper):List (Option Nat):=((List.range l.length).filter (xEarly l)).map some
def xFloat(l:List Oper):Option Nat:=match (xCands l).find? (xFine l) with
 | some f=>f
 | none=>none
inductive R where
 | n (s:St)
 | x (id:Nat) (s:St)
 | r (s:St)
 | bad
inductive RV where
 | v (x:CV) (m:Mem)
 | bad
structure Fns where
 mn:Bool
 ch:Nat
 code:Nat->Option Nat->Code->St->R
 call:FuncId->List CV->Mem->RV
 send:FuncId->List CV->Mem->Nat->Option (List CV)
 msg:FuncId->List CV->Mem->Option (Nat×CV×Mem)
inductive OV where
 | v (x:CV) (m:Mem) (ds:List CD)
 | bad
def xKeysV:CV->List Nat:=CV.rec (motive_1:=fun _=>List Nat) (motive_2:=fun _=>List Nat) [] (fun _=>[]) (fun _ _=>[]) (fun _=>[]) [] (fun k _=>[k]) [] (fun k _ _ _ _=>[k]) [] (fun k=>[k]) [] (fun _=>[]) [] (fun _ _ _ a b=>xApp a b) (fun _=>[]) [] (fun _ _ a=>a) (fun _ a=>a) (fun _ a=>a) [] (fun _ _ a b=>xApp a b)
def xKeysL(l:List CV):List Nat:=List.rec (motive:=fun _=>List Nat) [] (fun a _ ih=>xApp (xKeysV a) ih) l
def xKeysO:CO->List Nat
 | .cells l=>xKeysL l
 | .grow _ l=>xKeysL l
 | .map es=>xKeysL (es.map (·.1))++xKeysL (es.map (·.2))
 | _=>[]
def xShare(n:Nat):List Nat->Tr Cell->Tr Cell:=Nat.rec (motive:=fun _=>List Nat->Tr Cell->Tr Cell) (fun _ M=>M)
 (fun _ ih l M=>match l with
  | []=>M
  | k::l=>match M.get k with
   | some (.own (.cells c))=>ih (xApp (xKeysL c) l) (M.set k (.ro (.cells c)))
   | some (.own (.grow z c))=>ih (xApp (xKeysL c) l) (M.set k (.ro (.grow z c)))
   | some (.own (.map es))=>ih (xApp (xKeysO (.map es)) l) (M.set k (.ro (.map es)))
   | _=>ih l M) n
def xIsRcv:Option Cell->Bool
 | some (.own (.rcv _))=>true
 | some (.own (.crowd _ _))=>true
 | _=>false
def xNoRcv(t:Tr Cell):Bool:=Tr.rec (motive:=fun _=>Bool) true (fun v _ _ a b=>match xIsRcv v with|true=>false|false=>match a with|true=>b|false=>false) t
def xRoOf:Option Cell->Option Cell
 | some (.ro o)=>some (.ro o)
 | _=>none
def xOnlyRo(t:Tr Cell):Tr Cell:=Tr.rec (motive:=fun _=>Tr Cell) .leaf (fun v _ _ a b=>.node (xRoOf v) a b) t
def xHasK(k:Nat)(l:List (Nat×Option Nat×List CV)):Bool:=List.rec (motive:=fun _=>Bool) false (fun a _ ih=>match Nat.beq a.1 k with|true=>true|false=>ih) l
def xRows(lo:Nat)(M:Tr Cell)(n:Nat):List Nat->List (Nat×Option Nat×List CV)->List (Nat×Option Nat×List CV):=Nat.rec (motive:=fun _=>List Nat->List (Nat×Option Nat×List CV)->List (Nat×Option Nat×List CV)) (fun _ a=>a)
 (fun _ ih l a=>match l with
  | []=>a
  | k::l=>match Nat.ble lo k,xHasK k a with
   | true,false=>match M.get k with
    | some (.ro (.cells c))=>ih (xApp (xKeysL c) l) ((k,none,c)::a)
    | some (.ro (.grow z c))=>ih (xApp (xKeysL c) l) ((k,some z,c)::a)
    | _=>ih l a
   | _,_=>ih l a) n
def xMsgOf(lo:Nat)(x:CV)(m:Mem):CV×List (Nat×Option Nat×List CV)×Nat×Nat:=(x,xRows lo (xShare 100000 (xKeysV x) m.M) 1000 (xKeysV x) [],lo,m.nx)
def xAllGe(lo:Nat)(l:List Nat):Bool:=List.rec (motive:=fun _=>Bool) true (fun a _ ih=>match Nat.ble lo a with|true=>ih|false=>false) l
def xRowsGe(lo:Nat)(l:List (Nat×Option Nat×List CV)):Bool:=List.rec (motive:=fun _=>Bool) true (fun a _ ih=>match xAllGe lo (xKeysL a.2.2) with|true=>ih|false=>false) l
def xMsgLow(q:CV×List (Nat×Option Nat×List CV)×Nat×Nat):Bool:=match xAllGe q.2.2.1 (xKeysV q.1) with|true=>xRowsGe q.2.2.1 q.2.1|false=>false
def xPutP(ps:List Tmp):List CV->Tr CV->Tr CV:=List.rec (motive:=fun _=>List CV->Tr CV->Tr CV) (fun _ e=>e) (fun t _ ih l e=>match l with|a::l=>ih l (e.set t a)|[]=>e) ps
def xArgEnv(args:List CV):Nat->Tr CV->Tr CV:=List.rec (motive:=fun _=>Nat->Tr CV->Tr CV) (fun _ e=>e) (fun a _ ih i e=>ih (Nat.succ i) (e.set i a)) args
def xChanOf(l:List CV):Option Nat:=List.rec (motive:=fun _=>Option Nat) none (fun a _ ih=>match a with | .c k=>some k|_=>ih) l
def xRev(l:List CV):List CV->List CV:=List.rec (motive:=fun _=>List CV->List CV) (fun r=>r) (fun a _ ih r=>ih (a::r)) l
def xAllLt(n:Nat)(l:List Nat):Bool:=List.rec (motive:=fun _=>Bool) true (fun t _ ih=>match Nat.ble (Nat.succ t) n with|true=>ih|false=>false) l
def xRest(m:Mem)(o:List CV):Mem:=⟨m.M,m.nx,m.log,m.ln,o⟩
def xEndRound(m:Mem)(ds:List CD)(k:Nat)(j:Option Code):OV:=match m.M.get k with
 | some (.own (.loop _ _ n env ps as_ body dk))=>.v (.b (match j with|none=>true|some _=>false)) (m.put k (.loop (match j with|none=>0|some _=>2) j n env ps as_ body dk)) ds
 | _=>.bad
def doOR(F:Fns)(st:St):OR->OV
 | .v x m=>.v x m st.ds
 | .rd x _=>.v x st.m st.ds
 | .enter f args=>match F.call f args st.m with | .v x m=>.v x (xRest m st.m.outs) st.ds | .bad=>.bad
 | .round k args=>match st.m.M.get k with
  | some (.own (.loop 0 _ n env ps as_ body _))=>match Nat.beq (xLen args) (xLen ps),xAllLt n ps with
   | true,true=>match F.code n (some k) as_ ⟨xPutP ps args env,st.m,[]⟩ with
    | .n st1=>match st1.ds,st1.m.M.get k with
     | [],some (.own (.loop 0 pd n' env' ps' as' body' dk'))=>match F.code n (some k) body ⟨st1.e,st1.m.put k (.loop 1 pd n' env' ps' as' body' dk'),[]⟩ with
      | .n st3=>xEndRound (xRest st3.m st.m.outs) st.ds k none
      | .x id st3=>xEndRound (xRest st3.m st.m.outs) st.ds k (some (.exit id))
      | .r st3=>xEndRound (xRest st3.m st.m.outs) st.ds k (some .ret)
      | .bad=>.bad
     | _,_=>.bad
    | _=>.bad
   | _,_=>.bad
  | _=>.bad
 | _=>.bad
def doX1(F:Fns)(_:Option Nat)(st:St):OR->OV
 | .go f args=>match F.mn,f with
  | true,.f g [] [] =>
   let all:=args
   match xNoRcv st.m.M,xChanOf all with
   | true,some k =>
    let M:=xShare 100000 (xKeysL all) st.m.M
    match M.get k,F.send g all ⟨xOnlyRo M,st.m.nx,[],0,[]⟩ k with
    | some (.own .chan),some outs=>.v .undef ⟨M.set k (.own (.rcv (xRev outs []))),st.m.nx,k::st.m.log,Nat.succ st.m.ln,st.m.outs⟩ st.ds
    | _,_=>.bad
   | _,_=>.bad
  | true,.f g [] (y::ys) =>
   let all:=xApp args (y::ys)
   let M:=xShare 100000 (xKeysL all) st.m.M
   match F.msg g all ⟨xOnlyRo M,st.m.nx,[],0,[]⟩ with
   | some (k,x,m1)=>match M.get k,xNoRcv (M.set k (.own .dead)) with
    | some (.own (.crowd (n+1) ms)),true=>match xMsgLow (xMsgOf st.m.nx x m1) with
     | true=>.v .undef ⟨M.set k (.own (.crowd n (xApp ms [xMsgOf st.m.nx x m1]))),st.m.nx,k::st.m.log,Nat.succ st.m.ln,st.m.outs⟩ st.ds
     | false=>.bad
    | _,_=>.bad
   | none=>.bad
  | _,_=>.bad
 | .recv k ok=>match F.mn,ok with
  | true,true=>match st.m.M.get k with
   | some (.own (.rcv (v::vs)))=>.v (.t [v,.b true]) (st.m.put k (.rcv vs)) st.ds
   | some (.own (.rcv []))=>.v (.t [.bad,.b false]) (st.m.put k .dead) st.ds
   | _=>.bad
  | _,_=>.bad
 | y=>doOR F st y
def xPlainV:CV->Bool
 | .b _ | .i _ _ | .s _=>true
 | _=>false
def doS1(F:Fns)(rd:Option Nat)(st:St):OR->OV
 | .send k x=>match Nat.beq k F.ch,xPlainV x with
  | true,true=>.v .undef (xRest st.m (x::st.m.outs)) st.ds
  | _,_=>.bad
 | .dclose x=>match rd,x,st.ds with
  | none,.c k,[]=>match Nat.beq k F.ch with|true=>.v .undef st.m [.close k]|false=>.bad
  | _,_,_=>.bad
 | y=>doOR F st y
def xOkV:CV->Bool:=CV.rec (motive_1:=fun _=>Bool) (motive_2:=fun _=>Bool) false (fun _=>true) (fun _ _=>true) (fun _=>true) true (fun _ _=>true) true (fun _ _ _ _ _=>true) true (fun _=>true) true (fun _=>true) true (fun _ _ _ a b=>a&&b) (fun _=>true) true (fun _ _ a=>a) (fun _ a=>a) (fun _ a=>a) true (fun _ _ a b=>a&&b)
structure KS where
 run:Fns->Option Nat->St->R
structure KD where
 run:Fns->Option Nat->List (Nat×Nat)->St->R
structure KG where
 run:Tr CV->Bool
structure KP where
 run:Tr CV->CV->Tr CV
structure DX where
 gl:Bool
 run:Fns->Option Nat->St->OR->OV
def doX:DX:=⟨true,doX1⟩
def doS:DX:=⟨false,doS1⟩
def dstK:Option Tmp->KP
 | some d=>⟨fun e v=>e.set d v⟩
 | none=>⟨fun e _=>e⟩
def guardK(l:List Oper)(o:Oper):KG:=match o.guard with
 | none=>⟨fun _=>true⟩
 | some (j,w)=>match (l[j]?).bind (·.dst) with
  | some d=>⟨fun e=>match e.get d with|some (.b x)=>(match x,w with|true,true=>true|false,false=>true|_,_=>false)|_=>false⟩
  | none=>⟨fun _=>false⟩
def gokK(l:List Oper)(o:Oper):KG:=match o.guard with
 | none=>⟨fun _=>true⟩
 | some (j,_)=>match (l[j]?).bind (·.dst) with
  | some d=>⟨fun e=>match e.get d with|some (.b _)=>true|some (.t _)=>true|_=>false⟩
  | none=>⟨fun _=>false⟩
def textK(P:Program)(dx:DX)(l:List Oper):List Oper->KS
 | []=>⟨fun _ _ st=>.n st⟩
 | o::r=>match opK P o.op,dstK o.dst,guardK l o,gokK l o,textK P dx l r with
  | ⟨f⟩,⟨d⟩,⟨g⟩,⟨gk⟩,⟨k⟩=>⟨fun F rd st=>match gk st.e with
   | false=>.bad
   | true=>match g st.e with
    | false=>k F rd ⟨d st.e .undef,st.m,st.ds⟩
    | true=>match dx.run F rd st (f st.e st.m) with
     | .v x m ds=>k F rd ⟨d st.e x,m,ds⟩
     | .bad=>.bad⟩
def xNoneOf(K:List Nat)(n:Nat):List Nat->Bool:=Nat.rec (motive:=fun _=>List Nat->Bool) (fun _=>true)
 (fun _ ih l=>match l with|[]=>true|k::l=>match K.any (Nat.beq k) with|true=>false|false=>ih l) n
def xWaits(l:List Oper)(j i:Nat):Bool:=match l[j]? with
 | some o=>o.after.toList.any fun e=>Region.binds .any e&&e.on==i
 | none=>true
def xKeep(wt:Nat->Bool)(n:Nat)(lg:List Nat)(K:List (Nat×Nat)):Option (List (Nat×Nat)):=List.rec (motive:=fun _=>Option (List (Nat×Nat))) (some [])
 (fun a _ ih=>match wt a.1 with
  | true=>ih
  | false=>match xNoneOf [a.2] n lg with
   | true=>match ih with|some r=>some (a::r)|none=>none
   | false=>none) K
structure KH where
 run:Tr CV->Mem->Bool
def xIsV:OR->Bool
 | .v _ _=>true
 | _=>false
def flK(P:Program)(l:List Oper):Option Nat->KH
 | none=>⟨fun _ _=>true⟩
 | some f=>match l[f]? with
  | some o=>match opK P o.op with|⟨g⟩=>⟨fun e m=>xIsV (g e m)⟩
  | none=>⟨fun _ _=>false⟩
def anyK(P:Program)(l:List Oper)(fo:KH):List (Nat×Bool×Bool)->KD
 | []=>⟨fun _ _ _ st=>.n st⟩
 | (i,tk,fp)::r=>match l[i]?,anyK P l fo r with
  | none,_=>⟨fun _ _ _ _=>.bad⟩
  | some o,⟨k⟩=>match opK P o.op,dstK o.dst,guardK l o,gokK l o,tk with
   | ⟨f⟩,⟨d⟩,⟨g⟩,⟨gk⟩,true=>⟨fun F rd K st=>match gk st.e with
    | true=>match g st.e with
     | false=>k F rd K ⟨d st.e .undef,st.m,st.ds⟩
     | true=>match f st.e st.m with
      | .rd x q=>match xOkV x with
       | true=>k F rd ((i,q)::K) ⟨d st.e x,st.m,st.ds⟩
       | false=>.bad
      | .v x m=>match Nat.beq m.nx st.m.nx with
       | true=>k F rd K ⟨d st.e x,st.m,st.ds⟩
       | false=>.bad
      | _=>.bad
    | false=>.bad⟩
   | ⟨f⟩,⟨d⟩,⟨g⟩,⟨gk⟩,false=>⟨fun F rd K st=>match (match fp with|true=>fo.run st.e st.m|false=>true),gk st.e with
    | true,true=>match (match g st.e with|false=>OV.v .undef st.m st.ds|true=>doOR F st (f st.e st.m)) with
     | .v x m ds=>match xKeep (xWaits l i) (Nat.sub m.ln st.m.ln) m.log K with
      | some K=>k F rd K ⟨d st.e x,m,ds⟩
      | none=>.bad
     | .bad=>.bad
    | _,_=>.bad⟩
def xSlotsN(n:Nat):List Oper->Bool
 | []=>true
 | o::l=>match o.dst with
  | some d=>match Nat.ble (Nat.succ d) n with|true=>xSlotsN n l|false=>false
  | none=>xSlotsN n l
def drawK(P:Program)(l:List Oper):KS:=match Apw l,P.follows .mixedOrders with
 | true,true =>
  let p:=xPlan l (xFloat l) l.length (List.replicate l.length false)
  let pz:=xPz p
  match xGood l (xFloat l) pz p (List.replicate l.length false),anyK P l (flK P l (xFloat l)) p with
  | true,⟨k⟩=>⟨fun F rd st=>k F rd [] st⟩
  | false,_=>⟨fun _ _ _=>.bad⟩
 | _,_=>⟨fun _ _ _=>.bad⟩
def xGoLast(l:List Oper):Bool:=match l.getLast? with
 | some o=>match o.op with | .go _=>true|_=>false
 | none=>false
def regK(P:Program)(dx:DX)(n:Nat)(l:List Oper)(draw:Bool):KS:=match xSlotsN n l with
 | false=>⟨fun _ _ _=>.bad⟩
 | true=>match draw with
  | false=>textK P dx l l
  | true=>match xGoLast l,dx.gl with
   | false,_=>drawK P l
   | true,false=>⟨fun _ _ _=>.bad⟩
   | true,true=>match Adh (l.take (l.length-1)),Amp (l.take (l.length-1)) l,drawK P (l.take (l.length-1)),textK P dx l (l.drop (l.length-1)) with
    | true,true,⟨f⟩,⟨g⟩=>⟨fun F rd st=>match f F rd st with | .n st=>g F rd st|_=>.bad⟩
    | _,_,_,_=>⟨fun _ _ _=>.bad⟩
structure KC where
 run:Fns->Option Nat->St->R
def xLoopR(f:Fns->Option Nat->St->R)(F:Fns)(rd:Option Nat)(n:Nat):St->R:=Nat.rec (motive:=fun _=>St->R) (fun _=>.bad)
 (fun _ ih st=>match f F rd st with | .n st=>ih st|y=>y) n
def xRange(F:Fns)(n:Nat)(ps:List Tmp)(as_ body:Code)(g:FuncId)(ys:List CV)(e:Tr CV)(dk:Nat)(m:Mem)(ds:List CD):R :=
 match F.call g (.y m.nx::ys) (m.add (.loop 0 none n e ps as_ body dk)) with
 | .v _ m'=>match m'.M.get m.nx with
  | some (.own (.loop b pd n' env ps' as' body' dk'))=>match Nat.beq b 1 with
   | true=>.bad
   | false=>match pd with
    | none=>.n ⟨e,xRest (m'.put m.nx (.loop 3 none n' env ps' as' body' dk')) m.outs,ds⟩
    | some c=>match c with
     | .exit id=>.x id ⟨e,xRest (m'.put m.nx (.loop 3 pd n' env ps' as' body' dk')) m.outs,ds⟩
     | .ret=>.r ⟨e,xRest (m'.put m.nx (.loop 3 pd n' env ps' as' body' dk')) m.outs,ds⟩
     | _=>.bad
  | _=>.bad
 | .bad=>.bad
def codeK(P:Program)(dx:DX)(n:Nat):Code->KC
 | .skip=>⟨fun _ _ st=>.n st⟩
 | .region _ ops draw=>match regK P dx n ops.toList draw with|⟨k⟩=>⟨fun F rd st=>k F rd st⟩
 | .seq a b=>match codeK P dx n a,codeK P dx n b with
  | ⟨f⟩,⟨g⟩=>⟨fun F rd st=>match f F rd st with | .n st=>g F rd st|y=>y⟩
 | .cond c a b=>match rdK c,codeK P dx n a,codeK P dx n b with
  | ⟨c⟩,⟨f⟩,⟨g⟩=>⟨fun F rd st=>match c st.e with | .b true=>f F rd st | .b false=>g F rd st|_=>.bad⟩
 | .block id a=>match codeK P dx n a with
  | ⟨f⟩=>⟨fun F rd st=>match f F rd st with | .x j st=>(match Nat.beq j id with|true=>.n st|false=>.x j st)|y=>y⟩
 | .loop a=>match codeK P dx n a with|⟨f⟩=>⟨fun F rd st=>xLoopR f F rd 1000000 st⟩
 | .scope a=>match codeK P dx n a with|⟨f⟩=>⟨fun F rd st=>f F rd st⟩
 | .label _=>⟨fun _ _ st=>.n st⟩
 | .exit id=>⟨fun _ _ st=>.x id st⟩
 | .ret=>⟨fun _ _ st=>.r st⟩
 | .rangeFunc f ps as_ body=>match rdK f,xAllLt n ps.toList with
  | ⟨f⟩,true=>⟨fun F rd st=>match f st.e with
   | .f g [] ys=>match xHasBody P g with
    | true=>match rd with
     | some l=>match st.m.M.get l with|some (.own (.loop _ _ _ _ _ _ _ dk))=>xRange F n ps.toList as_ body g ys st.e dk st.m st.ds|_=>.bad
     | none=>xRange F n ps.toList as_ body g ys st.e st.m.nx (st.m.add .defd) (.mark st.m.nx::st.ds)
    | false=>.bad
   | _=>.bad⟩
  | _,false=>⟨fun _ _ _=>.bad⟩
 | _=>⟨fun _ _ _=>.bad⟩
structure KR where
 run:Tr CV->Mem->Option (List CV)
def resK(P:Program):List ResultVar->KR
 | []=>⟨fun _ _=>some []⟩
 | .tmp t::l=>match resK P l with|⟨g⟩=>⟨fun e m=>match g e m with|some r=>some ((match e.get t with|some v=>v|none=>.bad)::r)|none=>none⟩
 | .cell a t::l=>match resK P l,partK P t with
  | ⟨g⟩,⟨h⟩=>⟨fun e m=>match e.get a with
   | some (.p k off)=>match m.row k with
    | some c=>match h (xDrp off c),g e m with|some v,some r=>some (v::r)|_,_=>none
    | none=>none
   | _=>none⟩
structure KF where
 run:Fns->List CV->Mem->RV
def xDefersR(l:List CD):Mem->Option Mem:=List.rec (motive:=fun _=>Mem->Option Mem) (fun m=>some m)
 (fun d _ ih m=>match d with
  | .mark k=>match m.M.get k with|some (.own .defd)=>ih (m.put k .dead)|_=>none
  | .close _=>none) l
def xFin(h:Tr CV->Mem->Option (List CV))(st:St):RV:=match xDefersR st.ds st.m with
 | some m=>match h st.e m with
  | some [v]=>.v v m
  | some l=>.v (.t l) m
  | none=>.bad
 | none=>.bad
def funK(P:Program)(g:Nat):KF:=match P.funcs[g]? with
 | some fn=>match fn.body with
  | some c=>match codeK P doX fn.ntmps c,resK P fn.results.toList,fn.ntmps with
   | ⟨f⟩,⟨h⟩,n=>⟨fun F args m=>match Nat.ble (xLen args) n with
    | true=>match f F none ⟨xArgEnv args 0 .leaf,m,[]⟩ with
     | .n st=>xFin h st
     | .r st=>xFin h st
     | _=>.bad
    | false=>.bad⟩
  | none=>⟨fun _ _ _=>.bad⟩
 | none=>⟨fun _ _ _=>.bad⟩
structure KQ where
 run:Fns->St->Option St
def preK(P:Program)(l:List Oper):List Oper->KQ
 | []=>⟨fun _ st=>some st⟩
 | o::r=>match opK P o.op,dstK o.dst,guardK l o,gokK l o,preK P l r with
  | ⟨f⟩,⟨d⟩,⟨g⟩,⟨gk⟩,⟨k⟩=>⟨fun F st=>match gk st.e with
   | false=>none
   | true=>match g st.e with
    | false=>k F ⟨d st.e .undef,st.m,st.ds⟩
    | true=>match doOR F st (f st.e st.m) with
     | .v x m ds=>k F ⟨d st.e x,m,ds⟩
     | .bad=>none⟩
def xTail:Code->Option (Code×Nat×List Oper)
 | .seq a b=>match xTail b with|some (c,i,l)=>some (.seq a c,i,l)|none=>none
 | .region i ops false=>some (.skip,i,ops.toList)
 | _=>none
structure KM where
 run:Fns->List CV->Mem->Option (Nat×CV×Mem)
def xSendOf(o:Oper):Option (Operand×Operand):=match o.op,o.guard with
 | .send x y,none=>some (x,y)
 | _,_=>none
def msgK(P:Program)(g:Nat):KM:=match P.funcs[g]?,xHasBody P g with
 | some fn,true=>match fn.body,fn.results.toList with
  | some c,[]=>match xTail c with
   | some (c,_,l)=>match l.getLast?,xSlotsN fn.ntmps l with
    | some so,true=>match xSendOf so with
     | some (x,y)=>match codeK P doX fn.ntmps c,preK P l l.dropLast,rdK x,rdK y,fn.ntmps with
      | ⟨f⟩,⟨p⟩,⟨x⟩,⟨y⟩,n=>⟨fun F args m=>match Nat.ble (xLen args) n with
       | true=>match f F none ⟨xArgEnv args 0 .leaf,m,[]⟩ with
        | .n st=>match p F st with
         | some st=>match st.ds,x st.e with
          | [],.c k=>some (k,y st.e,st.m)
          | _,_=>none
         | none=>none
        | _=>none
       | false=>none⟩
     | none=>⟨fun _ _ _=>none⟩
    | _,_=>⟨fun _ _ _=>none⟩
   | none=>⟨fun _ _ _=>none⟩
  | _,_=>⟨fun _ _ _=>none⟩
 | _,_=>⟨fun _ _ _=>none⟩
structure KX where
 run:Fns->List CV->Mem->Nat->Option (List CV)
def xFinS(k:Nat)(st:St):Option (List CV):=match st.ds with|[.close j]=>(match Nat.beq j k with|true=>some st.m.outs|false=>none)|_=>none
def sendK(P:Program)(g:Nat):KX:=match P.funcs[g]?,xHasBody P g with
 | some fn,true=>match fn.body,fn.results.toList with
  | some c,[]=>match codeK P doS fn.ntmps c,fn.ntmps with
   | ⟨f⟩,n=>⟨fun F args m k=>match Nat.ble (xLen args) n with
    | true=>match f ⟨false,k,F.code,F.call,F.send,F.msg⟩ none ⟨xArgEnv args 0 .leaf,m,[]⟩ with
     | .n st=>xFinS k st
     | .r st=>xFinS k st
     | _=>none
    | false=>none⟩
  | _,_=>⟨fun _ _ _ _=>none⟩
 | _,_=>⟨fun _ _ _ _=>none⟩
def xWF(P:Program)(n:Nat):Fns:=Nat.rec ⟨false,0,fun _ _ _ _=>.bad,fun _ _ _=>.bad,fun _ _ _ _=>none,fun _ _ _=>none⟩
 (fun _ F=>⟨false,0,fun n rd c st=>match codeK P doX n c with|⟨f⟩=>f F rd st,fun g args m=>match funK P g with|⟨f⟩=>f F args m,fun _ _ _ _=>none,fun _ _ _=>none⟩) n
def xFns(P:Program)(n:Nat):Fns:=Nat.rec ⟨true,0,fun _ _ _ _=>.bad,fun _ _ _=>.bad,fun _ _ _ _=>none,fun _ _ _=>none⟩
 (fun n F=>⟨true,0,fun n rd c st=>match codeK P doX n c with|⟨f⟩=>f F rd st,fun g args m=>match funK P g with|⟨f⟩=>f F args m,
  fun g args m k=>match sendK P g with|⟨f⟩=>f (xWF P n) args m k,fun g args m=>match msgK P g with|⟨f⟩=>f (xWF P n) args m⟩) n
theorem Azh{α:Type}(a b:α)(x y:Nat):(Bool.rec a b (Nat.beq x y):α)=if x=y then b else a:=by
 by_cases h:x=y
 ·subst h;simp
 ·have:Nat.beq x y=false:=by
   cases hb:Nat.beq x y with
   | false=>rfl
   | true=>exact absurd (Hr hb) h
  rw[this,if_neg h]
theorem Tr.get_leaf{α}(k:Nat):(Tr.leaf:Tr α).get k=none:=rfl
theorem Tr.get_node{α}(v:Option α)(l r:Tr α)(k:Nat):(Tr.node v l r).get k=if k=0 then v else if k%2=0 then r.get (k/2-1) else l.get (k/2):=by show (Bool.rec (Bool.rec (l.get (k/2)) (r.get (k/2-1)) (Nat.beq (k%2) 0)) v (Nat.beq k 0):Option α)=_;rw[Azh,Azh]
theorem Tr.put_leaf{α}(n k:Nat)(a:α):Tr.put (n+1) .leaf k a=if k=0 then .node (some a) .leaf .leaf else if k%2=0 then .node none .leaf (Tr.put n .leaf (k/2-1) a) else .node none (Tr.put n .leaf (k/2) a) .leaf:=by show (Bool.rec (Bool.rec (.node none (Tr.put n .leaf (k/2) a) .leaf) (.node none .leaf (Tr.put n .leaf (k/2-1) a)) (Nat.beq (k%2) 0)) (.node (some a) .leaf .leaf) (Nat.beq k 0):Tr α)=_;rw[Azh,Azh]
theorem Tr.put_node{α}(n k:Nat)(v:Option α)(l r:Tr α)(a:α):Tr.put (n+1) (.node v l r) k a=if k=0 then .node (some a) l r else if k%2=0 then .node v l (Tr.put n r (k/2-1) a) else .node v (Tr.put n l (k/2) a) r:=by show (Bool.rec (Bool.rec (.node v (Tr.put n l (k/2) a) r) (.node v l (Tr.put n r (k/2-1) a)) (Nat.beq (k%2) 0)) (.node (some a) l r) (Nat.beq k 0):Tr α)=_;rw[Azh,Azh]
theorem Tr.get_put{α:Type}:∀(n:Nat) (t:Tr α) (k:Nat) (a:α) (j:Nat),k<n->(Tr.put n t k a).get j=if j=k then some a else t.get j
 | 0,_,_,_,_,h=>absurd h (Uk _)
 | n+1,t,k,a,j,h=>by
  have key:∀(v:Option α) (l r:Tr α),(Tr.put (n+1) (.node v l r) k a).get j=if j=k then some a else (Tr.node v l r).get j:=fun v l r=>by
   rw[Tr.put_node];by_cases hk:k=0
   ·subst hk;rw[if_pos rfl,Tr.get_node,Tr.get_node];by_cases hj:j=0
    ·rw[if_pos hj,if_pos hj]
    ·rw[if_neg hj,if_neg hj,if_neg hj]
   ·rw[if_neg hk];by_cases h2:k%2=0
    ·rw[if_pos h2,Tr.get_node,Tr.get_node,Tr.get_put n r _ a _ (by omega)];by_cases hj:j=0
     ·subst hj;rw[if_pos rfl,if_pos rfl,if_neg (by omega)]
     ·rw[if_neg hj,if_neg hj];by_cases hj2:j%2=0
      ·rw[if_pos hj2,if_pos hj2];by_cases hjk:j=k
       ·rw[if_pos (by omega),if_pos hjk]
       ·rw[if_neg (by omega),if_neg hjk]
      ·rw[if_neg hj2,if_neg hj2,if_neg (by omega)]
    ·rw[if_neg h2,Tr.get_node,Tr.get_node,Tr.get_put n l _ a _ (by omega)];by_cases hj:j=0
     ·subst hj;rw[if_pos rfl,if_pos rfl,if_neg (by omega)]
     ·rw[if_neg hj,if_neg hj];by_cases hj2:j%2=0
      ·rw[if_pos hj2,if_pos hj2,if_neg (by omega)]
      ·rw[if_neg hj2,if_neg hj2];by_cases hjk:j=k
       ·rw[if_pos (by omega),if_pos hjk]
       ·rw[if_neg (by omega),if_neg hjk]
  cases t with
  | node v l r=>exact key v l r
  | leaf =>
   have e:Tr.put (n+1) .leaf k a=Tr.put (n+1) (.node none .leaf .leaf) k a:=by rw[Tr.put_leaf,Tr.put_node]
   rw[e,key none .leaf .leaf,Tr.get_node,Tr.get_leaf];simp[Tr.get_leaf]
theorem Tr.get_set{α}(t:Tr α)(k:Nat)(a:α)(j:Nat):(t.set k a).get j=if j=k then some a else t.get j:=Tr.get_put _ t k a j (Aqm _)
theorem Abd{α:Type}:∀(n:Nat) (l:List α),xDrp n l=l.drop n
 | 0,l=>rfl
 | n+1,[]=>by simp[xDrp]
 | n+1,a::l=>Abd n l
theorem Abh{α:Type}:∀(n:Nat) (l r:List α),xTkn n l=some r->n<=l.length/\r=l.take n
 | 0,l,r,h=>by cases h;exact⟨Hn _,rfl⟩
 | n+1,[],r,h=>by cases h
 | n+1,a::l,r,h=>by
  have h':(match xTkn n l with|some r=>some (a::r)|none=>none)=some r:=h;cases hx:xTkn n l with
  | none=>rw[hx]at h';cases h'
  | some r' =>
   rw[hx]at h';cases h';obtain⟨b,c⟩:=Abh n l r' hx;exact⟨Awu b,by rw[c];rfl⟩
theorem Afh{α:Type}:∀(n:Nat) (l:List α),xNth n l=l[n]?
 | 0,[]=>rfl
 | 0,a::l=>rfl
 | n+1,[]=>rfl
 | n+1,a::l=>by rw[Xm];exact Afh n l
theorem Me{α:Type}:∀(x y:List α),xApp x y=x++y
 | [],y=>rfl
 | a::x,y=>by rw[Sz,<-Me x y];rfl
theorem Ia{α:Type}:∀(x:List α),xLen x=x.length
 | []=>rfl
 | a::x=>by rw[Gb,<-Ia x];rfl
theorem Ayx:∀(vs l r:List CV),xOver vs l=some r->vs.length<=l.length/\r=vs++l.drop vs.length
 | [],l,r,h=>by cases h;exact⟨Hn _,rfl⟩
 | v::vs,[],r,h=>by cases h
 | v::vs,a::l,r,h=>by
  have h':(match xOver vs l with|some r=>some (v::r)|none=>none)=some r:=h;cases hx:xOver vs l with
  | none=>rw[hx]at h';cases h'
  | some r' =>
   rw[hx]at h';cases h';obtain⟨b,c⟩:=Ayx vs l r' hx;exact⟨Awu b,by rw[c];rfl⟩
theorem Aon:∀(n:Nat) (vs l r:List CV),xSetL n vs l=some r->n+vs.length<=l.length/\r=l.take n++(vs++l.drop (n+vs.length))
 | 0,vs,l,r,h=>by
  obtain⟨h1,h2⟩:=Ayx vs l r h;exact⟨by omega,by rw[h2];simp⟩
 | n+1,vs,[],r,h=>by cases h
 | n+1,vs,a::l,r,h=>by
  have h':(match xSetL n vs l with|some r=>some (a::r)|none=>none)=some r:=h;cases hx:xSetL n vs l with
  | none=>rw[hx]at h';cases h'
  | some r' =>
   rw[hx]at h';cases h';obtain⟨h1,h2⟩:=Aon n vs l r' hx;refine⟨by simp only[Gb];omega,?_⟩;rw[h2,show n+1+vs.length=(n+vs.length)+1 by omega];rfl
abbrev XR:=Nat->Option (Nat×Nat)
def XR.le(R R':XR):Prop:=∀k q,R k=some q->R' k=some q
theorem XR.le.refl{R}:XR.le R R:=fun _ _ h=>h
theorem XR.le.trans{R R' R''}(h:XR.le R R')(h':XR.le R' R''):XR.le R R'':=fun k q hk=>h' k q (h k q hk)
inductive VR(R:XR):List CV->List Value->Prop
 | nil:VR R [] []
 | bad {l:List CV} {l':List Value} (v:Value):VR R l l'->VR R (.bad::l) (v::l')
 | b {l:List CV} {l':List Value} (x:Bool):VR R l l'->VR R (.b x::l) (.bool x::l')
 | i {l:List CV} {l':List Value} (k:IntKind) (n:Int):VR R l l'->VR R (.i k n::l) (.int k n::l')
 | s {l:List CV} {l':List Value} (x:List UInt8):VR R l l'->VR R (.s x::l) (.string ⟨x.toArray⟩::l')
 | pn {l:List CV} {l':List Value}:VR R l l'->VR R (.pn::l) (.pointer none::l')
 | p {l:List CV} {l':List Value} {k off b c:Nat}:R k=some (b,c)->VR R l l'->VR R (.p k off::l) (.pointer (some ⟨b,off,none⟩)::l')
 | sn {l:List CV} {l':List Value}:VR R l l'->VR R (.sn::l) (.slice none 0 0::l')
 | slK {l:List CV} {l':List Value} {k off ln cp b c:Nat}:R k=some (b,c)->VR R l l'->VR R (.sl k off ln true cp::l) (.slice (some ⟨b,off,none⟩) ln cp::l')
 | slU {l:List CV} {l':List Value} {k off ln a b c:Nat}:R k=some (b,c)->VR R l l'->VR R (.sl k off ln false a::l) (.slice (some ⟨b,off,none⟩) ln (c-a)::l')
 | mn {l:List CV} {l':List Value}:VR R l l'->VR R (.mn::l) (.map none::l')
 | m {l:List CV} {l':List Value} {k b c:Nat}:R k=some (b,c)->VR R l l'->VR R (.m k::l) (.map (some b)::l')
 | cn {l:List CV} {l':List Value}:VR R l l'->VR R (.cn::l) (.chan none::l')
 | c {l:List CV} {l':List Value} {k b c:Nat}:R k=some (b,c)->VR R l l'->VR R (.c k::l) (.chan (some b)::l')
 | fn {l:List CV} {l':List Value}:VR R l l'->VR R (.fn::l) (.nilFunc::l')
 | f {l xs ys:List CV} {l' xs' ys':List Value} (g:Nat):VR R xs xs'->VR R ys ys'->VR R l l'->VR R (.f g xs ys::l) (.func (.func g) xs'.toArray ys'.toArray::l')
 | y {l:List CV} {l':List Value} {k b c:Nat}:R k=some (b,c)->VR R l l'->VR R (.y k::l) (.func (.yield b) #[] #[]::l')
 | n {l:List CV} {l':List Value}:VR R l l'->VR R (.n::l) (.nilIface::l')
 | a {l:List CV} {l':List Value} {v:CV} {v':Value} (t:Nat):VR R [v] [v']->VR R l l'->VR R (.a t v::l) (.iface t v'::l')
 | g {l xs:List CV} {l' xs':List Value}:VR R xs xs'->VR R l l'->VR R (.g xs::l) (.agg xs'.toArray::l')
 | t {l xs:List CV} {l' xs':List Value}:VR R xs xs'->VR R l l'->VR R (.t xs::l) (.tuple xs'.toArray::l')
abbrev V1(R:XR)(v:CV)(v':Value):Prop:=VR R [v] [v']
theorem VR.cons_iff{R v v' l l'}:VR R (v::l) (v'::l')↔V1 R v v'/\VR R l l':=by
 constructor
 ·intro h;cases h with
  | bad _ h=>exact⟨.bad _ .nil,h⟩
  | b _ h=>exact⟨.b _ .nil,h⟩
  | i _ _ h=>exact⟨.i _ _ .nil,h⟩
  | s _ h=>exact⟨.s _ .nil,h⟩
  | pn h=>exact⟨.pn .nil,h⟩
  | p h1 h=>exact⟨.p h1 .nil,h⟩
  | sn h=>exact⟨.sn .nil,h⟩
  | slK h1 h=>exact⟨.slK h1 .nil,h⟩
  | slU h1 h=>exact⟨.slU h1 .nil,h⟩
  | mn h=>exact⟨.mn .nil,h⟩
  | m h1 h=>exact⟨.m h1 .nil,h⟩
  | cn h=>exact⟨.cn .nil,h⟩
  | c h1 h=>exact⟨.c h1 .nil,h⟩
  | fn h=>exact⟨.fn .nil,h⟩
  | f g h1 h2 h=>exact⟨.f g h1 h2 .nil,h⟩
  | y h1 h=>exact⟨.y h1 .nil,h⟩
  | n h=>exact⟨.n .nil,h⟩
  | a t h1 h=>exact⟨.a t h1 .nil,h⟩
  | g h1 h=>exact⟨.g h1 .nil,h⟩
  | t h1 h=>exact⟨.t h1 .nil,h⟩
 ·rintro⟨h,h'⟩;cases h with
  | bad _ _=>exact .bad _ h'
  | b _ _=>exact .b _ h'
  | i _ _ _=>exact .i _ _ h'
  | s _ _=>exact .s _ h'
  | pn _=>exact .pn h'
  | p h1 _=>exact .p h1 h'
  | sn _=>exact .sn h'
  | slK h1 _=>exact .slK h1 h'
  | slU h1 _=>exact .slU h1 h'
  | mn _=>exact .mn h'
  | m h1 _=>exact .m h1 h'
  | cn _=>exact .cn h'
  | c h1 _=>exact .c h1 h'
  | fn _=>exact .fn h'
  | f g h1 h2 _=>exact .f g h1 h2 h'
  | y h1 _=>exact .y h1 h'
  | n _=>exact .n h'
  | a t h1 _=>exact .a t h1 h'
  | g h1 _=>exact .g h1 h'
  | t h1 _=>exact .t h1 h'
theorem VR.len{R:XR}:∀{l:List CV} {l':List Value},VR R l l'->l.length=l'.length
 | [],[],_=>rfl
 | v::l,v'::l',h=>by rw[Gb,Gb,(VR.cons_iff.1 h).2.len]
 | [],_::_,h=>by cases h
 | _::_,[],h=>by cases h
theorem VR.mono{R R'}(hR:XR.le R R'){l l'}(h:VR R l l'):VR R' l l':=by
 induction h with
 | nil=>exact .nil
 | bad _ _ ih=>exact .bad _ ih
 | b _ _ ih=>exact .b _ ih
 | i _ _ _ ih=>exact .i _ _ ih
 | s _ _ ih=>exact .s _ ih
 | pn _ ih=>exact .pn ih
 | p h _ ih=>exact .p (hR _ _ h) ih
 | sn _ ih=>exact .sn ih
 | slK h _ ih=>exact .slK (hR _ _ h) ih
 | slU h _ ih=>exact .slU (hR _ _ h) ih
 | mn _ ih=>exact .mn ih
 | m h _ ih=>exact .m (hR _ _ h) ih
 | cn _ ih=>exact .cn ih
 | c h _ ih=>exact .c (hR _ _ h) ih
 | fn _ ih=>exact .fn ih
 | f g _ _ _ i1 i2 ih=>exact .f g i1 i2 ih
 | y h _ ih=>exact .y (hR _ _ h) ih
 | n _ ih=>exact .n ih
 | a t _ _ i1 ih=>exact .a t i1 ih
 | g _ _ i1 ih=>exact .g i1 ih
 | t _ _ i1 ih=>exact .t i1 ih
theorem VR.app{R:XR}:∀{l k:List CV} {l' k':List Value},VR R l l'->VR R k k'->VR R (l++k) (l'++k')
 | [],_,[],_,_,h=>h
 | v::l,_,v'::l',_,h,h'=>VR.cons_iff.2 ⟨(VR.cons_iff.1 h).1,(VR.cons_iff.1 h).2.app h'⟩
 | [],_,_::_,_,h,_=>by cases h
 | _::_,_,[],_,h,_=>by cases h
theorem VR.drop{R:XR}:∀(d:Nat) {l:List CV} {l':List Value},VR R l l'->VR R (l.drop d) (l'.drop d)
 | 0,_,_,h=>h
 | d+1,[],[],_=>.nil
 | d+1,v::l,v'::l',h=>(VR.cons_iff.1 h).2.drop d
 | _+1,[],_::_,h=>by cases h
 | _+1,_::_,[],h=>by cases h
theorem VR.take{R:XR}:∀(d:Nat) {l:List CV} {l':List Value},VR R l l'->VR R (l.take d) (l'.take d)
 | 0,_,_,h=>.nil
 | d+1,[],[],_=>.nil
 | d+1,v::l,v'::l',h=>VR.cons_iff.2 ⟨(VR.cons_iff.1 h).1,(VR.cons_iff.1 h).2.take d⟩
 | _+1,[],_::_,h=>by cases h
 | _+1,_::_,[],h=>by cases h
theorem VR.at{R:XR}:∀{d:Nat} {l:List CV} {l':List Value} {v:CV},VR R l l'->l[d]?=some v->∃v',l'[d]?=some v'/\V1 R v v'
 | 0,v::l,v'::l',_,h,e=>by cases e;exact⟨v',rfl,(VR.cons_iff.1 h).1⟩
 | d+1,v::l,v'::l',_,h,e=>by
  rw[Xm]at e;obtain⟨w,h1,h2⟩:=(VR.cons_iff.1 h).2.at e;exact⟨w,by rw[Xm];exact h1,h2⟩
 | _,[],_,_,_,e=>by cases e
 | _,_::_,[],_,h,_=>by cases h
theorem Bvy(R:XR)(v:Value):V1 R (xOf0 v) v:=by
 unfold xOf0;split
 ·exact .b _ .nil
 ·exact .i _ _ .nil
 ·rename_i x;have:x=⟨x.data.toList.toArray⟩:=by simp
  exact this ▸ VR.s _ .nil
 ·exact .pn .nil
 ·exact .sn .nil
 ·exact .mn .nil
 ·exact .cn .nil
 ·exact .fn .nil
 ·exact .n .nil
 ·rename_i g xs ys;split
  ·rename_i h1 h2;have a:xs=([]:List Value).toArray:=by rw[<-h1]
   have c:ys=([]:List Value).toArray:=by rw[<-h2]
   rw[a,c];exact .f g .nil .nil .nil
  ·exact .bad _ .nil
 ·exact .bad _ .nil
theorem Bvz(R:XR)(v:Value):V1 R (xOf1 v) v:=by
 unfold xOf1;split
 ·exact .a _ (Bvy R _) .nil
 ·exact Bvy R v
theorem Bqo(R:XR):∀(l:List Value),VR R (l.map xOf1) l
 | []=>.nil
 | v::l=>VR.cons_iff.2 ⟨Bvz R v,Bqo R l⟩
theorem vOf(R:XR)(v:Value):V1 R (xOfV v) v:=by
 unfold xOfV;split
 ·rename_i l;have:=VR.g (Bqo R l.toList) (VR.nil (R:=R))
  rwa[Adz]at this
 ·rename_i l;have:=VR.t (Bqo R l.toList) (VR.nil (R:=R))
  rwa[Adz]at this
 ·exact Bvz R v
theorem V1.cells{R v v' l}(h:V1 R v v')(hl:v.cells=some l):VR R l v'.cells.toList:=by
 cases h with
 | bad=>cases hl
 | g h1 _=>cases hl;simpa[Value.cells]using h1
 | b=>cases hl;exact .b _ .nil
 | i=>cases hl;exact .i _ _ .nil
 | s=>cases hl;exact .s _ .nil
 | pn=>cases hl;exact .pn .nil
 | p h1=>cases hl;exact .p h1 .nil
 | sn=>cases hl;exact .sn .nil
 | slK h1=>cases hl;exact .slK h1 .nil
 | slU h1=>cases hl;exact .slU h1 .nil
 | mn=>cases hl;exact .mn .nil
 | m h1=>cases hl;exact .m h1 .nil
 | cn=>cases hl;exact .cn .nil
 | c h1=>cases hl;exact .c h1 .nil
 | fn=>cases hl;exact .fn .nil
 | f g h1 h2=>cases hl;exact .f g h1 h2 .nil
 | y h1=>cases hl;exact .y h1 .nil
 | n=>cases hl;exact .n .nil
 | a t h1=>cases hl;exact .a t h1 .nil
 | t h1=>cases hl;exact .t h1 .nil
theorem Bby{a l}(h:xAllC (a::l)=true):a.isCell=true/\xAllC l=true:=by
 have h':(match a.isCell with|true=>xAllC l|false=>false)=true:=h;cases ha:a.isCell with
 | true=>rw[ha]at h';exact⟨rfl,h'⟩
 | false=>rw[ha]at h';cases h'
theorem V1.single{R v v'}(h:V1 R v v')(hc:v.isCell=true):single v'=true:=by cases h<;>first|rfl|(simp[CV.isCell]at hc)
theorem VR.singles{R:XR}:∀{l:List CV} {l':List Value},VR R l l'->xAllC l=true->∀x∈l',single x=true
 | [],[],_,_,x,hx=>by cases hx
 | v::l,v'::l',h,hc,x,hx=>by
  obtain⟨h1,h2⟩:=VR.cons_iff.1 h;obtain⟨a,b⟩:=Bby hc;rcases lZ8.1 hx with rfl|hx
  ·exact h1.single a
  ·exact h2.singles b x hx
 | [],_::_,h,_,_,_=>by cases h
 | _::_,[],h,_,_,_=>by cases h
end
section
def EnvR(R:XR)(e:Tr CV)(e':Env):Prop:=∀t v,e.get t=some v->V1 R v (e' t)
theorem EnvR.mono{R R' e e'}(h:EnvR R e e')(hR:XR.le R R'):EnvR R' e e':=fun t v ht=>(h t v ht).mono hR
theorem EnvR.set{R e e'}(h:EnvR R e e'){d v v'}(hv:V1 R v v'):EnvR R (e.set d v) (upd e' d v'):=fun t w ht=>by
 rw[Tr.get_set]at ht;unfold upd;by_cases hd:t=d
 ·rw[if_pos hd]at ht ⊢;cases ht;exact hv
 ·rw[if_neg hd]at ht ⊢;exact h t w ht
def stB:Nat->LoopState
 | 0=>.ready
 | 1=>.busy
 | 2=>.done
 | _=>.exhausted
def Bfp(n:Nat)(fz:Nat×Nat):Prop:=∀i,i<n->(fz.1<=i&&i<fz.2)=false
abbrev Tx:=CV×List (Nat×Option Nat×List CV)×Nat×Nat
def Caf(R:XR)(c:Nat):Option Nat->List CV->Obj->Prop
 | none,l,o=>∃l' t fz,o = .cells (List.toArray l') t fz/\VR R l l'
 | some n,l,o=>∃l' rest t fz,o = .cells (List.toArray (l'++rest)) t fz/\VR R l l'/\l'.length+rest.length=c*n/\0<n
def Auy(R0:XR)(q:Tx)(v:Value)(Y1:Ro):Prop :=
 ∃R1:XR,XR.le R0 R1/\V1 R1 q.1 v/\(∀x∈q.2.1,∃b c y,R1 x.1=some (b,c)/\Y1 b=some y/\Caf R1 c x.2.1 x.2.2 y)/\∀j z,R1 j=some z->j<q.2.2.2
def xKeysM(q:Tx):List Nat:=xKeysV q.1++q.2.1.flatMap fun x=>xKeysL x.2.2
def MsgsR(R:XR):List Tx->List (Value->Ro->Prop)->Prop
 | [],[]=>True
 | q::ms,r::Rs=>(∃R0,XR.le R0 R/\(∀j∈xKeysM q,j<q.2.2.1->(R0 j).isSome=true)/\r=Auy R0 q)/\MsgsR R ms Rs
 | _,_=>False
theorem MsgsR.mono{R R':XR}(hR:XR.le R R'):∀{ms:List Tx} {Rs:List (Value->Ro->Prop)},MsgsR R ms Rs->MsgsR R' ms Rs
 | [],[],_=>trivial
 | q::ms,r::Rs,⟨⟨R0,h1,h2,h3⟩,h⟩=>⟨⟨R0,h1.trans hR,h2,h3⟩,MsgsR.mono hR h⟩
theorem MsgsR.len{R:XR}:∀{ms:List Tx} {Rs:List (Value->Ro->Prop)},MsgsR R ms Rs->ms.length=Rs.length
 | [],[],_=>rfl
 | q::ms,r::Rs,⟨_,h⟩=>by rw[Gb,Gb,h.len]
theorem MsgsR.app{R:XR}{q:Tx}{r:Value->Ro->Prop}(hq:∃R0,XR.le R0 R/\(∀j∈xKeysM q,j<q.2.2.1->(R0 j).isSome=true)/\r=Auy R0 q):∀{ms:List Tx} {Rs:List (Value->Ro->Prop)},MsgsR R ms Rs->MsgsR R (ms++[q]) (Rs++[r])
 | [],[],_=>⟨hq,trivial⟩
 | _::_,_::_,⟨h0,h⟩=>⟨h0,h.app hq⟩
theorem MsgsR.at{R:XR}:∀{ms:List Tx} {Rs:List (Value->Ro->Prop)} {n:Nat} {r:Value->Ro->Prop},MsgsR R ms Rs->Rs[n]?=some r ->
  ∃q,ms[n]?=some q/\(∃R0,XR.le R0 R/\(∀j∈xKeysM q,j<q.2.2.1->(R0 j).isSome=true)/\r=Auy R0 q)/\MsgsR R (ms.eraseIdx n) (Rs.eraseIdx n)
 | [],[],_,_,_,h=>by cases h
 | q::ms,r0::Rs,0,r,⟨h0,h⟩,e=>by cases e;exact⟨q,rfl,h0,h⟩
 | q::ms,r0::Rs,n+1,r,⟨h0,h⟩,e=>by
  rw[Xm]at e;obtain⟨q',h1,h2,h3⟩:=h.at e;exact⟨q',by rw[Xm];exact h1,h2,h0,h3⟩
structure BornOk(en:List MapEntry)(ck:Nat):Prop where
 at_:∀(i:Nat) (e:MapEntry),en[i]?=some e->e.born=i
 ck:ck=en.length
inductive ObjR(R:XR)(c:Nat):CO->Res->Prop
 | cells {l:List CV} {l':List Value} {t:TypeId} {fz:Nat×Nat}:VR R l l'->Bfp l'.length fz->ObjR R c (.cells l) (.obj (.cells l'.toArray t fz))
 | grow {n:Nat} {l:List CV} {l' rest:List Value} {t:TypeId} {fz:Nat×Nat}:VR R l l'->l'.length+rest.length=c*n->0<n->Bfp (l'.length+rest.length) fz->ObjR R c (.grow n l) (.obj (.cells (l'++rest).toArray t fz))
 | map {es:List (CV×CV)} {en:List MapEntry} {ck:Nat}:VR R (es.map Prod.fst) (en.map MapEntry.key)->VR R (es.map Prod.snd) (en.map MapEntry.val)->BornOk en ck->ObjR R c (.map es) (.obj (.map en.toArray ck))
 | loop {busy n:Nat} {pd:Option Code} {env:Tr CV} {ps:List Tmp} {as_ body:Code} {dk b c':Nat} {L:Loop} {e':Env}:L.state=stB busy->L.pending=pd->EnvOf n L.tmps e'->EnvR R env e'->L.params=ps.toArray->L.assign=as_->L.body=body ->
   R dk=some (b,c')->L.defers=b->ObjR R c (.loop busy pd n env ps as_ body dk) (.obj (.loop L))
 | defd:ObjR R c .defd (.obj (.deferred (some [])))
 | chan:ObjR R c .chan .chan
 | rcv {vs:List CV} {vs':List Value}:VR R vs vs'->ObjR R c (.rcv vs) (.recv vs')
 | crowd {k:Nat} {ms:List Tx} {Rs:List (Value->Ro->Prop)}:MsgsR R ms Rs->ObjR R c (.crowd k ms) (.crowd k Rs)
 | iter {k n b c':Nat} {sn:List Nat}:R k=some (b,c')->ObjR R c (.iter k n sn) (.obj (.mapIter (some b) n sn.toArray n))
theorem ObjR.mono{R R' c o r}(h:ObjR R c o r)(hR:XR.le R R'):ObjR R' c o r:=by
 cases h with
 | cells h1 h2=>exact .cells (h1.mono hR) h2
 | grow h1 h2 h3 h4=>exact .grow (h1.mono hR) h2 h3 h4
 | map h1 h2 h3=>exact .map (h1.mono hR) (h2.mono hR) h3
 | loop h1 h2 h3 h4 h5 h6 h7 h8 h9=>exact .loop h1 h2 h3 (h4.mono hR) h5 h6 h7 (hR _ _ h8) h9
 | defd=>exact .defd
 | chan=>exact .chan
 | rcv h=>exact .rcv (h.mono hR)
 | crowd h=>exact .crowd (h.mono hR)
 | iter h=>exact .iter (hR _ _ h)
def Byr:Obj->Nat×Nat->Obj
 | .cells c t _,f=>.cells c t f
 | o,_=>o
def ObjO(R:XR)(c:Nat)(o:CO)(x:Obj):Prop:=∃f,ObjR R c o (.obj (Byr x f))
theorem ObjO.mono{R R' c o x}(h:ObjO R c o x)(hR:XR.le R R'):ObjO R' c o x:=let ⟨f,h⟩:=h;⟨f,h.mono hR⟩
theorem ObjO.of{R c o x}(h:ObjR R c o (.obj x)):ObjO R c o x:=by
 cases x with
 | cells cs t f=>exact⟨f,h⟩
 | _=>exact⟨(0,0),h⟩
structure MemR(R:XR)(m:Mem)(Y:Ro)(Z Z9:Own)(L:List (Nat×Nat×Res))(G:Own):Prop where
 perm:Z.Perm (L.map Prod.snd++(G++Z9))
 nd:(L.map Prod.fst).Nodup
 own:∀p∈L,∃c o,R p.1=some (p.2.1,c)/\m.M.get p.1=some (.own o)/\ObjR R c o p.2.2
 all:∀k o,m.M.get k=some (.own o)->o ≠ .dead->∃q,(k,q)∈L
 ro:∀k o,m.M.get k=some (.ro o)->∃b c x,R k=some (b,c)/\Y b=some x/\ObjO R c o x
 gar:∀p∈G,∃o,p.2=Res.obj o
 lt:∀k q,R k=some q->k<m.nx
 glob:∀k,k<16->R k=some (k,0)
def MemX(R:XR)(m:Mem)(Y:Ro)(Z Z9:Own):Prop:=∃L G,MemR R m Y Z Z9 L G
section
variable{R:XR}{m:Mem}{Y:Ro}{Z Z9:Own}{L:List (Nat×Nat×Res)}{G:Own}
theorem Bty{Z τ:Own}{x}(h:Z.Perm τ)(hx:x∈τ):∃i:Nat,Z[i]?=some x:=Se (h.mem_iff.2 hx)
theorem Ans{x x'}:∀{i:Nat} {Z τ:Own},Z.Perm (x::τ)->Z[i]?=some x->(Z.set i x').Perm (x'::τ):=fun {i Z τ} h hi=>by
 have hlt:i<Z.length:=by
  rcases Tk i Z.length with h'|h'
  ·exact h'
  ·rw[Sr h']at hi;cases hi
 have b:(Z.set i x').Perm (x'::Z.eraseIdx i):=by
  clear h hi;induction Z generalizing i with
  | nil=>cases hlt
  | cons a Z ih =>
   cases i with
   | zero=>exact .refl _
   | succ i=>exact((ih (by simpa using hlt)).cons a).trans (.swap ..)
 have c:Z.Perm (x::Z.eraseIdx i):=by
  clear h b;induction Z generalizing i with
  | nil=>cases hlt
  | cons a Z ih =>
   cases i with
   | zero=>cases hi;exact .refl _
   | succ i =>
    rw[Xm]at hi;exact((ih hi (by simpa using hlt)).cons a).trans (.swap ..)
 exact b.trans (.cons _ (c.symm.trans h).cons_inv)
theorem Tp{L:List (Nat×Nat×Res)}{p:Nat×Nat×Res}(h:p∈L):∃A B,L=A++p::B:=Bmo h
theorem MemR.at(h:MemR R m Y Z Z9 L G){k o}(hk:m.M.get k=some (.own o))(hd:o ≠ .dead):
  ∃(b c:Nat) (r:Res) (i:Nat),R k=some (b,c)/\Z[i]?=some (b,r)/\ObjR R c o r/\(k,b,r)∈L:=by obtain⟨⟨b,r⟩,hq⟩:=h.all k o hk hd;obtain⟨c,o',d,a,e⟩:=h.own _ hq;simp only at d a e;rw[hk]at a;cases a;obtain⟨i,hi⟩:=Bty h.perm (Iz _ (Rk (f:=Prod.snd) hq));exact⟨b,c,r,i,d,hi,e,hq⟩
theorem Na(m:Mem)(k:Nat)(o:CO)(j:Nat):(m.put k o).M.get j=if j=k then some (.own o) else m.M.get j:=Tr.get_set ..
theorem Rw(m:Mem)(o:CO)(j:Nat):(m.add o).M.get j=if j=m.nx then some (.own o) else m.M.get j:=Tr.get_set ..
theorem MemR.put(h:MemR R m Y Z Z9 L G){k b c i r r' o'}(hL:(k,b,r)∈L)(hR:R k=some (b,c))(hi:Z[i]?=some (b,r))(ho:ObjR R c o' r'):MemX R (m.put k o') Y (Z.set i (b,r')) Z9:=by
 obtain⟨A,B,rfl⟩:=Tp hL;have nd:=h.nd;simp only[Mi,Ic]at nd;have hAB:∀p∈A++B,p.1≠k:=fun p hp e=>by
  rw[Aix]at nd;obtain⟨w,u,v⟩:=nd;rcases Gv.1 hp with hp|hp
  ·exact v p.1 (Rk (f:=Prod.fst) hp) k mC e
  ·exact(Tb.1 u).1 (e ▸ Rk (f:=Prod.fst) hp)
 have mid:∀{x:Nat×Nat×Res} {p},p∈A++x::B->p=x∨p∈A++B:=fun {x p} hp=>by
  rcases Gv.1 hp with hp|hp
  ·exact .inr (Iz _ hp)
  ·rcases lZ8.1 hp with hp|hp
   ·exact .inl hp
   ·exact .inr (lZ5 _ hp)
 have dim:∀{x:Nat×Nat×Res} {p},p∈A++B->p∈A++x::B:=fun {x p} hp=>(Gv.1 hp).elim (Iz _) fun hp=>lZ5 _ (lZ0 _ hp);refine⟨A++(k,b,r')::B,G,?_,by simpa using h.nd,fun p hp=>?_,fun j o hj hd=>?_,fun j o hj=>?_,h.gar,h.lt,h.glob⟩
 ·have a:=h.perm;simp only[Mi,Ic,lZ9,Sz]at a ⊢;exact(Ans (a.trans Amo) hi).trans List.perm_middle.symm
 ·rcases mid hp with rfl|hp
  ·exact⟨c,o',hR,by rw[Na,if_pos rfl],ho⟩
  ·obtain⟨d,o1,g,n,t⟩:=h.own p (dim hp);exact⟨d,o1,g,by rw[Na,if_neg (hAB p hp)];exact n,t⟩
 ·rw[Na]at hj;by_cases hjk:j=k
  ·subst hjk;exact⟨_,lZ5 _ mC⟩
  ·rw[if_neg hjk]at hj;obtain⟨q,hq⟩:=h.all j o hj hd;rcases mid hq with e|hq
   ·exact absurd (Prod.mk.inj e).1 hjk
   ·exact⟨q,dim hq⟩
 ·rw[Na]at hj;by_cases hjk:j=k
  ·rw[if_pos hjk]at hj;cases hj
  ·rw[if_neg hjk]at hj;exact h.ro j o hj
theorem MemR.kill(h:MemR R m Y Z Z9 L G){k b o}(hL:(k,b,Res.obj o)∈L):MemX R (m.put k .dead) Y Z Z9:=by
 obtain⟨A,B,rfl⟩:=Tp hL;have nd:=h.nd;simp only[Mi,Ic]at nd;have hAB:∀p∈A++B,p.1≠k:=fun p hp e=>by
  rw[Aix]at nd;obtain⟨u,n,t⟩:=nd;rcases Gv.1 hp with hp|hp
  ·exact t p.1 (Rk (f:=Prod.fst) hp) k mC e
  ·exact(Tb.1 n).1 (e ▸ Rk (f:=Prod.fst) hp)
 have dim:∀{p},p∈A++B->p∈A++(k,b,Res.obj o)::B:=fun {p} hp=>(Gv.1 hp).elim (Iz _) fun hp=>lZ5 _ (lZ0 _ hp);refine⟨A++B,(b,.obj o)::G,?_,?_,fun p hp=>?_,fun j oj hj hd=>?_,fun j oj hj=>?_,fun p hp=>?_,h.lt,h.glob⟩
 ·have a:=h.perm;simp only[Mi,Ic,lZ9,Sz]at a ⊢;refine a.trans (List.Perm.append_left _ ?_);exact List.perm_middle.symm
 ·rw[Mi];have:(A.map Prod.fst++B.map Prod.fst).Sublist (A.map Prod.fst++k::B.map Prod.fst):=List.Sublist.append_left (Awl ..) _;exact this.nodup nd
 ·obtain⟨c,o1,d,g,i⟩:=h.own p (dim hp);exact⟨c,o1,d,by rw[Na,if_neg (hAB p hp)];exact g,i⟩
 ·rw[Na]at hj;by_cases hjk:j=k
  ·rw[if_pos hjk]at hj;cases hj;exact absurd rfl hd
  ·rw[if_neg hjk]at hj;obtain⟨q,hq⟩:=h.all j oj hj hd;rcases Gv.1 hq with hq|hq
   ·exact⟨q,Iz _ hq⟩
   ·rcases lZ8.1 hq with e|hq
    ·exact absurd (Prod.mk.inj e).1 hjk
    ·exact⟨q,lZ5 _ hq⟩
 ·rw[Na]at hj;by_cases hjk:j=k
  ·rw[if_pos hjk]at hj;cases hj
  ·rw[if_neg hjk]at hj;exact h.ro j oj hj
 ·rcases lZ8.1 hp with rfl|hp
  ·exact⟨o,rfl⟩
  ·exact h.gar p hp
def XR.add(R:XR)(k:Nat)(q:Nat×Nat):XR:=fun j=>if j=k then some q else R j
theorem XR.add_same{R:XR}{k q}:R.add k q k=some q:=if_pos rfl
theorem MemR.fresh(h:MemR R m Y Z Z9 L G)(q:Nat×Nat):XR.le R (R.add m.nx q):=fun j q' hj=>by
 unfold XR.add;rw[if_neg (Aif (h.lt j q' hj))];exact hj
theorem MemR.add(h:MemR R m Y Z Z9 L G){b c r o}(ho:ObjR (R.add m.nx (b,c)) c o r):MemX (R.add m.nx (b,c)) (m.add o) Y ((b,r)::Z) Z9:=by
 have hle:=h.fresh (b,c);have hlt:∀p∈L,p.1<m.nx:=fun p hp=>by
  obtain⟨d,o1,a,_⟩:=h.own p hp;exact h.lt _ _ a
 refine⟨(m.nx,b,r)::L,G,h.perm.cons _,Tb.2 ⟨fun hm=>?_,h.nd⟩,fun p hp=>?_,fun j oj hj hd=>?_,fun j oj hj=>?_,h.gar,fun j q hj=>?_,fun j hj=>hle _ _ (h.glob j hj)⟩
 ·obtain⟨p,hp,e⟩:=Lp.1 hm;exact absurd (hlt p hp) (by omega)
 ·rcases lZ8.1 hp with rfl|hp
  ·exact⟨c,o,XR.add_same,by rw[Rw,if_pos rfl],ho⟩
  ·obtain⟨d,o1,a,f,g⟩:=h.own p hp;exact⟨d,o1,hle _ _ a,by rw[Rw,if_neg (Aif (hlt p hp))];exact f,g.mono hle⟩
 ·rw[Rw]at hj;by_cases hjk:j=m.nx
  ·subst hjk;exact⟨_,Vb ..⟩
  ·rw[if_neg hjk]at hj;obtain⟨q,hq⟩:=h.all j oj hj hd;exact⟨q,lZ0 _ hq⟩
 ·rw[Rw]at hj;by_cases hjk:j=m.nx
  ·rw[if_pos hjk]at hj;cases hj
  ·rw[if_neg hjk]at hj;obtain⟨i,d,k,a,f,g⟩:=h.ro j oj hj;exact⟨i,d,k,hle _ _ a,f,g.mono hle⟩
 ·unfold XR.add at hj;by_cases hjk:j=m.nx
  ·subst hjk;exact Aqm _
  ·rw[if_neg hjk]at hj;exact Aws (h.lt j q hj)
theorem MemR.move(h:MemR R m Y Z Z9 L G){k b c i r r' o'}(hL:(k,b,r)∈L)(hi:Z[i]?=some (b,r))(ho:ObjR (R.add m.nx (b,c)) c o' r'):
  MemX (R.add m.nx (b,c)) ((m.put k .dead).add o') Y (Z.set i (b,r')) Z9:=by
 have hle:=h.fresh (b,c);obtain⟨A,B,rfl⟩:=Tp hL;have nd:=h.nd;simp only[Mi,Ic]at nd;have hAB:∀p∈A++B,p.1≠k:=fun p hp e=>by
  rw[Aix]at nd;obtain⟨y,v,w⟩:=nd;rcases Gv.1 hp with hp|hp
  ·exact w p.1 (Rk (f:=Prod.fst) hp) k mC e
  ·exact(Tb.1 v).1 (e ▸ Rk (f:=Prod.fst) hp)
 have dim:∀{p},p∈A++B->p∈A++(k,b,r)::B:=fun {p} hp=>(Gv.1 hp).elim (Iz _) fun hp=>lZ5 _ (lZ0 _ hp);have hlt:∀p∈A++(k,b,r)::B,p.1<m.nx:=fun p hp=>by
  obtain⟨d,o1,a,_⟩:=h.own p hp;exact h.lt _ _ a
 have hk:k<m.nx:=hlt (k,b,r) hL;have get:∀j,((m.put k .dead).add o').M.get j=if j=m.nx then some (.own o') else if j=k then some (.own .dead) else m.M.get j:=fun j=>by
  rw[Rw,Na];rfl
 refine⟨(m.nx,b,r')::(A++B),G,?_,Tb.2 ⟨fun hm=>?_,?_⟩,fun p hp=>?_,fun j oj hj hd=>?_,fun j oj hj=>?_,h.gar,fun j q hj=>?_,fun j hj=>hle _ _ (h.glob j hj)⟩
 ·have t:=h.perm;simp only[Mi,Ic,lZ9,Sz]at t ⊢;exact Ans (t.trans Amo) hi
 ·obtain⟨p,hp,e⟩:=Lp.1 hm;exact absurd (hlt p (dim hp)) (by omega)
 ·rw[Mi];have:(A.map Prod.fst++B.map Prod.fst).Sublist (A.map Prod.fst++k::B.map Prod.fst):=List.Sublist.append_left (Awl ..) _;exact this.nodup nd
 ·rcases lZ8.1 hp with rfl|hp
  ·exact⟨c,o',XR.add_same,by rw[get,if_pos rfl],ho⟩
  ·obtain⟨d,o1,a,g,n⟩:=h.own p (dim hp);exact⟨d,o1,hle _ _ a,by rw[get,if_neg (Aif (hlt p (dim hp))),if_neg (hAB p hp)];exact g,n.mono hle⟩
 ·rw[get]at hj;by_cases hjk:j=m.nx
  ·subst hjk;exact⟨_,Vb ..⟩
  ·rw[if_neg hjk]at hj;by_cases hj2:j=k
   ·rw[if_pos hj2]at hj;cases hj;exact absurd rfl hd
   ·rw[if_neg hj2]at hj;obtain⟨q,hq⟩:=h.all j oj hj hd;rcases Gv.1 hq with hq|hq
    ·exact⟨q,lZ0 _ (Iz _ hq)⟩
    ·rcases lZ8.1 hq with e|hq
     ·exact absurd (Prod.mk.inj e).1 hj2
     ·exact⟨q,lZ0 _ (lZ5 _ hq)⟩
 ·rw[get]at hj;by_cases hjk:j=m.nx
  ·rw[if_pos hjk]at hj;cases hj
  ·rw[if_neg hjk]at hj;by_cases hj2:j=k
   ·rw[if_pos hj2]at hj;cases hj
   ·rw[if_neg hj2]at hj;obtain⟨u,d,x,a,g,n⟩:=h.ro j oj hj;exact⟨u,d,x,hle _ _ a,g,n.mono hle⟩
 ·unfold XR.add at hj;by_cases hjk:j=m.nx
  ·subst hjk;exact Aqm _
  ·rw[if_neg hjk]at hj;exact Aws (h.lt j q hj)
theorem MemR.row(h:MemR R m Y Z Z9 L G){k l}(hk:m.row k=some l):
  ∃b c l' rest t fz,R k=some (b,c)/\Has Y Z b (.cells (l'++rest).toArray t fz)/\VR R l l':=by
 have key:∀{o:CO} {c:Nat} {r:Res},xRowO o=some l->ObjR R c o r->∃l' rest t fz,r = .obj (.cells (l'++rest).toArray t fz)/\VR R l l'/\Bfp (l'.length+rest.length) fz:=by
  intro o c r ho hr;cases hr with
  | @cells _ l' t fz a d=>cases ho;exact⟨l',[],t,fz,by simp,a,by simpa using d⟩
  | grow a d g n=>cases ho;exact⟨_,_,_,_,rfl,a,n⟩
  | map=>cases ho
  | loop=>cases ho
  | defd=>cases ho
  | chan=>cases ho
  | rcv=>cases ho
  | crowd=>cases ho
  | iter=>cases ho
 unfold Mem.row at hk;cases hg:m.M.get k with
 | none=>rw[hg]at hk;cases hk
 | some x =>
  rw[hg]at hk;cases x with
  | own o =>
   have hd:o ≠ .dead:=fun e=>by subst e;cases hk
   obtain⟨b,c,r,i,a,d,g,n⟩:=h.at hg hd;obtain⟨l',rest,t,fz,rfl,j,p⟩:=key hk g;exact⟨b,c,l',rest,t,fz,a,.inr (lZ6 d),j⟩
  | ro o =>
   obtain⟨b,c,x,a,d,f,g⟩:=h.ro k o hg;obtain⟨l',rest,t,fz,e,j,p⟩:=key hk g;cases x with
   | cells cs t' f' =>
    have e':Res.obj (.cells cs t' f) = .obj (.cells (l'++rest).toArray t fz):=e;cases e';exact⟨b,c,l',rest,_,_,a,.inl d,j⟩
   | _=>cases e
end
end
section
def Pe(R:XR):Prop:=∀k,k<16->R k=some (k,0)
theorem MemX.globR{R m Y Z Z9}(h:MemX R m Y Z Z9):Pe R:=let ⟨_,_,h⟩:=h;h.glob
theorem Dy{R e e'}(h:EnvR R e e')(hg:Pe R)(x:Operand):V1 R ((rdK x).run e) (Af e' x):=by
 cases x with
 | tmp t =>
  show V1 R (match e.get t with|some v=>v|none=>.bad) (e' t);cases ht:e.get t with
  | some v=>exact h t v ht
  | none=>exact .bad _ .nil
 | const v=>exact vOf R v
 | global g =>
  have a:(rdK (.global g)).run e=match Nat.ble (Nat.succ g) 16 with|true=>.p g 0|false=>.bad:=by
   simp only[rdK];cases Nat.ble (Nat.succ g) 16<;>rfl
  rw[a];split
  ·rename_i hb;exact .p (hg g (lZ7 hb)) .nil
  ·exact .bad _ .nil
 | func f=>exact .f f .nil .nil .nil
theorem Aax{R:XR}{e:Tr CV}{e':Env}(h:EnvR R e e')(hg:Pe R):∀(l:List Operand),VR R ((rdsK l).run e) (l.map (Af e'))
 | []=>.nil
 | x::l=>VR.cons_iff.2 ⟨Dy h hg x,Aax h hg l⟩
def NxV(nx:Next)(v:Value):Prop:=nx = .value v∨(nx = .skip/\v=undef)
structure LogOk(m m':Mem):Prop where
 nx:m.nx<=m'.nx
 ex:∃w,m'.log=w++m.log/\m'.ln=m.ln+w.length/\∀k,k<m.nx->k∉w->m'.M.get k=m.M.get k
 outs:m'.outs=m.outs
theorem LogOk.refl(m:Mem):LogOk m m:=⟨Ib _,⟨[],rfl,rfl,fun _ _ _=>rfl⟩,rfl⟩
theorem LogOk.put(m:Mem)(k:Nat)(o:CO):LogOk m (m.put k o):=⟨Ib _,⟨[k],rfl,rfl,fun j _ hn=>by
 rw[Na,if_neg (fun e=>hn (by rw[e];exact Vb ..))]⟩,rfl⟩
theorem LogOk.add(m:Mem)(o:CO):LogOk m (m.add o):=⟨Nat.le_succ _,⟨[],rfl,rfl,fun j hj _=>by rw[Rw,if_neg (Aif hj)]⟩,rfl⟩
theorem LogOk.trans{m m' m''}(h:LogOk m m')(h':LogOk m' m''):LogOk m m'':=by obtain⟨w,a,b,c⟩:=h.ex;obtain⟨w',d,e,f⟩:=h'.ex;refine⟨Tj h.nx h'.nx,⟨w'++w,by rw[d,a,lZ9],by rw[e,b,lZ4];omega,fun k hk hn=>?_⟩,h'.outs.trans h.outs⟩;rw[f k (Pa hk h.nx) (fun hm=>hn (Iz _ hm)),c k hk (fun hm=>hn (lZ5 _ hm))]
def Tc(P:Program)(o:Op)(R:XR)(e':Env)(x:CV):Prop :=
 ∃v,V1 R x v/\∀Y Z dd ty pos af g,wpS P Y (execOp (Af e') ⟨dd,o,ty,pos,af,g⟩) Z (fun nx Z'=>nx = .value v/\Z'=Z)
def Bfn(P:Program)(o:Op)(R:XR)(e':Env)(m:Mem)(x:CV)(m':Mem):Prop :=
 LogOk m m'/\(xMild o=true->m'.nx≠m.nx)/\∀Y Z Z9 dd ty pos af g,MemX R m Y Z Z9->wpS P Y (execOp (Af e') ⟨dd,o,ty,pos,af,g⟩) Z (fun nx Z'=>∃R' v,XR.le R R'/\NxV nx v/\V1 R' x v/\MemX R' m' Y Z' Z9)
theorem Jc{P o R e' x v}(s:Sem Value)(hs:∀dd ty pos af g,execOp (Af e') ⟨dd,o,ty,pos,af,g⟩=s.bind fun v=>Sem.pure (Next.value v))(hv:V1 R x v)(h:∀Y Z,wpS P Y s Z (fun w Z'=>w=v/\Z'=Z)):Tc P o R e' x:=⟨v,hv,fun Y Z dd ty pos af g=>by
 rw[hs,Ad];exact Eu (by rintro w Z' ⟨rfl,rfl⟩;exact⟨rfl,rfl⟩) _ _ (h Y Z)⟩
theorem Ava{P o R e' m x co c ob}(s:Sem Value)(mk:Nat->Value)(hs:∀dd ty pos af g,execOp (Af e') ⟨dd,o,ty,pos,af,g⟩=s.bind fun v=>Sem.pure (Next.value v))(h:∀Y Z Q,(∀r,Q (mk r) ((r,.obj ob)::Z))->wpS P Y s Z Q)(ho:∀R',XR.le R R'->ObjR R' c co (.obj ob))(hx:∀R' r,R' m.nx=some (r,c)->V1 R' x (mk r)):Bfn P o R e' m x (m.add co):=by refine⟨.add m co,fun _=>Atu _,fun Y Z Z9 dd ty pos af g hm=>?_⟩;obtain⟨L,G,hm⟩:=hm;rw[hs,Ad];refine h Y Z _ fun r=>?_;exact⟨R.add m.nx (r,c),mk r,hm.fresh _,.inl rfl,hx _ r XR.add_same,hm.add (ho _ (hm.fresh _))⟩
section
variable{P:Program}{t:TypeId}
theorem Od{n}(h:xSzT P t=some n):∃i,P.info? t=some i/\i.size=n:=by
 unfold xSzT at h;cases hi:P.info? t with
 | none=>rw[hi]at h;cases h
 | some i=>rw[hi]at h;cases h;exact⟨i,rfl,rfl⟩
theorem Aad{b}(h:xAggT P t=some b):∃d,P.underlying t=some d/\Qv d=b:=by
 unfold xAggT at h;cases hd:P.underlying t with
 | none=>rw[hd]at h;cases h
 | some d=>rw[hd]at h;cases h;exact⟨d,rfl,rfl⟩
theorem Rf{z}(h:xZeroT P t=some z):∃v,Fw P t v/\z=xOfV v:=by
 unfold xZeroT at h;cases hi:P.info? t with
 | none=>rw[hi]at h;cases h
 | some i =>
  rw[hi]at h;simp only at h;cases hz:i.zero with
  | none=>rw[hz]at h;cases h
  | some v=>rw[hz]at h;cases h;exact⟨v,⟨i,hi,hz⟩,rfl⟩
end
theorem Mg{k k'}(h:xKind k k'=true):k=k':=by cases k<;>cases k'<;>first|rfl|cases h
theorem Abg(a b:Int):xEqI a b=(a==b):=by
 cases a<;>cases b<;>simp only[xEqI]
 ·rename_i x y;rw[Amq];simp;omega
 ·rfl
 ·rfl
 ·rename_i x y;rw[Amq];simp
theorem Akm(a b:Int):xLtI a b=decide (a<b):=by
 cases a<;>cases b<;>simp only[xLtI]
 ·rename_i x y;rw[Amq];simp[Nat.ble_eq];omega
 ·rename_i x y
  symm;rw[decide_eq_false_iff_not];show ¬((x:Int)<_);omega
 ·rename_i x y
  symm;rw[decide_eq_true_iff];show _<(y:Int);omega
 ·rename_i x y;rw[Amq];simp[Nat.ble_eq];omega
theorem not_lt(a b:Int):(!decide (b<a))=decide (a<=b):=by rw[Amq];simp
end
section
section
variable{R:XR}
theorem Aoe{v b}(h:V1 R (.b b) v):v = .bool b:=by cases h;rfl
theorem Og{v k n}(h:V1 R (.i k n) v):v = .int k n:=by cases h;rfl
theorem Zs{v l}(h:V1 R (.s l) v):v = .string ⟨l.toArray⟩:=by cases h;rfl
end
theorem Bcp{x y:List CV}{r:Bool}(h:eqD [] x y=some r):x=[]/\y=[]/\r=true:=by
 have h':eqD0 x y=some r:=h;unfold eqD0 at h';split at h'
 ·cases h';exact⟨rfl,rfl,rfl⟩
 ·cases h'
theorem Avv{k:CK}{ks:List CK}{x y:List CV}{r:Bool}(h:eqD (k::ks) x y=some r):∃a x' b y' p q,x=a::x'/\y=b::y'/\eqC k a b=some p/\eqD ks x' y'=some q/\r=(p&&q):=by
 have h':eqD1 k (eqD ks) x y=some r:=h;unfold eqD1 at h';split at h'
 ·rename_i a x' b y';split at h'
  ·rename_i p q h1 h2;cases h';exact⟨a,x',b,y',p,q,rfl,rfl,h1,h2,by cases p<;>rfl⟩
  ·cases h'
 ·cases h'
theorem Bco:∀{a b:List CK} {x y:List CV} {r:Bool},eqD (a++b) x y=some r->∃xa xr ya yr p q,x=xa++xr/\y=ya++yr/\xa.length=a.length/\ya.length=a.length/\eqD a xa ya=some p/\eqD b xr yr=some q/\r=(p&&q)
 | [],b,x,y,r,h=>⟨[],x,[],y,true,r,rfl,rfl,rfl,rfl,rfl,h,by simp⟩
 | k::a,b,x,y,r,h=>by
  obtain⟨u,x',v,y',p,q,rfl,rfl,h1,h2,rfl⟩:=Avv h;obtain⟨xa,xr,ya,yr,p',q',rfl,rfl,c,d,e,f,rfl⟩:=Bco h2;refine⟨u::xa,xr,v::ya,yr,p&&p',q',rfl,rfl,by simp[c],by simp[d],?_,f,by rw[Bool.and_assoc]⟩;show (match eqC k u v,eqD a xa ya with|some r,some q=>some (match r with|true=>q|false=>false)|_,_=>none)=_;rw[h1,e];cases p<;>rfl
theorem Yf:∀(a b:List UInt8),xEqS a b=(a==b)
 | [],[]=>rfl
 | [],_::_=>rfl
 | _::_,[]=>rfl
 | x::a,y::b=>by
  show (Bool.rec false (xEqS a b) (Nat.beq x.toNat y.toNat):Bool)=_;rw[Azh,Yf a b];by_cases h:x.toNat=y.toNat
  ·rw[if_pos h];have:x=y:=UInt8.toNat_inj.1 h;subst this;simp
  ·rw[if_neg h];have:x≠y:=fun e=>h (by rw[e]);simp[this]
theorem Bux(a b:List UInt8):((⟨a.toArray⟩:ByteArray)==⟨b.toArray⟩)=(a==b):=by rw[Aec,ByteArray.toList_eq,ByteArray.toList_eq]
def Bqz(P:Program)(R:XR)(t:TypeId)(xs:List CV)(x:Value):Prop :=
 (∃d,P.underlying t=some d/\Qv d=true/\∃l,x = .agg (List.toArray l)/\VR R xs l)∨(∃d,P.underlying t=some d/\Qv d=false/\∃v,xs=[v]/\V1 R v x)
section
variable{P:Program}{Y:Ro}{R:XR}
theorem Bql{d:Nat}{t:TypeId}{ks:List CK}(h:deepT P d t=some ks):∃dsc,P.underlying t=some dsc:=by
 cases d with
 | zero=>cases h
 | succ d =>
  unfold deepT at h;cases hu:P.underlying t with
  | none=>rw[hu]at h;cases h
  | some dsc=>exact⟨dsc,rfl⟩
theorem Asf{d z n:Nat}{t:TypeId}{ks:List CK}{l:List Value}{xa xr:List CV}{Z:Own}{Q:Value->Own->Prop}(hd:deepT P d t=some ks)(hz:xSzT P t=some z)(hk:ks.length=z)(hx:xa.length=ks.length)(hv:VR R (xa++xr) (l.drop n))
  (h:∀v,Bqz P R t xa v->Q v Z):wpS P Y (part t l.toArray n) Z Q:=by
 obtain⟨dsc,hu⟩:=Bql hd;show wpS P Y ((isAgg t).bind _) Z Q;rw[Ad];refine Hi ⟨dsc,hu,rfl⟩ ?_;have b:=hv.len;have htk:VR R xa ((l.drop n).take z):=by
  have:=hv.take z
  rwa[List.take_left' (by omega)]at this
 cases ha:Qv dsc with
 | true =>
  simp only[if_true];show wpS P Y ((sizeOf t).bind _) Z Q;rw[Ad];refine Dx (Od hz) ?_;refine h _ (.inl ⟨dsc,hu,ha,(l.drop n).take z,?_,htk⟩);simp[Bly]
 | false =>
  simp only[Aiw,if_false];have a:ks.length=1:=by
   cases d with
   | zero=>cases hd
   | succ d =>
    unfold deepT at hd;rw[hu]at hd;split at hd
    ·cases hd;rfl
    ·cases hd;rfl
    ·cases hd;rfl
    ·rename_i fs hfs;cases hfs;cases ha
    ·cases hd
  obtain⟨v,rfl⟩:∃v,xa=[v]:=by
   match xa,hx with
   | [v],_=>exact⟨v,rfl⟩
   | [],hx=>simp at hx;omega
   | _::_::_,hx=>simp at hx;omega
  obtain⟨w,hw,hvw⟩:=hv.at (d:=0) (v:=v) rfl;have hw':l.toArray[n]?=some w:=by
   rw[Jw];have:(l.drop n)[0]?=l[n]?:=by rw[Att,Abk]
   rw[<-this];exact hw
  simp only[hw'];exact h w (.inr ⟨dsc,hu,ha,v,rfl,hvw⟩)
theorem Ayu:∀(d:Nat) (t:TypeId) (ks:List CK),deepT P d t=some ks->∀(e:Nat),d<=e->∀(xs ys:List CV) (r:Bool) (x y:Value),eqD ks xs ys=some r->Bqz P R t xs x->Bqz P R t ys y ->
  ∀(Z:Own) (Q:Bool->Own->Prop),Q r Z->wpS P Y (Op.equalIn e t x y) Z Q
 | 0,t,ks,h,_,_,_,_,_,_,_,_,_,_,_,_,_=>by cases h
 | d+1,t,ks,h,0,he,_,_,_,_,_,_,_,_,_,_,_=>by omega
 | d+1,t,ks,h,e+1,he,xs,ys,r,x,y,hr,hx,hy,Z,Q,hq=>by
  have one:∀{k:CK} {dsc},P.underlying t=some dsc->Qv dsc=false->ks=[k]->∃a b,V1 R a x/\V1 R b y/\eqC k a b=some r:=by
   intro k dsc hu ha hks;subst hks;obtain⟨a,x',b,y',p,q,rfl,rfl,c,D,E⟩:=Avv hr;obtain⟨rfl,rfl,rfl⟩:=Bcp D;rcases hx with⟨F,g,j,_⟩|⟨F,g,j,v,H,hv⟩
   ·rw[hu]at g;cases g;rw[ha]at j;cases j
   ·rcases hy with⟨G,i,u,_⟩|⟨G,i,u,w,J,hw⟩
    ·rw[hu]at i;cases i;rw[ha]at u;cases u
    ·cases H;cases J;exact⟨_,_,hv,hw,by rw[E,Bool.and_true];exact c⟩
  unfold deepT at h;cases hu:P.underlying t with
  | none=>rw[hu]at h;cases h
  | some dsc =>
   rw[hu]at h;show wpS P Y ((underlying t).bind _) Z Q;rw[Ad];refine Az hu ?_;cases dsc with
   | int k =>
    obtain⟨a,b,ha,hb,hc⟩:=one hu rfl (by simpa using h.symm);unfold eqC at hc;split at hc
    ·rename_i k0 k1 a0 k2 b0 hk0;cases hk0;split at hc
     ·rename_i B C;cases hc;have B:=Mg B;have C:=Mg C;subst B C;rw[Og ha,Og hb];simp only[if_true];rw[Abg]at hq;exact hq
     ·cases hc
    ·rename_i hk0;cases hk0
    ·rename_i hk0;cases hk0
    ·cases hc
   | string =>
    obtain⟨a,b,ha,hb,hc⟩:=one hu rfl (by simpa using h.symm);unfold eqC at hc;split at hc
    ·rename_i hk0;cases hk0
    ·cases hc;rw[Zs ha,Zs hb];rw[Yf,<-Bux]at hq;exact hq
    ·rename_i hk0;cases hk0
    ·cases hc
   | bool =>
    obtain⟨a,b,ha,hb,hc⟩:=one hu rfl (by simpa using h.symm);unfold eqC at hc;split at hc
    ·rename_i hk0;cases hk0
    ·rename_i hk0;cases hk0
    ·cases hc;rw[Aoe ha,Aoe hb];exact hq
    ·cases hc
   | struct fs =>
    simp only at h;split at h
    ·rename_i hst;rcases hx with⟨F,g,j,l,rfl,hl⟩|⟨F,g,j,_⟩
     ·rcases hy with⟨G,i,u,m,rfl,hm⟩|⟨G,i,u,_⟩
      ·show wpS P Y (Sem.bind program _) Z Q;rw[Ad];show wpS P Y (if P.stoodInHeld t then _ else _) Z Q;rw[if_neg (by simp[hst])];have key:∀(gs:List Field) (n:Nat) (ks:List CK) (xs ys:List CV) (r:Bool) (K:(Option Bool×Unit)->Own->Prop),deepF P (deepT P d) n gs=some ks->eqD ks xs ys=some r->VR R xs (l.drop n)->VR R ys (m.drop n) ->
         K (if r=true then none else some false,()) Z->wpS P Y (forIn gs ((none,()):Option Bool×Unit) fun (f:Field) (__s:Option Bool×Unit) =>
          if f.name ≠ "_" then do
           let __do_lift <-part f.type l.toArray f.offset
           let __do_lift_1 <-part f.type m.toArray f.offset
           let __do_lift <-Op.equalIn e f.type __do_lift __do_lift_1
           if (!__do_lift)=true then pure (ForInStep.done (some false,())) else pure (ForInStep.yield (none,()))
          else pure (ForInStep.yield (none,()))) Z K:=by
        intro gs;induction gs with
        | nil =>
         intro n ks xs ys r K c D E I hK;cases c;obtain⟨_,_,rfl⟩:=Bcp D;exact hK
        | cons f gs ih =>
         intro n ks xs ys r K c D E I hK;unfold deepF at c;split at c
         ·rename_i a z B C g3 g4;split at c
          ·rename_i g5;unfold xCatO at c;split at c
           ·rename_i a' ks2 H g6;cases H;cases c;obtain⟨xa,xr,ya,yr,p,q,rfl,rfl,M,N,O,T,rfl⟩:=Bco D;have hlz:=Hr g5;have L:=Hr C;rw[Bdr];show wpS P Y (Sem.bind _ _) Z K;rw[Ad,if_pos (by simpa using B)];show wpS P Y ((part f.type l.toArray f.offset).bind _) Z _;rw[Ad,L];refine Asf g3 g4 hlz M E fun v hv=>?_;show wpS P Y ((part f.type m.toArray n).bind _) Z _;rw[Ad];refine Asf g3 g4 hlz N I fun w hw=>?_;show wpS P Y ((Op.equalIn e f.type v w).bind _) Z _;rw[Ad];refine Ayu d f.type a g3 e (by omega) xa ya p v w O hv hw Z _ ?_;cases p with
            | false=>exact hK
            | true =>
             refine ih (n+z) ks2 xr yr q K g6 T ?_ ?_ ?_
             ·have:=E.drop z;rw[List.drop_left' (by omega),Aoz]at this;exact this
             ·have:=I.drop z;rw[List.drop_left' (by omega),Aoz]at this;exact this
             ·simpa using hK
           ·cases c
          ·cases c
         ·cases c
       have hfs:fs=fs.toList.toArray:=by simp
       rw[hfs];simp only[Bdi];show wpS P Y (Sem.bind _ _) Z Q;rw[Ad];refine key fs.toList 0 ks xs ys r _ h hr hl hm ?_;cases r with
       | true=>exact hq
       | false=>exact hq
      ·rw[hu]at i;cases i;cases u
     ·rw[hu]at g;cases g;cases j
    ·cases h
   | _=>cases h
end
end
section
section
variable{P:Program}{R:XR}{e:Tr CV}{e':Env}{m m':Mem}{x:CV}
theorem Ayo{v k off}(h:V1 R (.p k off) v):∃b c,R k=some (b,c)/\v = .pointer (some ⟨b,off,none⟩):=by cases h with|p h1 _=>exact⟨_,_,h1,rfl⟩
theorem Afe{v l}(h:V1 R (.g l) v):∃l',VR R l l'/\v = .agg l'.toArray:=by cases h with|g h1 _=>exact⟨_,h1,rfl⟩
theorem Cbu{v l}(h:V1 R (.t l) v):∃l',VR R l l'/\v = .tuple l'.toArray:=by cases h with|t h1 _=>exact⟨_,h1,rfl⟩
theorem Bzh{v k}(h:V1 R (.m k) v):∃b c,R k=some (b,c)/\v = .map (some b):=by cases h with|m h1 _=>exact⟨_,_,h1,rfl⟩
theorem Bjb{v k}(h:V1 R (.c k) v):∃b c,R k=some (b,c)/\v = .chan (some b):=by cases h with|c h1 _=>exact⟨_,_,h1,rfl⟩
def Yv(kn:Bool)(c d:Nat):Nat:=match kn with
 | true=>c
 | false=>d-c
theorem Zu{v k off ln c kn}(h:V1 R (.sl k off ln kn c) v):∃b d,R k=some (b,d)/\v = .slice (some ⟨b,off,none⟩) ln (Yv kn c d):=by
 cases h with
 | slK h1 _=>exact⟨_,_,h1,rfl⟩
 | slU h1 _=>exact⟨_,_,h1,rfl⟩
def Ix(P:Program)(o:Op):Prop:=∀R e e' m x m',EnvR R e e'->Pe R->(opK P o).run e m = .v x m'->(m'=m/\Tc P o R e' x)∨Bfn P o R e' m x m'
theorem Hs{x y m m'}(h:OR.v x m = .v y m'):x=y/\m=m':=by cases h;exact⟨rfl,rfl⟩
theorem Bgz(a:Operand):Ix P (.move a):=fun R e e' m x m' he hg h=>by
 obtain⟨rfl,rfl⟩:=Hs h;exact .inl ⟨rfl,_,Dy he hg a,fun Y Z dd ty pos af g=>⟨rfl,rfl⟩⟩
theorem Awb(a:Operand):Ix P (.assign a):=fun R e e' m x m' he hg h=>by
 obtain⟨rfl,rfl⟩:=Hs h;exact .inl ⟨rfl,_,Dy he hg a,fun Y Z dd ty pos af g=>⟨rfl,rfl⟩⟩
theorem Bha(c a b:Operand):Ix P (.pick c a b):=fun R e e' m x m' he hg h=>by
 have hc:=Dy he hg c;have h':(match (rdK c).run e with | .b true=>OR.v ((rdK a).run e) m | .b false=>.v ((rdK b).run e) m|_=>.bad) = .v x m':=h;split at h'
 ·rename_i hb;rw[hb]at hc;obtain⟨rfl,rfl⟩:=Hs h';refine .inl ⟨rfl,_,Dy he hg a,fun Y Z dd ty pos af g=>?_⟩;show wpS P Y (do pure (Next.value (if <-asBool (Af e' c) then Af e' a else Af e' b)):Sem Next) Z _;rw[Aoe hc];exact⟨rfl,rfl⟩
 ·rename_i hb;rw[hb]at hc;obtain⟨rfl,rfl⟩:=Hs h';refine .inl ⟨rfl,_,Dy he hg b,fun Y Z dd ty pos af g=>?_⟩;show wpS P Y (do pure (Next.value (if <-asBool (Af e' c) then Af e' a else Af e' b)):Sem Next) Z _;rw[Aoe hc];exact⟨rfl,rfl⟩
 ·cases h'
theorem Blm(t:TypeId)(a:Operand):Ix P (.unOp .not t a):=fun R e e' m x m' he hg h=>by
 have ha:=Dy he hg a;have h':(match (rdK a).run e with | .b v=>OR.v (.b !v) m|_=>.bad) = .v x m':=h;split at h'
 ·rename_i v hb;rw[hb]at ha;obtain⟨rfl,rfl⟩:=Hs h';exact .inl ⟨rfl,Jc (Op.unary .not (Af e' a)) (fun _ _ _ _ _=>rfl) (.b _ .nil) fun Y Z=>by rw[Aoe ha];exact⟨rfl,rfl⟩⟩
 ·cases h'
theorem Bll(t:TypeId)(a:Operand):Ix P (.unOp .neg t a):=fun R e e' m x m' he hg h=>by
 have ha:=Dy he hg a;have h':(match (rdK a).run e with | .i k v=>OR.v (.i k (k.wrap (0-v))) m|_=>.bad) = .v x m':=h;split at h'
 ·rename_i k v hb;rw[hb]at ha;obtain⟨rfl,rfl⟩:=Hs h';exact .inl ⟨rfl,Jc (Op.unary .neg (Af e' a)) (fun _ _ _ _ _=>rfl) (.i _ _ .nil) fun Y Z=>by rw[Og ha];exact⟨rfl,rfl⟩⟩
 ·cases h'
theorem Aou(a:Operand):Ix P (.nilCheck a):=fun R e e' m x m' he hg h=>by
 have ha:=Dy he hg a;have h':(match (rdK a).run e with | .p k off=>OR.v (.p k off) m|_=>.bad) = .v x m':=h;split at h'
 ·rename_i k off hb;rw[hb]at ha;obtain⟨rfl,rfl⟩:=Hs h';obtain⟨b,c,d,f⟩:=Ayo ha;refine .inl ⟨rfl,_,.p d .nil,fun Y Z dd ty pos af g=>?_⟩;unfold execOp;simp only[f];exact⟨rfl,rfl⟩
 ·cases h'
theorem Aey(he:EnvR R e e')(hg:Pe R)(xs:Array Operand):∃vs:List Value,VR R ((rdsK xs.toList).run e) vs/\xs.map (Af e')=vs.toArray:=by refine⟨_,Aax he hg xs.toList,?_⟩;rw[<-List.map_toArray,Adz]
theorem Aot(f:FuncId)(xs ys:Array Operand):Ix P (.makeFunc (.func f) xs ys):=fun R e e' m x m' he hg h=>by
 obtain⟨rfl,rfl⟩:=Hs h;obtain⟨vs,a,b⟩:=Aey he hg xs;obtain⟨ws,c,d⟩:=Aey he hg ys;refine .inl ⟨rfl,_,.f f a c .nil,fun Y Z dd ty pos af g=>?_⟩;show wpS P Y ((Instr.makeFunc (.func f) (xs.map (Af e')) (ys.map (Af e'))).bind fun v=>Sem.pure (Next.value v)) Z _;rw[b,d];exact⟨rfl,rfl⟩
theorem Atk(a:Operand)(i:Nat):Ix P (.extract a i):=fun R e e' m x m' he hg h=>by
 have ha:=Dy he hg a;have h':(match (rdK a).run e with | .t l=>xVOf m (xNth i l)|_=>.bad) = .v x m':=h;split at h'
 ·rename_i l hb;rw[hb]at ha;rw[Afh]at h';cases hi:l[i]? with
  | none=>rw[hi]at h';cases h'
  | some w =>
   rw[hi]at h';obtain⟨rfl,rfl⟩:=Hs h';obtain⟨l',b,c⟩:=Cbu ha;obtain⟨v,d,f⟩:=b.at hi;exact .inl ⟨rfl,Jc (Instr.extract (Af e' a) i) (fun _ _ _ _ _=>rfl) f fun Y Z=>by rw[c];simp only[Instr.extract,Jw,d];exact⟨rfl,rfl⟩⟩
 ·cases h'
theorem Brc{op t k a b w}(h:binN op k a b=some w):∃v,V1 R w v/\binOp op t (.int k a) (.int k b)=pure v:=by
 cases op<;>simp only[binN,Option.some.injEq]at h<;>first|(cases h;done)|skip
 case quo =>
  split at h
  ·cases h
  ·rename_i hb;have c:b≠0:=fun c=>by subst c;cases hb
   cases h;exact⟨_,.i _ _ .nil,by simp only[binOp,ne_eq,not_true,if_false];unfold Op.intDiv;rw[if_neg c]⟩
 case rem =>
  split at h
  ·cases h
  ·rename_i hb;have c:b≠0:=fun c=>by subst c;cases hb
   cases h;exact⟨_,.i _ _ .nil,by simp only[binOp,ne_eq,not_true,if_false];unfold Op.intDiv;rw[if_neg c]⟩
 all_goals subst h
 all_goals first
  | exact⟨_,.i _ _ .nil,by simp only[binOp,ne_eq,not_true,if_false];rfl⟩
  | exact⟨_,.b _ .nil,by rw[Abg];simp only[binOp,ne_eq,not_true,if_false];rfl⟩
  | exact⟨_,.b _ .nil,by rw[Akm];simp only[binOp,ne_eq,not_true,if_false];rfl⟩
  | exact⟨_,.b _ .nil,by rw[Akm,not_lt];simp only[binOp,ne_eq,not_true,if_false];rfl⟩
theorem Bfy(op:BinOp)(k:IntKind)(a b:Int)(w:CV)(h:(binKN op).run k a b=some w):binN op k a b=some w:=by cases op<;>first|exact h|cases h
theorem Afl{op t t' a b w v u z}(ha:Af e' a=u)(hb:Af e' b=z)(hg:eqGuard op t a b u z=pure ())(hv:V1 R w v)(h:binOp op t u z=pure v):Tc P (.binOp op t a b t') R e' w :=
 Jc (do eqGuard op t a b (Af e' a) (Af e' b);binOp op t (Af e' a) (Af e' b)) (fun _ _ _ _ _=>rfl) hv fun Y Z=>by rw[ha,hb,hg,h];exact⟨rfl,rfl⟩
theorem Atp{d:Option TypeDesc}(h:xIsSl d=true):∃el,d=some (.slice el):=by
 unfold xIsSl at h;split at h
 ·exact⟨_,rfl⟩
 ·cases h
theorem Ato{d:Option TypeDesc}(h:xIsFn d=true):∃x y z,d=some (.func x y z):=by
 unfold xIsFn at h;split at h
 ·exact⟨_,_,_,rfl⟩
 ·cases h
theorem Bta{d:Option TypeDesc}{b:Operand}(h:xIsNf d b=true):(∃ms,d=some (.interface ms))/\∃c,b = .const c:=by
 unfold xIsNf at h;split at h
 ·exact⟨⟨_,rfl⟩,_,rfl⟩
 ·cases h
theorem eq_of{t t':TypeId}{a b:Operand}{r:Bool}{u z:Value}(ha:Af e' a=u)(hb:Af e' b=z)(hg:∀op,eqGuard op t a b u z=pure ())
    (h1:binOp .eql t u z=(Op.equal t u z).bind fun r=>Sem.pure (.bool r)) (h2:binOp .neq t u z=(Op.equal t u z).bind fun r=>Sem.pure (.bool (!r)))
    (hw:∀Y Z (Q:Bool->Own->Prop),Q r Z->wpS P Y (Op.equal t u z) Z Q):Tc P (.binOp .eql t a b t') R e' (.b r)/\Tc P (.binOp .neq t a b t') R e' (.b !r) :=
  ⟨Jc (do eqGuard .eql t a b (Af e' a) (Af e' b);binOp .eql t (Af e' a) (Af e' b)) (fun _ _ _ _ _=>rfl) (.b _ .nil) fun Y Z=>by
      rw[ha,hb,hg,h1];show wpS P Y ((Op.equal t u z).bind _) Z _;rw[Ad];exact hw Y Z _ ⟨rfl, rfl⟩,
   Jc (do eqGuard .neq t a b (Af e' a) (Af e' b);binOp .neq t (Af e' a) (Af e' b)) (fun _ _ _ _ _ => rfl) (.b _ .nil) fun Y Z => by
      rw[ha,hb,hg,h2];show wpS P Y ((Op.equal t u z).bind _) Z _;rw[Ad];exact hw Y Z _ ⟨rfl,rfl⟩⟩
theorem Bfj{t t':TypeId}{a b:Operand}{u z:CV}{v w:Value}{r:Bool}(h:xEqW (xIsSl (P.underlying t)) (xIsFn (P.underlying t)) (xIsNf (P.underlying t) b) u z=some r)(hv:V1 R u v)(hw:V1 R z w)(ha:Af e' a=v)(hb:Af e' b=w) :
  Tc P (.binOp .eql t a b t') R e' (.b r)/\Tc P (.binOp .neq t a b t') R e' (.b !r):=by
 have sl:∀{el:TypeId} {x y:Option Addr} {g e i f:Nat} {r:Bool},P.underlying t=some (.slice el)->(x=none/\r=y.isNone∨y=none/\r=x.isNone)->Af e' a = .slice x g e->Af e' b = .slice y i f ->
   Tc P (.binOp .eql t a b t') R e' (.b r)/\Tc P (.binOp .neq t a b t') R e' (.b !r):=by
  intro el x y g e i f r hu hx ha hb;refine eq_of ha hb (fun op=>by cases op<;>rfl) rfl rfl fun Y Z Q hq=>?_
  show wpS P Y ((underlying t).bind _) Z Q;rw[Ad];refine Az hu ?_;rcases hx with⟨rfl,rfl⟩|⟨rfl,rfl⟩
  ·exact hq
  ·cases x with
   | none=>exact hq
   | some x=>exact hq
 unfold xEqW at h;split at h
 ·cases h;rw[Zs hv]at ha;rw[Zs hw]at hb;refine⟨Afl ha hb Sc (.b _ .nil) ?_,Afl ha hb Sc (.b _ .nil) ?_⟩
  ·rw[Yf];simp only[binOp,Op.stringOp,ByteArray.toList_eq]
  ·rw[Yf];simp only[binOp,Op.stringOp,ByteArray.toList_eq]
 ·split at h
  ·rename_i hs;cases h;obtain⟨el,hu⟩:=Atp hs;cases hv;cases hw;exact sl hu (.inl ⟨rfl,rfl⟩) ha hb
  ·cases h
 ·split at h
  ·rename_i hs;cases h;obtain⟨el,hu⟩:=Atp hs;obtain⟨j,k,_,d⟩:=Zu hv;cases hw;subst d;exact sl hu (.inr ⟨rfl,rfl⟩) ha hb
  ·cases h
 ·split at h
  ·rename_i hs;cases h;obtain⟨el,hu⟩:=Atp hs;obtain⟨j,k,_,d⟩:=Zu hw;cases hv;subst d;exact sl hu (.inl ⟨rfl,rfl⟩) ha hb
  ·cases h
 ·split at h
  ·rename_i hs;cases h;obtain⟨_,_,_,hu⟩:=Ato hs;cases hv;cases hw;refine eq_of ha hb (fun op=>by cases op<;>rfl) rfl rfl fun Y Z Q hq=>?_
   show wpS P Y ((underlying t).bind _) Z Q;rw[Ad];exact Az hu hq
  ·cases h
 ·split at h
  ·rename_i hs;cases h;obtain⟨_,_,_,hu⟩:=Ato hs;cases hv;cases hw;refine eq_of ha hb (fun op=>by cases op<;>rfl) rfl rfl fun Y Z Q hq=>?_
   show wpS P Y ((underlying t).bind _) Z Q;rw[Ad];exact Az hu hq
  ·cases h
 ·split at h
  ·rename_i hs;cases h;obtain⟨_,_,_,hu⟩:=Ato hs;cases hv;cases hw;refine eq_of ha hb (fun op=>by cases op<;>rfl) rfl rfl fun Y Z Q hq=>?_
   show wpS P Y ((underlying t).bind _) Z Q;rw[Ad];exact Az hu hq
  ·cases h
 ·split at h
  ·rename_i hs;cases h;obtain⟨⟨ms,hu⟩,c,rfl⟩:=Bta hs;cases hv;cases hw;refine eq_of ha hb (fun op=>by cases op<;>cases a<;>rfl) rfl rfl fun Y Z Q hq=>?_
   show wpS P Y ((underlying t).bind _) Z Q;rw[Ad];exact Az hu hq
  ·cases h
 ·cases h
theorem Adt{t ks}(h:flatT P t=some ks):∃fs:Array Field,P.underlying t=some (.struct fs)/\P.stoodInHeld t=false/\P.eqGuardType P.depth t=false/\flatK P 0 fs.toList=some ks:=by
 unfold flatT at h;split at h
 ·rename_i fs h1 h2 h3;exact⟨fs,h3,h1,h2,h⟩
 ·cases h
theorem Baa{n f fs ks}(h:flatK P n (f::fs)=some ks):∃k l,ks=k::l/\f.name ≠ "_"/\f.offset=n/\P.underlying f.type=some (.int k)/\flatK P (n+1) fs=some l:=by
 unfold flatK at h;split at h
 ·rename_i k l h1 h2 h3 h4;cases h;exact⟨k,l,rfl,by simpa using h1,Hr h2,h3,h4⟩
 ·cases h
theorem Alz{k ks x y r}(h:eqF (k::ks) x y=some r):∃a x' b y' r',x = .i k a::x'/\y = .i k b::y'/\eqF ks x' y'=some r'/\r=(a==b&&r'):=by
 replace h:eqF1 k (eqF ks) x y=some r:=h;unfold eqF1 at h;split at h
 ·split at h
  ·rename_i k1 a x' k2 b y' _ _ h1 h2;cases hr:eqF ks x' y' with
   | none=>rw[hr]at h;cases h
   | some r' =>
    rw[hr]at h;simp only[Option.some.injEq]at h;rw[<-Mg h1,<-Mg h2];exact⟨a,x',b,y',r',rfl,rfl,hr,by rw[<-h,Abg];cases (a==b)<;>rfl⟩
  ·cases h
 ·cases h
theorem Ama:∀(fs:List Field) (n:Nat) (ks:List IntKind) (x y:List CV) (xs ys:List Value) (r:Bool),flatK P n fs=some ks->eqF ks x y=some r->VR R x (xs.drop n)->VR R y (ys.drop n)->∃ps qs,EqF P xs.toArray ys.toArray fs ps qs/\r=decide (ps=qs)
 | [],n,ks,x,y,xs,ys,r,h1,h2,h3,h4=>by
  cases h1;replace h2:eqF0 x y=some r:=h2;unfold eqF0 at h2;split at h2
  ·cases h2;exact⟨[],[],trivial,rfl⟩
  ·cases h2
 | f::fs,n,ks,x,y,xs,ys,r,h1,h2,h3,h4=>by
  obtain⟨k,l,rfl,hn,ho,hk,v⟩:=Baa h1;obtain⟨a,x',b,y',r',rfl,rfl,B,C⟩:=Alz h2;have hd:∀{z:List CV} {zs:List Value} {c:Int},VR R (.i k c::z) (zs.drop n)->zs[n]?=some (.int k c)/\VR R z (zs.drop (n+1)):=fun {z zs c} h=>by
   cases hz:zs.drop n with
   | nil=>rw[hz]at h;cases h
   | cons w ws =>
    rw[hz]at h;obtain⟨d,e⟩:=VR.cons_iff.1 h;have g:=Og d;subst g;have j:zs[n]?=some (.int k c):=by
     have:=congrArg List.head? hz;simpa using this
    have m:zs.drop (n+1)=ws:=by
     have:=congrArg List.tail hz;simpa using this
    exact⟨j,by rw[m];exact e⟩
  obtain⟨d,e⟩:=hd h3;obtain⟨p,q⟩:=hd h4;obtain⟨ps,qs,t,u⟩:=Ama fs (n+1) l x' y' xs ys r' v B e q;refine⟨a::ps,b::qs,⟨⟨hn,k,hk,by rw[ho];simpa using d,by rw[ho];simpa using p⟩,t⟩,?_⟩;rw[C,u];by_cases hab:a=b
  ·subst hab;simp
  ·have:(a==b)=false:=by simpa using hab
   rw[this];simp[hab]
theorem Cdi{t t':TypeId}{a b:Operand}{ks:List CK}{op:BinOp}{p q:List CV}{v:CV}{u z:Value}(hd:deepG P t=some ks)(hr:(binKG op).run ks p q=some v)(hu:V1 R (.g p) u)(hz:V1 R (.g q) z)(ha:Af e' a=u)(hb:Af e' b=z) :
  Tc P (.binOp op t a b t') R e' v:=by
 obtain⟨p',c,d⟩:=Afe hu;obtain⟨q',e,f⟩:=Afe hz;rw[d]at ha;rw[f]at hb;unfold deepG at hd;split at hd
 ·rename_i fs h1 h2;have ag:∀{xs:List CV} {l:List Value},VR R xs l->Bqz P R t xs (.agg l.toArray):=fun h=>.inl ⟨_,h2,rfl,_,rfl,h⟩;have key:∀{r:Bool} {Z:Own} {Y:Ro} {Q:Bool->Own->Prop},eqD ks p q=some r->Q r Z->wpS P Y (Op.equal t (.agg p'.toArray) (.agg q'.toArray)) Z Q:=fun {r Z Y Q} hr hq =>
   Ayu 100 t ks hd 10000 (by decide) p q r _ _ hr (ag c) (ag e) Z Q hq
  cases op<;>first|(cases hr;done)|skip
  ·have hr':(match eqD ks p q with|some r=>some (CV.b r)|none=>none)=some v:=hr;cases h3:eqD ks p q with
   | none=>rw[h3]at hr';cases hr'
   | some r =>
    rw[h3]at hr';cases hr';exact Jc (do eqGuard .eql t a b (Af e' a) (Af e' b);binOp .eql t (Af e' a) (Af e' b)) (fun _ _ _ _ _=>rfl) (.b _ .nil) fun Y Z=>by
     rw[ha,hb];show wpS P Y (Sem.bind (eqGuard .eql t a b (.agg p'.toArray) (.agg q'.toArray)) _) Z _;rw[Ad];show wpS P Y (if (!P.eqGuardType P.depth t)=true then _ else _) Z _;rw[if_pos (by simp[h1])];show wpS P Y ((Op.equal t (.agg p'.toArray) (.agg q'.toArray)).bind _) Z _;rw[Ad];exact key h3 ⟨rfl,rfl⟩
  ·have hr':(match eqD ks p q with|some r=>some (CV.b !r)|none=>none)=some v:=hr;cases h3:eqD ks p q with
   | none=>rw[h3]at hr';cases hr'
   | some r =>
    rw[h3]at hr';cases hr';exact Jc (do eqGuard .neq t a b (Af e' a) (Af e' b);binOp .neq t (Af e' a) (Af e' b)) (fun _ _ _ _ _=>rfl) (.b _ .nil) fun Y Z=>by
     rw[ha,hb];show wpS P Y (Sem.bind (eqGuard .neq t a b (.agg p'.toArray) (.agg q'.toArray)) _) Z _;rw[Ad];show wpS P Y (if (!P.eqGuardType P.depth t)=true then _ else _) Z _;rw[if_pos (by simp[h1])];show wpS P Y ((Op.equal t (.agg p'.toArray) (.agg q'.toArray)).bind _) Z _;rw[Ad];exact key h3 ⟨rfl,rfl⟩
 ·cases hd
theorem Cdj{t t':TypeId}{a b:Operand}{op:BinOp}{u z:CV}{v:CV}{v1 v2:Value}(hr:(binKW (xIsSl (P.underlying t)) (xIsFn (P.underlying t)) (xIsNf (P.underlying t) b) op).run u z=some v)(hu:V1 R u v1)(hz:V1 R z v2)(ha:Af e' a=v1)(hb:Af e' b=v2) :
  Tc P (.binOp op t a b t') R e' v:=by
 cases op<;>first|(cases hr;done)|skip
 ·have hr':catW u z=some v:=hr;unfold catW at hr';split at hr'
  ·rename_i a0 b0;split at hr'
   ·rename_i hl;cases hr';rw[Zs hu]at ha;rw[Zs hz]at hb;have hl:=lZ7 hl;rw[Ia,Ia]at hl;replace hl:a0.length+b0.length<=1000000:=hl;refine Afl ha hb Sc (v:=.string ⟨(xApp a0 b0).toArray⟩) (.s _ .nil) ?_;rw[Me];simp only[binOp,Op.stringOp];rw[if_neg (by
     have c:(⟨a0.toArray⟩:ByteArray).size=a0.length:=rfl;have d:(⟨b0.toArray⟩:ByteArray).size=b0.length:=rfl;have e:IntKind.i64.max=9223372036854775807:=rfl;rw[c,d,e];omega)]
    congr 2
   ·cases hr'
  ·cases hr'
 ·have hr':(match xEqW (xIsSl (P.underlying t)) (xIsFn (P.underlying t)) (xIsNf (P.underlying t) b) u z with|some r=>some (CV.b r)|none=>none)=some v:=hr;cases h3:xEqW (xIsSl (P.underlying t)) (xIsFn (P.underlying t)) (xIsNf (P.underlying t) b) u z with
  | none=>rw[h3]at hr';cases hr'
  | some r=>rw[h3]at hr';cases hr';exact(Bfj h3 hu hz ha hb).1
 ·have hr':(match xEqW (xIsSl (P.underlying t)) (xIsFn (P.underlying t)) (xIsNf (P.underlying t) b) u z with|some r=>some (CV.b !r)|none=>none)=some v:=hr;cases h3:xEqW (xIsSl (P.underlying t)) (xIsFn (P.underlying t)) (xIsNf (P.underlying t) b) u z with
  | none=>rw[h3]at hr';cases hr'
  | some r=>rw[h3]at hr';cases hr';exact(Bfj h3 hu hz ha hb).2
theorem Brd{op : BinOp}{t t' : TypeId}{a b : Operand}(he : EnvR R e e')(hg : Pe R)(h : (match (rdK a).run e, (rdK b).run e with
        | .i k a,.i k' b=>match xKind k k' with
          | true=>match (binKN op).run k a b with|some v=>OR.v v m|none=>.bad
          | false=>.bad
        | .g a,.g b=>match deepG P t with
          | some ks=>match (binKG op).run ks a b with|some v=>.v v m|none=>.bad
          | none=>.bad
        | u,z=>match (binKW (xIsSl (P.underlying t)) (xIsFn (P.underlying t)) (xIsNf (P.underlying t) b) op).run u z with|some v=>.v v m|none=>.bad) = .v x m'):m'=m/\Tc P (.binOp op t a b t') R e' x:=by
  have ha:=Dy he hg a;have hb:=Dy he hg b;revert ha hb h;generalize (rdK a).run e=u,(rdK b).run e=z;intro h ha hb;split at h
  · rename_i k u k' z
    split at h
    · rename_i hk
      have hk:=Mg hk;subst hk;cases hw:(binKN op).run k u z with
      | none=>rw[hw]at h;cases h
      | some w =>
        rw[hw]at h;obtain⟨rfl,rfl⟩:=Hs h;obtain⟨v,c,d⟩:=Brc (R:=R) (t:=t) (Bfy _ _ _ _ _ hw);exact⟨rfl,Afl (Og ha) (Og hb) Dh c d⟩
    · cases h
  · rename_i p q
    cases hd:deepG P t with
    | none=>rw[hd]at h;cases h
    | some ks =>
      rw[hd]at h;cases hw:(binKG op).run ks p q with
      | none=>simp only[hw]at h;cases h
      | some w =>
        simp only[hw]at h;obtain⟨rfl,rfl⟩:=Hs h;exact⟨rfl,Cdi hd hw ha hb rfl rfl⟩
  · cases hw:(binKW (xIsSl (P.underlying t)) (xIsFn (P.underlying t)) (xIsNf (P.underlying t) b) op).run u z with
    | none=>rw[hw]at h;cases h
    | some w =>
      rw[hw]at h;obtain⟨rfl,rfl⟩:=Hs h;exact⟨rfl,Cdj hw ha hb rfl rfl⟩
theorem Bli(op:BinOp)(t:TypeId)(a b:Operand)(t':TypeId):Ix P (.binOp op t a b t'):=fun R e e' m x m' he hg h=>by
 have ha:=Dy he hg a;have hb:=Dy he hg b;unfold opK at h;simp only at h;split at h
 ·split at h
  ·have h':(match (rdK a).run e,(rdK b).run e with | .i k u,.i _ (.ofNat n)=>OR.v (.i k (k.wrap (u*2^(min n k.bits)))) m|_,_=>.bad) = .v x m':=h;split at h'
   ·rename_i k u k' n hu hz;obtain⟨rfl,rfl⟩:=Hs h';rw[hu]at ha;rw[hz]at hb;refine .inl ⟨rfl,Afl (Og ha) (Og hb) Dh (.i _ _ .nil) ?_⟩;show Op.shift .shl k u k' (Int.ofNat n)=_;unfold Op.shift;rw[if_neg (show ¬(Int.ofNat n<0) from Int.not_lt.2 (Ats n))];rfl
   ·cases h'
  ·have h':(match (rdK a).run e,(rdK b).run e with | .i k u,.i _ (.ofNat n)=>OR.v (.i k (u.fdiv (2^(min n k.bits)))) m|_,_=>.bad) = .v x m':=h;split at h'
   ·rename_i k u k' n hu hz;obtain⟨rfl,rfl⟩:=Hs h';rw[hu]at ha;rw[hz]at hb;refine .inl ⟨rfl,Afl (Og ha) (Og hb) Dh (.i _ _ .nil) ?_⟩;show Op.shift .shr k u k' (Int.ofNat n)=_;unfold Op.shift;rw[if_neg (show ¬(Int.ofNat n<0) from Int.not_lt.2 (Ats n))];rfl
   ·cases h'
  ·have h':(match (rdK a).run e,(rdK b).run e with
    | .i k a,.i k' b=>match xKind k k' with
     | true=>match (binKN op).run k a b with|some v=>OR.v v m|none=>.bad
     | false=>.bad
    | .g a,.g b=>match deepG P t with
     | some ks=>match (binKG op).run ks a b with|some v=>.v v m|none=>.bad
     | none=>.bad
    | u,z=>match (binKW (xIsSl (P.underlying t)) (xIsFn (P.underlying t)) (xIsNf (P.underlying t) b) op).run u z with|some v=>.v v m|none=>.bad) = .v x m':=h
   exact .inl (Brd he hg h')
 ·rename_i ks hf;obtain⟨fs,C,D,E,F⟩:=Adt hf;split at h
  ·have h':(match (rdK a).run e,(rdK b).run e with | .g p,.g q=>(match eqF ks p q with|some r=>OR.v (.b r) m|none=>.bad)|_,_=>.bad) = .v x m':=h;split at h'
   ·rename_i p q hu hz;rw[hu]at ha;rw[hz]at hb;cases hr:eqF ks p q with
    | none=>rw[hr]at h';cases h'
    | some r =>
     rw[hr]at h';obtain⟨rfl,rfl⟩:=Hs h';obtain⟨p',c,d⟩:=Afe ha;obtain⟨q',f,j⟩:=Afe hb;obtain⟨ps,qs,w,B⟩:=Ama fs.toList 0 ks p q p' q' r F hr c f;refine .inl ⟨rfl,_,.b _ .nil,fun Y Z dd ty pos af g=>?_⟩;have:=Acg (P:=P) (Y:=Y) (e:=e') (ty:=ty) (t':=t') (x:=a) (y:=b) (fs:=fs.toList) (by rw[Adz];exact C) D E d j w;rw[B];exact this Y Z dd pos af g fun _ _ h=>h
   ·cases h'
  ·have h':(match (rdK a).run e,(rdK b).run e with | .g p,.g q=>(match eqF ks p q with|some r=>OR.v (.b !r) m|none=>.bad)|_,_=>.bad) = .v x m':=h;split at h'
   ·rename_i p q hu hz;rw[hu]at ha;rw[hz]at hb;cases hr:eqF ks p q with
    | none=>rw[hr]at h';cases h'
    | some r =>
     rw[hr]at h';obtain⟨rfl,rfl⟩:=Hs h';obtain⟨p',c,d⟩:=Afe ha;obtain⟨q',f,j⟩:=Afe hb;obtain⟨ps,qs,w,B⟩:=Ama fs.toList 0 ks p q p' q' r F hr c f;refine .inl ⟨rfl,_,.b _ .nil,fun Y Z dd ty pos af g=>?_⟩;have:=Aci (P:=P) (Y:=Y) (e:=e') (ty:=ty) (t':=t') (x:=a) (y:=b) (fs:=fs.toList) (by rw[Adz];exact C) D E d j w;rw[B];exact this Y Z dd pos af g fun _ _ h=>h
   ·cases h'
  ·cases h
end
end
section
section
variable{P:Program}{R:XR}{e:Tr CV}{e':Env}{m m':Mem}{x:CV}
theorem Wr{o}{Y:Ro}{v}(hv:V1 R x v)(h:∀Y ty,Yld P Y e' o ty v):Tc P o R e' x:=⟨v,hv,fun Y Z dd ty pos af g=>h Y ty Y Z dd pos af g fun _ _ h=>h⟩
theorem Blf{fs i o n}(h:fldAt P fs i=some (o,n)):∃f,fs[i]?=some f/\f.offset=o/\∃t,P.info? f.type=some t/\t.size=n:=by
 unfold fldAt at h;cases hf:fs[i]? with
 | none=>rw[hf]at h;cases h
 | some f =>
  rw[hf]at h;simp only at h;cases hn:xSzT P f.type with
  | none=>rw[hn]at h;cases h
  | some n'=>rw[hn]at h;cases h;exact⟨f,rfl,rfl,Od hn⟩
theorem Amh(t:TypeId)(a:Operand)(i:Nat):Ix P (.fieldAddr t a i):=fun R e e' m x m' he hg h=>by
 have ha:=Dy he hg a;unfold opK at h;simp only at h;split at h
 ·rename_i fs hT;split at h
  ·rename_i o n hf;split at h
   ·rename_i hn;have h':(match (rdK a).run e with | .p k off=>OR.v (.p k (Nat.add off o)) m|_=>.bad) = .v x m':=h;split at h'
    ·rename_i k off hu;obtain⟨rfl,rfl⟩:=Hs h';rw[hu]at ha;obtain⟨b,c,d,g⟩:=Ayo ha;obtain⟨f,j,q,u⟩:=Blf hf;refine .inl ⟨rfl,Wr (Y:=fun _=>none) (.p d .nil) fun Y ty=>?_⟩;exact Ajt hT (by rw[<-Bhg];exact j) q u (by have:=lZ7 hn;omega) g rfl
    ·cases h'
   ·cases h
  ·cases h
 ·cases h
theorem Ami(t:TypeId)(a b:Operand):Ix P (.indexAddr t a b):=fun R e e' m x m' he hg h=>by
 have ha:=Dy he hg a;have hb:=Dy he hg b;unfold opK at h;simp only at h;split at h
 ·rename_i el hT;split at h
  ·rename_i n hn;have h':(match (rdK a).run e,(rdK b).run e with
    | .sl k off ln _ _,.i _ (.ofNat i)=>match Nat.ble (Nat.succ i) ln with|true=>OR.v (.p k (Nat.add off (Nat.mul i n))) m|false=>.bad
    | _,_=>.bad) = .v x m':=h
   split at h'
   ·rename_i k off ln kn c ik i hu hz;split at h'
    ·rename_i hlt;obtain⟨rfl,rfl⟩:=Hs h';rw[hu]at ha;rw[hz]at hb;obtain⟨bl,d,f,g⟩:=Zu ha;refine .inl ⟨rfl,Wr (Y:=fun _=>none) (.p f .nil) fun Y ty=>?_⟩;exact Ajv i hT (Od hn) g (Og hb) rfl (lZ7 hlt) rfl
    ·cases h'
   ·cases h'
  ·cases h
 ·rename_i ln el hT;split at h
  ·rename_i n hn;have h':(match (rdK a).run e,(rdK b).run e with
    | .p k off,.i _ (.ofNat i)=>match Nat.ble (Nat.succ i) ln with|true=>OR.v (.p k (Nat.add off (Nat.mul i n))) m|false=>.bad
    | _,_=>.bad) = .v x m':=h
   split at h'
   ·rename_i k off ik i hu hz;split at h'
    ·rename_i hlt;obtain⟨rfl,rfl⟩:=Hs h';rw[hu]at ha;rw[hz]at hb;obtain⟨bl,d,f,g⟩:=Ayo ha;refine .inl ⟨rfl,Wr (Y:=fun _=>none) (.p f .nil) fun Y ty=>?_⟩;exact Aju i hT (Od hn) g (Og hb) rfl (lZ7 hlt) rfl
    ·cases h'
   ·cases h'
  ·cases h
 ·cases h
theorem Bka(l:List UInt8)(i:Nat):(⟨l.toArray⟩:ByteArray)[i]?=l[i]?:=by
 by_cases h:i<l.length
 ·rw[Ps h,getElem?_pos (⟨l.toArray⟩:ByteArray) i (by show i<l.toArray.size;simpa using h)];rfl
 ·rw[Sr (by omega),getElem?_neg (⟨l.toArray⟩:ByteArray) i (by show ¬i<l.toArray.size;simpa using h)]
theorem Aru{Y:Ro}{Z:Own}{l:List Value}{n off:Nat}{Q:Value->Own->Prop}{t:TypeId}(ha:∃d,P.underlying t=some d/\Qv d=true)(hn:∃i,P.info? t=some i/\i.size=n)(h:Q (.agg ((l.drop off).take n).toArray) Z):wpS P Y (part t l.toArray off) Z Q:=by
 show wpS P Y ((isAgg t).bind _) Z Q;rw[Ad];refine Hi ha ?_;simp only[if_true];show wpS P Y ((sizeOf t).bind _) Z Q;rw[Ad];refine Dx hn ?_;have a:l.toArray.extract off (off+n)=((l.drop off).take n).toArray:=by simp[Bly]
 rw[a];exact h
theorem Bal(t:TypeId)(a b:Operand):Ix P (.index t a b):=fun R e e' m x m' he hg h=>by
 have ha:=Dy he hg a;have hb:=Dy he hg b;unfold opK at h;simp only at h;split at h
 ·rename_i ln el hT;split at h
  ·rename_i n hn hagg;have h':(match (rdK a).run e,(rdK b).run e with
    | .g l,.i _ (.ofNat i)=>match Nat.ble (Nat.succ i) ln,xNth (Nat.mul i n) l with|true,some v=>OR.v v m|_,_=>.bad
    | _,_=>.bad) = .v x m':=h
   split at h'
   ·rename_i l ik i hu hz;split at h'
    ·rename_i w hlt hw;obtain⟨rfl,rfl⟩:=Hs h';rw[hu]at ha;rw[hz]at hb;obtain⟨l',d,f⟩:=Afe ha;rw[Afh]at hw;obtain⟨v,j,k⟩:=d.at hw;refine .inl ⟨rfl,Jc (Instr.index t (Af e' a) (Af e' b)) (fun _ _ _ _ _=>rfl) k fun Y Z=>?_⟩;rw[f,Og hb];show wpS P Y ((underlying t).bind _) Z _;rw[Ad];refine Az hT ?_;simp only[];have hlt:=lZ7 hlt;rw[if_pos ⟨Ats i,by show (i:Int)<(ln:Int);omega⟩];show wpS P Y ((sizeOf el).bind _) Z _;rw[Ad];refine Dx (Od hn) ?_;refine Qr (Aad hagg) ?_ ⟨rfl,rfl⟩;rw[Jw];exact j
    ·cases h'
   ·cases h'
  ·rename_i n hn hagg;have h':(match (rdK a).run e,(rdK b).run e with
    | .g l,.i _ (.ofNat i)=>match Nat.ble (Nat.succ i) ln,xTkn n (xDrp (Nat.mul i n) l) with|true,some r=>OR.v (.g r) m|_,_=>.bad
    | _,_=>.bad) = .v x m':=h
   split at h'
   ·rename_i l ik i hu hz;split at h'
    ·rename_i r hlt hw;obtain⟨rfl,rfl⟩:=Hs h';rw[hu]at ha;rw[hz]at hb;obtain⟨l',d,f⟩:=Afe ha;rw[Abd]at hw;refine .inl ⟨rfl,Jc (v:=.agg ((l'.drop (i*n)).take n).toArray) (Instr.index t (Af e' a) (Af e' b)) (fun _ _ _ _ _=>rfl) (.g ?_ .nil) fun Y Z=>?_⟩
     ·obtain⟨_,rfl⟩:=Abh _ _ _ hw;exact(d.drop _).take _
     rw[f,Og hb];show wpS P Y ((underlying t).bind _) Z _;rw[Ad];refine Az hT ?_;simp only[];have hlt:=lZ7 hlt;rw[if_pos ⟨Ats i,by show (i:Int)<(ln:Int);omega⟩];show wpS P Y ((sizeOf el).bind _) Z _;rw[Ad];refine Dx (Od hn) ?_;exact Aru (Aad hagg) (Od hn) ⟨rfl,rfl⟩
    ·cases h'
   ·cases h'
  ·cases h
 ·rename_i hT;have h':(match (rdK a).run e,(rdK b).run e with
    | .s l,.i _ (.ofNat i)=>match xNth i l with|some b=>OR.v (.i .u8 (.ofNat b.toNat)) m|none=>.bad
    | _,_=>.bad) = .v x m':=h
  split at h'
  ·rename_i l ik i hu hz;rw[Afh]at h';cases hc:l[i]? with
   | none=>rw[hc]at h';cases h'
   | some c =>
    rw[hc]at h';obtain⟨rfl,rfl⟩:=Hs h';rw[hu]at ha;rw[hz]at hb;refine .inl ⟨rfl,Wr (Y:=fun _=>none) (.i _ _ .nil) fun Y ty=>?_⟩;exact Ace i c hT (Zs ha) (Og hb) rfl (by rw[Bka];exact hc)
  ·cases h'
 ·cases h
theorem Ayp{v}(h:V1 R .sn v):v = .slice none 0 0:=by cases h;rfl
theorem Bai(s d:TypeId)(a:Operand):Ix P (.convert s d a):=fun R e e' m x m' he hg h=>by
 have ha:=Dy he hg a;unfold opK at h;simp only at h;split at h
 ·rename_i k0 k hS hD;have h':(match (rdK a).run e with | .i _ v=>OR.v (.i k (k.wrap v)) m|_=>.bad) = .v x m':=h;split at h'
  ·rename_i k1 v hu;obtain⟨rfl,rfl⟩:=Hs h';rw[hu]at ha;exact .inl ⟨rfl,Wr (Y:=fun _=>none) (.i _ _ .nil) fun Y ty=>Acf hS hD (Og ha) rfl⟩
  ·cases h'
 ·rename_i el hS hD;split at h
  ·rename_i hE;have h':(match (rdK a).run e with
    | .s v=>OR.v (.sl m.nx 0 (xLen v) false 0) (m.add (.grow 1 (xBytesC v)))
    | _=>.bad) = .v x m':=h
   split at h'
   ·rename_i v hu;obtain⟨rfl,rfl⟩:=Hs h';rw[hu]at ha;refine .inr ⟨.add _ _,fun _=>Atu _,fun Y Z Z9 dd ty pos af g hm=>?_⟩;obtain⟨L,G,hm⟩:=hm;show wpS P Y ((convert s d (Af e' a)).bind fun v=>Sem.pure (Next.value v)) Z _;rw[Ad,Zs ha];show wpS P Y ((underlying s).bind _) Z _;rw[Ad];refine Az hS ?_;show wpS P Y ((underlying d).bind _) Z _;rw[Ad];refine Az hD ?_;show wpS P Y ((underlying el).bind _) Z _;rw[Ad];refine Az hE ?_;show wpS P Y ((choose (.appendCap v.toArray.size 0 el)).bind _) Z _;rw[Ad];show (if (Question.appendCap v.toArray.size 0 el).forced then _ else ∀tt,_);rw[if_neg (by simp[Question.forced])];intro tt;have j:v.length<=(Question.appendCap v.toArray.size 0 el).cut tt:=by simp[Question.cut]
    generalize (Question.appendCap v.toArray.size 0 el).cut tt=nc at j;show wpS P Y ((newRow el ((v.toArray.map fun b=>Value.int .u8 b.toNat)++Array.replicate (nc-v.toArray.size) (.int .u8 0))).bind _) Z _;rw[Ad];refine Ik fun r=>?_;have f:((v.toArray.map fun (b:UInt8)=>Value.int .u8 (b.toNat:Int))++Array.replicate (nc-v.toArray.size) (Value.int .u8 0))=((v.map fun (c:UInt8)=>Value.int .u8 (c.toNat:Int))++List.replicate (nc-v.length) (Value.int .u8 0)).toArray:=by
     apply Array.ext';simp
    rw[f];show wpS P Y ((markStringish ⟨r,0,none⟩).bind _) _ _;rw[Ad];show wpS P Y ((shape r).bind _) _ _;rw[Ad];refine⟨_,.inr mC,?_⟩;refine .inr ⟨by simp,0,_,_,0,0,rfl,?_⟩;have hb:∀(R:XR) (l:List UInt8),VR R (xBytesC l) (l.map fun (c:UInt8)=>Value.int .u8 (c.toNat:Int)):=fun R l=>by
     induction l with
     | nil=>exact .nil
     | cons c l ih=>exact .i _ _ ih
    have n:xLen v=v.toArray.size:=by rw[Ia];simp
    refine⟨R.add m.nx (r,nc),_,hm.fresh _,.inl rfl,?_,?_⟩
    ·rw[n];exact .slU XR.add_same .nil
    ·refine hm.add (.grow (hb _ v) (by simp;omega) Nat.one_pos fun i hi=>?_);simp only[Abj,Bhh]at hi;simp;omega
   ·cases h'
  ·cases h
 ·cases h
theorem Xc{b az ts dd ty pos af g}(f:Operand->Value):∃cs,execOp f ⟨dd,.call ⟨.builtin b,az,ts⟩,ty,pos,af,g⟩=builtin b ts ty cs (az.map f):=⟨_,rfl⟩
theorem Mq{b c}{vs:List Value}{v}(hc:c.callee = .builtin b)(hv:c.args.map (Af e')=vs.toArray)(hx:V1 R x v)(h:∀ty cs Y Z,wpS P Y (builtin b c.argTypes ty cs vs.toArray) Z (fun nx Z'=>nx = .value v/\Z'=Z)):Tc P (.call c) R e' x:=⟨v,hx,fun Y Z dd ty pos af g=>by
 obtain⟨cl,az,ts⟩:=c;simp only at hc;subst hc;obtain⟨cs,a⟩:=Xc (b:=b) (az:=az) (ts:=ts) (dd:=dd) (ty:=ty) (pos:=pos) (af:=af) (g:=g) (Af e');simp only at hv h;rw[a,hv];exact h ty cs Y Z⟩
end
end
section
section
variable{P:Program}{R:XR}{e:Tr CV}{e':Env}{m m':Mem}{x:CV}
theorem Aom(o:Option Nat)(d:Nat):xOr o d=o.getD d:=by cases o<;>rfl
def BV(v:Option Value)(n:Option Nat):Prop:=(v=none/\n=none)∨∃k q,v=some (.int k (q:Nat))/\n=some q
theorem Azf(he:EnvR R e e')(hg:Pe R)(o:Option Operand){r:Option Nat}(h:(xBnd o).run e=some r):BV (o.map (Af e')) r:=by
 cases o with
 | none=>cases h;exact .inl ⟨rfl,rfl⟩
 | some a =>
  have ha:=Dy he hg a;have h':(match (rdK a).run e with | .i _ (.ofNat n)=>some (some n)|_=>none)=some r:=h;split at h'
  ·rename_i k n hu;cases h';rw[hu]at ha;exact .inr ⟨k,n,by rw[Aoy,Og ha];rfl,rfl⟩
  ·cases h'
theorem Qu{k:IntKind}{q y:Nat}{code:BoundsCode}(h:q<=y):Instr.sliceBound (.int k (q:Nat)) y code=pure q:=by show (if 0<=(q:Int)/\(q:Int)<=y then pure (q:Int).toNat else _)=_;rw[if_pos (by omega)];simp
theorem Afp{b:Bool}{ln cp:Nat}{lo hi mx:Option Value}{l h q:Option Nat}(hlo:BV lo l)(hhi:BV hi h)(hmx:BV mx q)(hq:q.isSome=true->h.isSome=true)(h1:l.getD 0<=h.getD ln)(h2:h.getD ln<=q.getD cp)(h3:q.getD cp<=cp) :
  Instr.sliceBounds b ln cp lo hi mx=pure (l.getD 0,h.getD ln,q.getD cp):=by
 rcases hlo with⟨rfl,rfl⟩|⟨a,c,rfl,rfl⟩<;>rcases hhi with⟨rfl,rfl⟩|⟨k2,q2,rfl,rfl⟩<;>rcases hmx with⟨rfl,rfl⟩|⟨k3,q3,rfl,rfl⟩ <;>
  simp only[Amz,Option.getD_none,Bms,Awr,Aiw,imp_false,not_true]at h1 h2 h3 hq ⊢<;>unfold Instr.sliceBounds<;>simp only[Bms,Awr]
 ·rfl
 ·simp only[pure_bind,Qu h2]
 ·simp only[pure_bind,Qu h3,Qu h2]
 ·simp only[pure_bind,Qu h1]
 ·simp only[pure_bind,Qu h2,Qu h1]
 ·simp only[pure_bind,Qu h3,Qu h2,Qu h1]
def Aux(P:Program)(o:Op):Prop:=∀R e e' m x k,EnvR R e e'->Pe R->(opK P o).run e m = .rd x k ->
 ∀R9 m8 Y Z Z9,MemX R9 m8 Y Z Z9->m8.obj k=m.obj k->R9 k=R k->∃v,V1 R9 x v/\∀dd ty pos af g,wpS P Y (execOp (Af e') ⟨dd,o,ty,pos,af,g⟩) Z (fun nx Z'=>nx = .value v/\Z'=Z)
theorem Aen{x y k j}(h:OR.rd x k = .rd y j):x=y/\k=j:=by cases h;exact⟨rfl,rfl⟩
theorem MemR.roomC{Y:Ro}{Z Z9:Own}{L:List (Nat×Nat×Res)}{G:Own}{m8:Mem}(hm:MemR R m8 Y Z Z9 L G){n k c q b d:Nat}{kn:Bool}(h:xRoomC m n k kn c q=true)(hk:m8.obj k=m.obj k)(hR:R k=some (b,d)):q<=Yv kn c d:=by
 unfold xRoomC at h;cases kn with
 | true=>exact lZ7 h
 | false =>
  simp only at h;split at h
  ·rename_i n' l ho;rw[<-hk]at ho;split at h
   ·rename_i hn;have hn:=Hr hn;subst hn;have h:=lZ7 h;rw[Ia]at h;replace h:(c+q)*n<=l.length:=h;have key:∀{o:Res},ObjR R d (.grow n l) o->l.length<=d*n/\0<n:=fun {o} ho=>by
     cases ho with
     | grow h1 g j h4=>have:=h1.len;exact⟨by omega,j⟩
    have g:l.length<=d*n/\0<n:=by
     unfold Mem.obj at ho;split at ho
     ·rename_i o hg;cases ho;obtain⟨p,t,r,i,a,u,e,v⟩:=hm.at hg (by simp);rw[hR]at a;cases a;exact key e
     ·rename_i o hg;cases ho;obtain⟨p,t,y,a,u,f,e⟩:=hm.ro k _ hg;rw[hR]at a;cases a;exact key e
     ·cases ho
    have j:c+q<=d:=Nat.le_of_mul_le_mul_right (Tj h g.1) g.2;show q<=d-c;omega
   ·cases h
  ·cases h
theorem Bwh{a b:Nat}(h:a≠b):Nat.beq a b=false:=by
 cases hx:Nat.beq a b with
 | false=>rfl
 | true=>exact absurd (Hr hx) h
def SlP(R:XR)(n k off ln:Nat)(kn:Bool)(c l:Nat)(h q:Option Nat)(x:CV)(b d:Nat):Prop :=
 h.getD ln<=q.getD (Yv kn c d)/\q.getD (Yv kn c d)<=Yv kn c d /\
  V1 R x (.slice (some (if q.getD (Yv kn c d)=l then ⟨b,off,none⟩ else ⟨b,off+l*n,none⟩)) (h.getD ln-l) (q.getD (Yv kn c d)-l))
theorem Arl{n k off ln c l:Nat}{kn:Bool}{h q:Option Nat}{y:OR}(hx:xSliceM n k off ln kn c l h q m=y)(hy:y ≠ .bad):(q.isSome=true->h.isSome=true)/\l<=h.getD ln /\
    ((∃x, y = .v x m /\ ∀{R : XR} {b d}, R k=some (b, d) -> SlP R n k off ln kn c l h q x b d) ∨
     (∃x, y = .rd x k /\ ∀{R : XR} {m8 : Mem} {Y Z Z9 L G b d}, MemR R m8 Y Z Z9 L G -> m8.obj k=m.obj k -> R k=some (b, d) -> SlP R n k off ln kn c l h q x b d)) := by
  unfold xSliceM at hx;have val:∀{R:XR} {q b d:Nat} {h':Nat},R k=some (b,d)->V1 R (.sl k (match Nat.beq q l with|true=>off|false=>Nat.add off (Nat.mul l n)) (Nat.sub h' l) true (Nat.sub q l)) (.slice (some (if q=l then ⟨b,off,none⟩ else ⟨b,off+l*n,none⟩)) (h'-l) (q-l)):=fun {R q b d h'} hR=>by
    by_cases hq:q=l
    · subst hq
      rw[if_pos rfl];have:Nat.beq q q=true:=by simp
      rw[this];exact .slK hR .nil
    · rw[if_neg hq,Bwh hq]
      exact .slK hR .nil
  cases q with
  | some q =>
    cases h with
    | none=>exact absurd hx.symm hy
    | some h =>
      simp only at hx;split at hx
      · rename_i a e f
        have a:=lZ7 a;have e:=lZ7 e;refine⟨fun _=>rfl,a,?_⟩;split at hx
        · refine .inl ⟨_,hx.symm,fun {R b d} hR=>⟨e,lZ7 f,val hR⟩⟩
        · refine .inr ⟨_,hx.symm,fun {R m8 Y Z Z9 L G b d} hm hk hR=>⟨e,hm.roomC f hk hR,val hR⟩⟩
      · exact absurd hx.symm hy
  | none =>
    simp only[Aom]at hx;split at hx
    · exact absurd hx.symm hy
    · rename_i a
      have a:=lZ7 a;split at hx
      · rename_i e
        have e:=lZ7 e;exact⟨fun h=>(by cases h),a,.inl ⟨_,hx.symm,fun {R b d} hR=>⟨e,Ib _,val hR⟩⟩⟩
      · exact absurd hx.symm hy
    · rename_i a
      have a:=lZ7 a;split at hx
      · rename_i e _
        refine⟨fun h=>(by cases h),a,.inr ⟨_,hx.symm,fun {R m8 Y Z Z9 L G b d} hm hk hR=>⟨hm.roomC e hk hR,Ib _,?_⟩⟩⟩;show V1 R _ (.slice (some (if d-c=0 then ⟨b,off,none⟩ else ⟨b,off+0*n,none⟩)) (h.getD ln-0) (d-c-0));rw[Awx,Abk,ite_self];exact .slU hR .nil
      · rename_i l0 e _
        split at hx
        · rename_i f
          refine⟨fun h=>(by cases h),a,.inr ⟨_,hx.symm,fun {R m8 Y Z Z9 L G b d} hm hk hR=>⟨hm.roomC e hk hR,Ib _,?_⟩⟩⟩;have f:l0+2<=d-c:=hm.roomC f hk hR;show V1 R _ (.slice (some (if d-c=l0+1 then ⟨b,off,none⟩ else ⟨b,off+(l0+1)*n,none⟩)) (h.getD ln-(l0+1)) (d-c-(l0+1)));rw[if_neg (by omega)];have:d-c-(l0+1)=d-(c+(l0+1)):=by omega
          rw[this];exact .slU hR .nil
        · exact absurd hx.symm hy
      · exact absurd hx.symm hy
theorem Ahk{n k c q:Nat}(h:xRoomC m n k false c q=true):∃ob,m.obj k=some ob/\ob ≠ .dead:=by
 unfold xRoomC at h;simp only at h;split at h
 ·rename_i ho;exact⟨_,ho,by simp⟩
 ·cases h
theorem Bbs{n k off ln c l j:Nat}{kn:Bool}{h q:Option Nat}{x:CV}(hx:xSliceM n k off ln kn c l h q m = .rd x j):∃ob,m.obj j=some ob/\ob ≠ .dead:=by
 unfold xSliceM at hx;cases q with
 | some q =>
  cases h with
  | none=>cases hx
  | some h =>
   simp only at hx;split at hx
   ·rename_i h3;split at hx
    ·cases hx
    ·cases hx;exact Ahk h3
   ·cases hx
 | none =>
  simp only at hx;split at hx
  ·cases hx
  ·split at hx<;>cases hx
  ·split at hx
   ·rename_i h3 _;cases hx;exact Ahk h3
   ·rename_i h3 _;split at hx
    ·cases hx;exact Ahk h3
    ·cases hx
   ·cases hx
theorem Asg{t el:TypeId}{n k off ln c l0:Nat}{kn:Bool}{lo hi mx:Option Value}{l h q:Option Nat}{x:CV}{b d:Nat}{Y:Ro}{Z:Own}{Q:Value->Own->Prop}(hT:P.underlying t=some (.slice el))(hn:xSzT P el=some n)
  (hlo:BV lo l) (hhi:BV hi h) (hmx:BV mx q) (hq:q.isSome=true->h.isSome=true) (h1:l.getD 0<=h.getD ln) (hl:l0=l.getD 0) (hs:SlP R n k off ln kn c l0 h q x b d) (hQ:Q (.slice (some (if q.getD (Yv kn c d)=l0 then ⟨b,off,none⟩ else ⟨b,off+l0*n,none⟩)) (h.getD ln-l0) (q.getD (Yv kn c d)-l0)) Z) :
  wpS P Y (Instr.sliceAt t (.slice (some ⟨b,off,none⟩) ln (Yv kn c d)) lo hi mx) Z Q:=by
 subst hl;obtain⟨e,f,g⟩:=hs;show wpS _ Y ((underlying t).bind _) Z _;rw[Ad];refine Az hT ?_;show wpS _ Y ((underlying t).bind _) Z _;rw[Ad];refine Az hT ?_;simp only[];rw[Afp hlo hhi hmx hq h1 e f];show wpS _ Y ((sizeOf el).bind _) Z _;rw[Ad];refine Dx (Od hn) ?_;have a:(if q.getD (Yv kn c d)=l.getD 0 then some (⟨b,off,none⟩:Addr) else (some (⟨b,off,none⟩:Addr)).map (·.add (l.getD 0*n)))=some (if q.getD (Yv kn c d)=l.getD 0 then ⟨b,off,none⟩ else ⟨b,off+l.getD 0*n,none⟩):=by
  by_cases hq:q.getD (Yv kn c d)=l.getD 0
  ·rw[if_pos hq,if_pos hq]
  ·rw[if_neg hq,if_neg hq,Aoy,Ld]
 rw[a];exact hQ
theorem Yb{t:TypeId}{a:Operand}{lo hi mx:Option Operand}:∀dd ty pos af g,execOp (Af e') ⟨dd,.slice t a lo hi mx,ty,pos,af,g⟩=(Instr.sliceAt t (Af e' a) (lo.map (Af e')) (hi.map (Af e')) (mx.map (Af e'))).bind fun v=>Sem.pure (Next.value v):=fun _ _ _ _ _=>rfl
theorem Aii{t:TypeId}{a:Operand}{lo hi mx:Option Operand}{y:OR}(he:EnvR R e e')(hg:Pe R)(h:(opK P (.slice t a lo hi mx)).run e m=y)(hy:y ≠ .bad) :
  (∃el n k off ln kn c l0 l h q,P.underlying t=some (.slice el)/\xSzT P el=some n/\V1 R (.sl k off ln kn c) (Af e' a)/\BV (lo.map (Af e')) l/\BV (hi.map (Af e')) h/\BV (mx.map (Af e')) q/\l0=l.getD 0/\xSliceM n k off ln kn c l0 h q m=y)∨∃x,y = .v x m/\Tc P (.slice t a lo hi mx) R e' x:=by
 have ha:=Dy he hg a;have hlo:=fun {r}=>Azf he hg lo (r:=r);have hhi:=fun {r}=>Azf he hg hi (r:=r);have hmx:=fun {r}=>Azf he hg mx (r:=r);unfold opK at h;simp only at h;split at h
 ·rename_i el hT;split at h
  ·rename_i n lo1 hi1 mx1 hn e1 e2 e3;rw[e1]at hlo;rw[e2]at hhi;rw[e3]at hmx;have h':(match (rdK a).run e with
    | .sl k off ln kn c=>match lo1 e,hi1 e,mx1 e with
     | some l,some h,some q=>xSliceM n k off ln kn c (xOr l 0) h q m
     | _,_,_=>.bad
    | .sn=>match lo1 e,hi1 e,mx1 e with
     | some l,some h,some q=>match Nat.beq (xOr l 0) 0,Nat.beq (xOr h 0) 0,Nat.beq (xOr q 0) 0,xMxOk h q with
      | true,true,true,true=>OR.v .sn m
      | _,_,_,_=>.bad
     | _,_,_=>.bad
    | _=>.bad)=y:=h
   split at h'
   ·rename_i k off ln kn c hu;split at h'
    ·rename_i l h0 q g1 g2 g3;rw[hu]at ha;exact .inl ⟨el,n,k,off,ln,kn,c,_,l,h0,q,hT,hn,ha,hlo g1,hhi g2,hmx g3,Aom ..,h'⟩
    ·exact absurd h'.symm hy
   ·rename_i hu;split at h'
    ·rename_i l h0 q g1 g2 g3;split at h'
     ·rename_i d f g q4;refine .inr ⟨_,h'.symm,?_⟩;rw[hu]at ha;have g:=Hr g;rw[Aom]at g;have i:q.isSome=true->h0.isSome=true:=fun hq=>by
       cases q with
       | none=>cases hq
       | some q =>
        cases h0 with
        | none=>cases q4
        | some h=>rfl
      have d:=Hr d;have f:=Hr f;rw[Aom]at d f;refine Jc _ Yb (.sn .nil) fun Y Z=>?_;rw[Ayp ha];show wpS _ Y ((underlying t).bind _) Z _;rw[Ad];refine Az hT ?_;show wpS _ Y ((underlying t).bind _) Z _;rw[Ad];refine Az hT ?_;simp only[];rw[Afp (hlo g1) (hhi g2) (hmx g3) i (by rw[d];exact Hn _) (by rw[f];exact Hn _) (by rw[g];exact Ib _)];show wpS _ Y ((sizeOf el).bind _) Z _;rw[Ad];refine Dx (Od hn) ?_;rw[d,f,g];exact⟨rfl,rfl⟩
     ·exact absurd h'.symm hy
    ·exact absurd h'.symm hy
   ·exact absurd h'.symm hy
  ·exact absurd h.symm hy
 ·rename_i hT;split at h
  ·rename_i lo1 hi1 e1 e2;rw[e1]at hlo;rw[e2]at hhi;have h':(match (rdK a).run e,lo1 e,hi1 e with
    | .s b,some l,some h=>match xOr h (xLen b),xOr l 0 with
     | h,l=>match Nat.ble h (xLen b),Nat.ble l h with
      | true,true=>match xTkn (Nat.sub h l) (xDrp l b) with|some r=>OR.v (.s r) m|none=>.bad
      | _,_=>.bad
    | _,_,_=>.bad)=y:=h
   split at h'
   ·rename_i b l h0 hu g1 g2;simp only[Aom,Ia,Abd]at h';split at h'
    ·rename_i d f;have d:=lZ7 d;have f:=lZ7 f;split at h'
     ·rename_i r hr;refine .inr ⟨_,h'.symm,?_⟩;obtain⟨_,rfl⟩:=Abh _ _ _ hr;rw[hu]at ha;refine Jc _ Yb (.s _ .nil) fun Y Z=>?_;rw[Zs ha];show wpS _ Y ((underlying t).bind _) Z _;rw[Ad];refine Az hT ?_;show wpS _ Y ((underlying t).bind _) Z _;rw[Ad];refine Az hT ?_;have hsz:(⟨b.toArray⟩:ByteArray).size=b.length:=rfl;simp only[hsz,Option.map_none,Awr,Aiw,if_false];rw[Afp (q:=none) (hlo g1) (hhi g2) (.inl ⟨rfl,rfl⟩) (fun h=>(by cases h)) f d (Ib _)];refine⟨?_,rfl⟩;show Value.string ((⟨b.toArray⟩:ByteArray).extract (l.getD 0) (h0.getD b.length))=_;congr 1;apply ByteArray.ext;rw[ByteArray.data_extract];simp[Bly]
     ·exact absurd h'.symm hy
    ·exact absurd h'.symm hy
   ·exact absurd h'.symm hy
  ·exact absurd h.symm hy
 ·exact absurd h.symm hy
theorem Ban(t:TypeId)(a:Operand)(lo hi mx:Option Operand):Ix P (.slice t a lo hi mx):=fun R e e' m x m' he hg h=>by
 rcases Aii he hg h (by simp) with⟨el,n,k,off,ln,kn,c,D,l,C,q,hT,hn,ha,p,u,v,w,y⟩|⟨x',f,i⟩
 ·obtain⟨z,B,j⟩:=Arl y (by simp);rcases j with⟨x',b,j⟩|⟨x',b,_⟩
  ·obtain⟨rfl,rfl⟩:=Hs b;obtain⟨bl,d,f,i⟩:=Zu ha;have hs:=j f;refine .inl ⟨rfl,_,hs.2.2,fun Y Z dd ty pos af g=>?_⟩;rw[Yb,Ad,i];subst w;exact Asg hT hn p u v z B rfl hs ⟨rfl,rfl⟩
  ·cases b
 ·obtain⟨rfl,rfl⟩:=Hs f;exact .inl ⟨rfl,i⟩
theorem Awe(t:TypeId)(a:Operand)(lo hi mx:Option Operand):Aux P (.slice t a lo hi mx):=fun R e e' m x k he hg h R9 m8 Y Z Z9 hm ho z=>by
 rcases Aii he hg h (by simp) with⟨el,n,k',off,ln,kn,c,E,l,D,q,hT,hn,ha,p,u,v,w,y⟩|⟨x',f,j⟩
 ·obtain⟨B,C,i⟩:=Arl y (by simp);rcases i with⟨x',b,_⟩|⟨x',b,i⟩
  ·cases b
  ·obtain⟨rfl,rfl⟩:=Aen b;obtain⟨bl,d,f,j⟩:=Zu ha;obtain⟨L,G,hm⟩:=hm;have hs:=i hm ho (z.trans f);refine⟨_,hs.2.2,fun dd ty pos af g=>?_⟩;rw[Yb,Ad,j];subst w;exact Asg hT hn p u v B C rfl hs ⟨rfl,rfl⟩
 ·cases f
theorem Bic{t:TypeId}{l:List CV}{v:CV}(h:(partK P t).run l=some v):(∃n r,xAggT P t=some true/\xSzT P t=some n/\xTkn n l=some r/\v = .g r)∨(xAggT P t=some false/\∃r,l=v::r):=by
 unfold partK at h;split at h
 ·rename_i ha;split at h
  ·rename_i n hn;simp only at h;split at h
   ·rename_i r hr;cases h;exact .inl ⟨n,r,ha,hn,hr,rfl⟩
   ·cases h
  ·cases h
 ·rename_i ha;simp only at h;split at h
  ·cases h;exact .inr ⟨ha,_,rfl⟩
  ·cases h
 ·cases h
theorem Bak(t:TypeId)(a:Operand)(i:Nat):Ix P (.field t a i):=fun R e e' m x m' he hg h=>by
 have ha:=Dy he hg a;unfold opK at h;simp only at h;split at h
 ·rename_i fs hT;split at h
  ·rename_i f hf;have h':(match (rdK a).run e with
    | .g l=>match (partK P f.type).run (xDrp f.offset l) with|some v=>OR.v v m|none=>.bad
    | _=>.bad) = .v x m':=h
   split at h'
   ·rename_i l hu;cases hp:(partK P f.type).run (xDrp f.offset l) with
    | none=>rw[hp]at h';cases h'
    | some v =>
     rw[hp]at h';obtain⟨rfl,rfl⟩:=Hs h';rw[hu]at ha;obtain⟨l',j,k⟩:=Afe ha;rw[Abd]at hp;have hf':fs[i]?=some f:=by rw[<-Bhg];exact hf
     have exe:∀dd ty pos af g,execOp (Af e') ⟨dd,.field t a i,ty,pos,af,g⟩=(Instr.field t (Af e' a) i).bind fun v=>Sem.pure (Next.value v):=fun _ _ _ _ _=>rfl;rcases Bic hp with⟨n,r,b,c,q,rfl⟩|⟨b,r,c⟩
     ·refine .inl ⟨rfl,Jc (v:=.agg ((l'.drop f.offset).take n).toArray) _ exe (.g ?_ .nil) fun Y Z=>?_⟩
      ·obtain⟨_,rfl⟩:=Abh _ _ _ q;exact(j.drop _).take _
      rw[k];show wpS _ Y ((underlying t).bind _) Z _;rw[Ad];refine Az hT ?_;simp only[hf'];show wpS _ Y (part f.type l'.toArray f.offset) Z _;exact Aru (Aad b) (Od c) ⟨rfl,rfl⟩
     ·obtain⟨w,p,u⟩:=(j.drop f.offset).at (d:=0) (v:=v) (by rw[c];rfl);refine .inl ⟨rfl,Jc (v:=w) _ exe u fun Y Z=>?_⟩;rw[k];show wpS _ Y ((underlying t).bind _) Z _;rw[Ad];refine Az hT ?_;simp only[hf'];show wpS _ Y (part f.type l'.toArray f.offset) Z _;refine Qr (Aad b) ?_ ⟨rfl,rfl⟩;rw[Jw];rw[Att,Abk]at p;exact p
   ·cases h'
  ·cases h
 ·cases h
end
end
section
section
variable{P:Program}{R:XR}{e:Tr CV}{e':Env}{m m':Mem}{x:CV}
theorem VR.set{l l2 c o vs ws}(h:VR R l c)(hs:xSetL o vs l=some l2)(hv:VR R vs ws):o+ws.length<=c.length/\VR R l2 (over c o ws):=by obtain⟨a,b⟩:=Aon o vs l l2 hs;have hl:=h.len;have hw:=hv.len;rw[hw,hl]at a;refine⟨a,?_⟩;rw[Qe ws c o a,b,hw];exact(h.take o).app (hv.app (h.drop _))
theorem Ads(he:EnvR R e e')(hg:Pe R){off place:Nat->Option (Nat×Nat)}(hp:∀i o z,off i=some (o,z)->place i=some (o,z)):∀(ps:List (Nat×Operand)) (l l2:List CV) (c:List Value),(fillK off ps).run l e=some l2->VR R l c ->
  ∃c2,Instr.fill place c.toArray (ps.map fun p=>(p.1,Af e' p.2))=some c2.toArray/\VR R l2 c2
 | [],l,l2,c,h,hv=>by cases h;exact⟨c,rfl,hv⟩
 | (i,a)::ps,l,l2,c,h,hv=>by
  unfold fillK at h;split at h
  ·cases h
  ·rename_i o z ho;simp only at h;split at h
   ·cases h
   ·rename_i vs hc;split at h
    ·cases h
    ·rename_i hz;split at h
     ·rename_i l3 hs;have hz:=Hr hz;rw[Ia]at hz;have b:=(Dy he hg a).cells hc;obtain⟨d,f⟩:=hv.set hs b;have k:=b.len;obtain⟨c2,g,j⟩:=Ads he hg hp ps l3 l2 _ h f;refine⟨c2,?_,j⟩;rw[Ic,Be (cs:=(Af e' a).cells.toList) (by simp) (by rw[hp i o z ho,<-k,hz]) d];exact g
     ·cases h
def sizesL(P:Program):List Field->List Nat
 | []=>[]
 | f::fs=>((xSzT P f.type).getD 0)::sizesL P fs
theorem Avd:∀{fs:List Field},allSz P fs=true->Wu P fs (sizesL P fs)
 | [],_=>trivial
 | f::fs,h=>by
  unfold allSz at h;split at h
  ·rename_i n hn;refine⟨?_,Avd h⟩;rw[hn];exact Od hn
  ·cases h
theorem Bew:∀(fs:List Field) (i o z:Nat),fldAt P fs i=some (o,z)->(Gs fs (sizesL P fs))[i]?=some (o,z)
 | [],i,o,z,h=>by simp[fldAt]at h
 | f::fs,0,o,z,h=>by
  unfold fldAt at h;simp only[Bhe]at h;simp only[sizesL,Gs,Bhe];cases hn:xSzT P f.type with
  | none=>rw[hn]at h;cases h
  | some n=>rw[hn]at h;cases h;rfl
 | f::fs,i+1,o,z,h=>by
  simp only[sizesL,Gs,Xm];refine Bew fs i o z ?_;unfold fldAt at h ⊢;rw[Xm]at h;exact h
theorem Bah(t:TypeId)(ps:Array (Nat×Operand)):Ix P (.build t ps):=fun R e e' m x m' he hg h=>by
 have hps:ps=ps.toList.toArray:=by simp
 unfold opK at h;simp only at h;split at h
 ·rename_i z fs hz hT;split at h
  ·rename_i c hsz hc;have h':(match (fillK (fldAt P fs.toList) ps.toList).run c e with|some l=>OR.v (.g l) m|none=>.bad) = .v x m':=h;split at h'
   ·rename_i l hf;obtain⟨rfl,rfl⟩:=Hs h';obtain⟨v,hv,rfl⟩:=Rf hz;have hvc:=(vOf R v).cells hc;obtain⟨d,a,b⟩:=Ads he hg (place:=((Gs fs.toList (sizesL P fs.toList))[·]?)) (Bew fs.toList) ps.toList c l _ hf hvc;refine .inl ⟨rfl,Wr (Y:=fun _=>none) (.g b .nil) fun Y ty=>?_⟩;rw[hps];exact Dn (fs:=fs.toList) (zc:=v.cells.toList) (by rw[Adz];exact hT) hv (by simp) (Avd hsz) rfl a
   ·cases h'
  ·cases h
 ·rename_i z ln el hz hT;split at h
  ·rename_i n c hn hc;have h':(match (fillK (fun i=>some (Nat.mul i n,n)) ps.toList).run c e with|some l=>OR.v (.g l) m|none=>.bad) = .v x m':=h;split at h'
   ·rename_i l hf;obtain⟨rfl,rfl⟩:=Hs h';obtain⟨v,hv,rfl⟩:=Rf hz;have hvc:=(vOf R v).cells hc;obtain⟨d,a,b⟩:=Ads he hg (place:=fun i=>some (i*n,n)) (fun i o z h=>h) ps.toList c l _ hf hvc;refine .inl ⟨rfl,Jc (Instr.build t (ps.map fun (p:Nat×Operand)=>(p.1,Af e' p.2))) (fun _ _ _ _ _=>rfl) (.g b .nil) fun Y Z=>?_⟩;unfold Instr.build;show wpS P Y ((zeroValue t).bind _) Z _;rw[Ad];refine Jz hv ?_;show wpS P Y ((underlying t).bind _) Z _;rw[Ad];refine Az hT ?_;dsimp only;show wpS P Y ((sizeOf el).bind _) Z _;rw[Ad];refine Dx (Od hn) ?_;have f:(ps.map fun (p:Nat×Operand)=>(p.1,Af e' p.2)).toList=ps.toList.map fun p=>(p.1,Af e' p.2):=by simp
    have j:v.cells=v.cells.toList.toArray:=by simp
    rw[f,j,a];exact⟨rfl,rfl⟩
   ·cases h'
  ·cases h
 ·cases h
theorem Aoq(n:Nat):Bfp n (0,0):=fun i _=>by simp
theorem Asn{o el l vs}(s:Sem Value)(mk:Nat->Value)(hs:∀dd ty pos af g,execOp (Af e') ⟨dd,o,ty,pos,af,g⟩=s.bind fun v=>Sem.pure (Next.value v))(h:∀Y Z Q,(∀r,Q (mk r) ((r,.obj (.cells vs.toArray el (0,0)))::Z))->wpS P Y s Z Q)(hv:VR R l vs)(hx:∀R' r,R' m.nx=some (r,0)->V1 R' x (mk r)):Bfn P o R e' m x (m.add (.cells l)) :=
 Ava (c:=0) s mk hs h (fun R' hR=>.cells (hv.mono hR) (Aoq _)) hx
theorem Bag(t:TypeId):Ix P (.alloc t):=fun R e e' m x m' he hg h=>by
 unfold opK at h;simp only at h;split at h
 ·rename_i z hz;split at h
  ·rename_i c hc;obtain⟨rfl,rfl⟩:=Hs h;obtain⟨v,hv,rfl⟩:=Rf hz;refine .inr (Asn (vs:=v.cells.toList) (el:=t) (Instr.alloc t true (.tuple #[])) (fun r=>.pointer (some ⟨r,0,none⟩)) (fun _ _ _ _ _=>rfl) (fun Y Z Q hq=>?_) ((vOf R v).cells hc) fun R' r hr=>.p hr .nil);show wpS P Y ((zeroValue t).bind _) Z _;rw[Ad];refine Jz hv ?_;show wpS P Y ((newVar t v).bind _) Z _;rw[Ad];refine Ik fun r=>?_;have:=hq r;rw[Adz]at this;exact this
  ·cases h
 ·cases h
theorem Blj(t:TypeId)(a:Operand):Ix P (.box t a):=fun R e e' m x m' he hg h=>by
 have ha:=Dy he hg a;have h':(match ((rdK a).run e).cells with|some c=>OR.v (.p m.nx 0) (m.add (.cells c))|none=>.bad) = .v x m':=h;split at h'
 ·rename_i c hc;obtain⟨rfl,rfl⟩:=Hs h';refine .inr (Asn (vs:=(Af e' a).cells.toList) (el:=t) (Instr.box t (Af e' a)) (fun r=>.pointer (some ⟨r,0,none⟩)) (fun _ _ _ _ _=>rfl) (fun Y Z Q hq=>?_) (ha.cells hc) fun R' r hr=>.p hr .nil);show wpS P Y ((newVar t (Af e' a)).bind _) Z _;rw[Ad];refine Ik fun r=>?_;have:=hq r;rw[Adz]at this;exact this
 ·cases h'
theorem Atl(t:TypeId):Ix P (.makeMap t none):=fun R e e' m x m' he hg h=>by
 obtain⟨rfl,rfl⟩:=Hs h;refine .inr (Ava (c:=0) (ob:=.map ([]:List MapEntry).toArray 0) (Instr.makeMap t none) (fun r=>.map (some r)) (fun _ _ _ _ _=>rfl) (fun Y Z Q hq=>?_) (fun R' hR=>.map .nil .nil ⟨fun i e h=>(by cases h),rfl⟩) fun R' r hr=>.m hr .nil);show wpS P Y ((newObj (.map #[] 0)).bind _) Z _;rw[Ad];exact .inl ⟨rfl,fun r=>hq r⟩
theorem Aos(t:TypeId)(s:Operand):Ix P (.makeChan t s):=fun R e e' m x m' he hg h=>by
 have hs:=Dy he hg s;unfold opK at h;simp only at h;split at h
 ·rename_i dir el hT;split at h
  ·rename_i ti hi;have h':(match (rdK s).run e with
    | .i _ (.ofNat 0)=>OR.v (.c m.nx) (m.add .chan)
    | .i _ (.ofNat (n+1))=>match Nat.ble ti.bytes 4096,Nat.ble (n+1) 1000 with|true,true=>.v (.c m.nx) (m.add (.crowd (n+1) []))|_,_=>.bad
    | _=>.bad) = .v x m':=h
   split at h'
   ·rename_i k hu;obtain⟨rfl,rfl⟩:=Hs h';rw[hu]at hs;refine .inr ⟨.add m .chan,fun _=>Atu _,fun Y Z Z9 dd ty pos af g hm=>?_⟩;obtain⟨L,G,hm⟩:=hm;show wpS P Y ((Instr.makeChan t (Af e' s)).bind fun v=>Sem.pure (Next.value v)) Z _;rw[Ad,Og hs];show wpS P Y ((underlying t).bind _) Z _;rw[Ad];refine Az hT ?_;show wpS P Y ((typeInfo el).bind _) Z _;rw[Ad];refine Gj hi ?_;have hmx:¬((0:Int)<0∨(0:Int)>IntKind.i64.max∨(ti.bytes:Int)*0>2^48-112):=by
     have:IntKind.i64.max=9223372036854775807:=by simp[IntKind.max,IntKind.signed,IntKind.bits]
     omega
    show wpS P Y (if ((0:Int)<0∨(0:Int)>IntKind.i64.max∨(ti.bytes:Int)*0>2^48-112) then _ else _) Z _;rw[if_neg hmx];show wpS P Y ((newObj (.chan 0 #[] false 0 0 false)).bind _) Z _;rw[Ad];refine .inr (.inl ⟨rfl,fun r=>?_⟩);exact⟨R.add m.nx (r,0),_,hm.fresh _,.inl rfl,.c XR.add_same .nil,hm.add .chan⟩
   ·rename_i k n hu;split at h'
    ·rename_i a b;have a:=lZ7 a;have b:=lZ7 b;obtain⟨rfl,rfl⟩:=Hs h';rw[hu]at hs;refine .inr ⟨.add m _,fun _=>Atu _,fun Y Z Z9 dd ty pos af g hm=>?_⟩;obtain⟨L,G,hm⟩:=hm;show wpS P Y ((Instr.makeChan t (Af e' s)).bind fun v=>Sem.pure (Next.value v)) Z _;rw[Ad,Og hs];show wpS P Y ((underlying t).bind _) Z _;rw[Ad];refine Az hT ?_;show wpS P Y ((typeInfo el).bind _) Z _;rw[Ad];refine Gj hi ?_;have hmx:¬(((n+1:Nat):Int)<0∨((n+1:Nat):Int)>IntKind.i64.max∨(ti.bytes:Int)*((n+1:Nat):Int)>2^48-112):=by
      have d:IntKind.i64.max=9223372036854775807:=by simp[IntKind.max,IntKind.signed,IntKind.bits]
      have j:ti.bytes*(n+1)<=4096*1000:=Anc a b;have f:(ti.bytes:Int)*((n+1:Nat):Int)=((ti.bytes*(n+1):Nat):Int):=by push_cast;rfl
      rw[d,f];omega
     show wpS P Y (if (((n+1:Nat):Int)<0∨((n+1:Nat):Int)>IntKind.i64.max∨(ti.bytes:Int)*((n+1:Nat):Int)>2^48-112) then _ else _) Z _;rw[if_neg hmx];show wpS P Y ((newObj (.chan (n+1) #[] false 0 0 false)).bind _) Z _;rw[Ad];refine .inr (.inr ⟨n+1,rfl,fun r=>?_⟩);exact⟨R.add m.nx (r,0),_,hm.fresh _,.inl rfl,.c XR.add_same .nil,hm.add (.crowd (Rs:=[]) trivial)⟩
    ·cases h'
   ·cases h'
  ·cases h
 ·cases h
end
end
section
section
variable{P:Program}{R:XR}{e:Tr CV}{e':Env}{m m':Mem}{x:CV}{Y:Ro}{Z Z9:Own}{L:List (Nat×Nat×Res)}{G:Own}{t:TypeId}
theorem Bfa{k off n r}(h:m.read k off n=some r):∃l,m.row k=some l/\n<=(l.drop off).length/\r=(l.drop off).take n:=by
 unfold Mem.read at h;cases hr:m.row k with
 | none=>rw[hr]at h;cases h
 | some l =>
  rw[hr]at h;simp only[Abd]at h;obtain⟨b,c⟩:=Abh _ _ _ h;exact⟨l,rfl,b,c⟩
theorem MemR.cells(hm:MemR R m Y Z Z9 L G){k off n l r}(hk:m.row k=some l)(hn:n<=(l.drop off).length)(hr:r=(l.drop off).take n):
  ∃(b c:Nat) (vs:List Value),R k=some (b,c)/\VR R r vs/\vs.length=n/\(∀Q:Array Value->Own->Prop,Q vs.toArray Z->wpS P Y (loadCells ⟨b,off,none⟩ n) Z Q)/\∀v,vs=[v]->∀Q:Value->Own->Prop,Q v Z->wpS P Y (load ⟨b,off,none⟩) Z Q:=by
 obtain⟨b,c,l',rest,t,fz,h,d,e⟩:=hm.row hk;have hv:VR R r ((l'.drop off).take n):=by rw[hr];exact(e.drop off).take n
 have g:((l'.drop off).take n).length=n:=by
  have:=(e.drop off).len;rw[Lo];omega
 have f:∀j v,((l'.drop off).take n)[j]?=some v->Gy (.cells (l'++rest).toArray t fz) (off+j)=some v:=fun j v hj=>by
  have hj':=(lZ1.1 hj).1;rw[Zc (by omega),Att]at hj;simp only[Gy,Jw];rw[Aiv (lZ1.1 hj).1];exact hj
 refine⟨b,c,_,h,hv,g,fun Q hq=>?_,fun v i Q hq=>?_⟩
 ·show wpS P Y (loadCellsFrom ⟨b,off,none⟩ 0 n #[]) Z Q;have:=Ff (P:=P) (a:=⟨b,off,none⟩) rfl d (Q:=Q) ((l'.drop off).take n) 0 #[] (fun j v hj=>by simpa using f j v hj) (by simpa using hq)
  rwa[g]at this
 ·refine⟨rfl,rfl,_,v,d,?_,hq⟩;have:=f 0 v (by rw[i];rfl);simpa using this
theorem Acw{Q r i fz}:∀(vs:List Value) (a:Addr) (k:Nat) (c:List Value) (Z:Own),a.block=r->a.spot=none->(∀v∈vs,single v=true)->Z[i]?=some (r,.obj (.cells c.toArray t fz))->a.off+k+vs.length<=c.length->Bfp c.length fz ->
  Q () (Z.set i (r,.obj (.cells (over c (a.off+k) vs).toArray t fz)))->wpS P Y (storeCells a vs k) Z Q:=by
 intro vs;induction vs with
 | nil =>
  intro a k c Z _ _ _ hi _ _ hq;have:Z.set i (r,Res.obj (.cells (over c (a.off+k) []).toArray t fz))=Z:=by
   apply Axb;intro j;rw[Vc];split
   ·rename_i e;subst e;split
    ·exact hi.symm
    ·rename_i h;rw[Sr (by omega)]
   ·rfl
  rw[this]at hq;exact hq
 | cons v vs ih =>
  intro a k c Z ha hs hv hi hl hf hq;simp only[Gb]at hl;show wpS P Y ((store (a.add k) v).bind _) Z Q;rw[Ad,Agj a hs];refine⟨rfl,rfl,hv v mC,i,c.toArray,t,fz,by rw[ha];exact hi,by simp;omega,hf _ (by show a.off+k<_;omega),?_⟩;have hlt:i<Z.length:=by
   rcases Tk i Z.length with h|h
   ·exact h
   ·rw[Sr h]at hi;cases hi
  refine ih a (k+1) (c.set (a.off+k) v) _ ha hs (fun w hw=>hv w (lZ0 _ hw)) ?_ (by rw[Xr];omega) (by rw[Xr];exact hf) ?_
  ·rw[Vc];simp only[if_true,hlt];rw[ha];simp
  ·rw[Aie];rw[over]at hq;rw[show a.off+(k+1)=a.off+k+1 by omega];exact hq
theorem Bao(t:TypeId)(a v:Operand):Ix P (.store t a v):=fun R e e' m x m' he hg h=>by
 have ha:=Dy he hg a;have hv:=Dy he hg v;unfold opK at h;simp only at h;split at h
 ·rename_i n hn;have h':(match (rdK a).run e with
   | .p k off=>match ((rdK v).run e).cells with
    | some c=>match Nat.beq (xLen c) n with
     | true=>match m.store k off c with|some m=>OR.v .undef m|none=>.bad
     | false=>.bad
    | none=>.bad
   | _=>.bad) = .v x m':=h
  split at h'
  ·rename_i k off hu;rw[hu]at ha;obtain⟨b,E,hR,hav⟩:=Ayo ha;split at h'
   ·rename_i c hc;have hcv:=hv.cells hc;split at h'
    ·rename_i y;have y:=Hr y;rw[Ia,hcv.len]at y;cases hst:m.store k off c with
     | none=>rw[hst]at h';cases h'
     | some m1 =>
      rw[hst]at h';obtain⟨rfl,rfl⟩:=Hs h';unfold Mem.store at hst;split at hst
      ·cases hst
      ·rename_i hall;have hsg:=hcv.singles hall;have go:∀{o o':CO},m.M.get k=some (.own o)->o ≠ .dead->m1=m.put k o'->(∀{R:XR} {d:Nat} {rs:Res},VR R c (Af e' v).cells.toList->ObjR R d o rs->∃cs t fz,rs = .obj (.cells cs.toArray t fz)/\off+(Af e' v).cells.toList.length<=cs.length/\Bfp cs.length fz/\ObjR R d o' (.obj (.cells (over cs off (Af e' v).cells.toList).toArray t fz))) ->
         Bfn P (.store t a v) R e' m .undef m1:=fun {o o'} hget hd hm1 hobj=>by
        subst hm1;refine⟨.put _ _ _,fun hx=>(by cases hx),fun Y Z Z9 dd ty pos af g hm=>?_⟩;obtain⟨L,G,hm⟩:=hm;obtain⟨D,F,rs,i,j,f,u,q⟩:=hm.at hget hd;rw[hR]at j;cases j;obtain⟨cs,t',fz,rfl,w,z,C⟩:=hobj hcv u;show wpS P Y ((Instr.storeAt t (Af e' a) (Af e' v)).bind fun _=>Sem.pure Next.skip) Z _;rw[Ad,hav];show wpS P Y ((sizeOf t).bind _) Z _;rw[Ad];refine Dx (Od hn) ?_;have hsz:(Af e' v).cells.size=n:=by rw[<-y];simp
        show wpS P Y (if (Af e' v).cells.size≠n then _ else storeCells ⟨b,off,none⟩ (Af e' v).cells.toList) Z _;rw[if_neg (by simpa using hsz)];refine Acw _ ⟨b,off,none⟩ 0 cs Z rfl rfl hsg f (by simpa using w) z ?_;rw[Abk];exact⟨R,undef,.refl,.inr ⟨rfl,rfl⟩,.t .nil .nil,hm.put q hR f C⟩
       split at hst
       ·rename_i l hget;split at hst
        ·rename_i r hs;cases hst;refine .inr (go hget (by simp) rfl fun {R d rs} hw ho=>?_);cases ho with
         | @cells _ l' t1 fz j f =>
          obtain⟨u,q⟩:=j.set hs hw;exact⟨l',t1,fz,rfl,u,f,.cells q (by rw[Qk];exact f)⟩
        ·cases hst
       ·rename_i n' l hget;split at hst
        ·rename_i r hs;cases hst;refine .inr (go hget (by simp) rfl fun {R d rs} hw ho=>?_);cases ho with
         | @grow _ _ l' rest t1 fz j f u q =>
          obtain⟨w,z⟩:=j.set hs hw;refine⟨l'++rest,t1,fz,rfl,by rw[lZ4];omega,by rw[lZ4];exact q,?_⟩;have B:over (l'++rest) off (Af e' v).cells.toList=over l' off (Af e' v).cells.toList++rest:=by
           rw[Qe _ _ _ (by rw[lZ4];omega),Qe _ _ _ w,Bvo (by omega),Bcy w];simp
          rw[B];exact .grow z (by rw[Qk];exact f) u (by rw[Qk];exact q)
        ·cases hst
       ·cases hst
    ·cases h'
   ·cases h'
  ·cases h'
 ·cases h
end
end
section
section
variable{P:Program}{R:XR}{e:Tr CV}{e':Env}{m m':Mem}{x:CV}{Y:Ro}{Z Z9:Own}{L:List (Nat×Nat×Res)}{G:Own}{t:TypeId}
theorem Afj{n}(h:xZeroC P t=some n):∃i v,P.info? t=some i/\i.zero=some v/\v.cells.size=n:=by
 unfold xZeroC at h;cases hi:P.info? t with
 | none=>rw[hi]at h;cases h
 | some i =>
  rw[hi]at h;simp only at h;cases hz:i.zero with
  | none=>rw[hz]at h;cases h
  | some v=>rw[hz]at h;cases h;exact⟨i,v,rfl,hz,rfl⟩
theorem Akc(R:XR){c:List CV}{z:List Value}(h:VR R c z):∀(ln:Nat),VR R (xRepL c ln) ((List.replicate ln z).flatten)
 | 0=>.nil
 | n+1=>by
  rw[List.replicate_succ,Bdm];show VR R (xApp c (xRepL c n)) _;rw[Me];exact h.app (Akc R h n)
theorem Aaz(z:Array Value)(n:Nat)(hn:z.size=n)(h0:0<n):∀(ln:Nat),(List.range (ln*n)).map (fun i=>z[i%z.size]!)=(List.replicate ln z.toList).flatten
 | 0=>by simp
 | k+1=>by
  have e0:(k+1)*n=n+k*n:=by rw[Yo,Amw,Aqq]
  rw[e0,List.range_add,Mi,List.replicate_succ,Bdm,<-Aaz z n hn h0 k,Bdz];congr 1
  ·apply Axb;intro i;rw[Pb];by_cases hi:i<n
   ·rw[Awp hi];simp only[Aoy,hn,Bdq hi];rw[Bhg,getElem!_pos z i (by omega),Blx (by omega)]
   ·rw[Sr (by simpa using hi),Bhg,Bhf (by omega)];rfl
  ·apply Aqh;intro i _;simp only[Function.comp,hn,Nat.add_mod_left]
theorem Awa{t u n el el' ti z c}(hc:c.callee = .builtin .append)(hts:c.argTypes = #[t,u])(hT:P.underlying t=some (.slice el))(hU:P.underlying u=some (.slice el'))(hi:P.info? el=some ti)(hn:ti.size=n)(hn1:1<=n)(hb:ti.bytes<=4096)(hz:ti.zero=some z)(hzn:z.cells.size=n){args vs}(hv:VR R args vs)(ha:c.args.map (Af e')=vs.toArray)(h:(appendK n).run args m = .v x m'):Bfn P (.call c) R e' m x m':=by
 obtain⟨cl,az,ts⟩:=c;simp only at hc hts ha;subst hc hts;have exe:∀dd ty pos af g,execOp (Af e') ⟨dd,.call ⟨.builtin .append,az,#[t,u]⟩,ty,pos,af,g⟩=((Builtin.append_ #[t,u] ty vs.toArray).bind fun v=>Sem.pure (Next.value v)):=fun dd ty pos af g=>by
  obtain⟨cs,y⟩:=Xc (b:=.append) (az:=az) (ts:=#[t,u]) (dd:=dd) (ty:=ty) (pos:=pos) (af:=af) (g:=g) (Af e');rw[y,ha];rfl
 unfold appendK at h;simp only at h;split at h
 ·rename_i s k2 off2 lx kn2 c2;split at h
  ·cases h
  ·rename_i cx hcx;split at h
   ·rename_i hlx0 hall;have hlx:lx≠0:=fun e=>by subst e;simp at hlx0
    obtain⟨sv,xv,rfl⟩:∃sv xv,vs=[sv,xv]:=by
     have:=hv.len
     match vs,this with
     | [a,b],_=>exact⟨a,b,rfl⟩
    obtain⟨hs,hx'⟩:=VR.cons_iff.1 hv;obtain⟨l2,aa,a2,a0⟩:=Bfa hcx;have U:∀(Y:Ro) (Z Z9:Own) (ty:TypeId) (N:Option Addr) (f p:Nat) (ls:List CV) (hm:MemX R m Y Z Z9) (hsv:sv = .slice N f p) (hsz:f+lx<=1000000)
      (K:∃ovs:List Value,VR R ls ovs/\ovs.length=f*n/\∀Q:Array Value->Own->Prop,Q ovs.toArray Z->wpS P Y (Builtin.firstCells n f sv) Z Q) (Q:Value->Own->Prop)
      (a4:f+lx<=p->∀cvs:List Value,VR R cx cvs->cvs.length=lx*n->(∀v∈cvs,single v=true)->wpS P Y (Sem.bind (match N with|some a=>storeCells (a.add (f*n)) cvs|none=>pure ()) fun _=>pure (.slice N (f+lx) p)) Z Q)
      (ZQ:¬f+lx<=p->∀r nc (all rest:List Value),VR R (ls++cx) all->all.length=(f+lx)*n->all.length+rest.length=nc*n->f+lx<=nc->Q (.slice (some ⟨r,0,none⟩) (f+lx) nc) ((r,.obj (.cells (all++rest).toArray el (0,0)))::Z)),
      wpS P Y (Builtin.append_ #[t,u] ty [sv,xv].toArray) Z Q:=by
     intro Y Z Z9 ty N f p ls hm hsv hsz K Q a4 ZQ;obtain⟨L,G,hm⟩:=hm;obtain⟨xb,xd,hxR,hxv⟩:=Zu hx';obtain⟨b2,ac,cvs,y,F,J,O,_⟩:=hm.cells (P:=P) aa a2 a0;rw[hxR]at y;cases y;replace J:cvs.length=lx*n:=J;obtain⟨ovs,a8,a9,a3⟩:=K;have a1:∀Q:Array Value->Own->Prop,Q cvs.toArray Z->wpS P Y (Builtin.firstCells n lx xv) Z Q:=fun Q hq=>by rw[hxv];exact O Q hq
     have hsg:=F.singles hall;have ab:Builtin.lenOf xv=pure lx:=by rw[hxv];rfl
     rw[show [sv,xv].toArray = #[sv,xv] from rfl];unfold Builtin.append_;show wpS P Y ((underlying t).bind _) _ _;rw[Ad];refine Az hT ?_;simp only[hsv];show wpS P Y ((sizeOf el).bind _) _ _;rw[Ad];refine Dx ⟨ti,hi,hn⟩ ?_;show wpS P Y ((underlying u).bind _) _ _;rw[Ad];refine Az hU ?_;show wpS P Y ((Builtin.lenOf xv).bind _) _ _;rw[ab];show wpS P Y (if f+lx<=p then (Builtin.firstCells n lx xv).bind _ else (typeInfo el).bind _) _ _;by_cases B:f+lx<=p
     ·rw[if_pos B,Ad];refine a1 _ ?_;have:=a4 B cvs F J hsg;cases N with
      | none=>exact this
      | some a=>exact this
     ·rw[if_neg B,Ad];refine Gj hi ?_;have a5:¬(((f+lx:Nat):Int)>IntKind.i64.max/\((false=true)∨ti.bytes=0)):=by
       intro⟨y,_⟩;have:IntKind.i64.max=9223372036854775807:=by simp[IntKind.max,IntKind.signed,IntKind.bits]
       omega
      show wpS P Y (if ((f+lx:Nat):Int)>IntKind.i64.max/\((false=true)∨ti.bytes=0) then _ else (typeInfo el).bind _) _ _;rw[if_neg a5,Ad];refine Gj hi ?_;have a6:¬(Builtin.nextslicecap (f+lx) p*ti.bytes>2^48):=by
       have y:=Alk (need:=f+lx) (cap:=p) (by omega);have F:Builtin.nextslicecap (f+lx) p*ti.bytes<=(2*(f+lx)+1000)*4096:=Anc y hb;omega
      show wpS P Y (if Builtin.nextslicecap (f+lx) p*ti.bytes>2^48 then _ else (choose (.appendCap (f+lx) p el)).bind _) _ _;rw[if_neg a6,Ad];show (if (Question.appendCap (f+lx) p el).forced then _ else ∀tt,_);rw[if_neg (by simp[Question.forced])];intro tt;have hnc:f+lx<=(Question.appendCap (f+lx) p el).cut tt:=by simp[Question.cut]
      generalize (Question.appendCap (f+lx) p el).cut tt=nc at hnc;show wpS P Y ((typeInfo el).bind _) _ _;rw[Ad];refine Gj hi ?_;show wpS P Y ((askRoom (nc*ti.bytes)).bind _) _ _;rw[Ad];have X:∀{Q:Unit->Own->Prop} {Z':Own},Q () Z'->wpS P Y (askRoom (nc*ti.bytes)) Z' Q:=fun hq=>by
       unfold askRoom;split
       ·exact⟨rfl,hq⟩
       ·exact hq
      refine X ?_;show wpS P Y ((Builtin.firstCells n f (.slice N f p)).bind _) _ _;rw[Ad];rw[hsv]at a3;refine a3 _ ?_;show wpS P Y ((Builtin.firstCells n lx xv).bind _) _ _;rw[Ad];refine a1 _ ?_;show wpS P Y ((zeroValue el).bind _) _ _;rw[Ad];refine Jz ⟨ti,hi,hz⟩ ?_;show wpS P Y ((newRow el (ovs.toArray++cvs.toArray++Builtin.zeroCells z.cells (nc-(f+lx)))).bind _) _ _;rw[Ad];refine Ik fun r=>?_;have e4:(ovs.toArray++cvs.toArray++Builtin.zeroCells z.cells (nc-(f+lx)))=((ovs++cvs)++(Builtin.zeroCells z.cells (nc-(f+lx))).toList).toArray:=by
       apply Array.ext';simp
      rw[e4];have e5:(Builtin.zeroCells z.cells (nc-(f+lx))).toList.length=(nc-(f+lx))*n:=by
       simp[Builtin.zeroCells,hzn]
      have e6:(ovs++cvs).length=(f+lx)*n:=by rw[lZ4,a9,J,<-Yo]
      exact ZQ B r nc (ovs++cvs) _ (a8.app F) e6 (by rw[e6,e5,<-Yo];congr 1;omega) hnc
    split at h
    ·split at h
     ·rename_i hle;have hle:=lZ7 hle;obtain⟨rfl,rfl⟩:=Hs h;have hsv:=Ayp hs;refine⟨.add _ _,fun _=>Atu _,fun Y Z Z9 dd ty pos af g hm=>?_⟩;rw[exe,Ad];refine U Y Z Z9 ty none 0 0 [] hm hsv (by omega) ⟨[],.nil,by simp,fun Q hq=>by rw[hsv];exact hq⟩ _ (fun B=>absurd B (by omega)) fun _ r nc all rest j w q C=>?_;obtain⟨L,G,hm⟩:=hm;refine⟨R.add m.nx (r,nc),_,hm.fresh _,.inl rfl,?_,hm.add (.grow (j.mono (hm.fresh _)) q hn1 (Aoq _))⟩;rw[Qz];exact .slU XR.add_same .nil
     ·cases h
    ·rename_i k off ls c1;split at h
     ·rename_i n' l hget;split at h
      ·rename_i H D M I E;have H:=Hr H;have D:=Hr D;have M:=Hr M;have I:=Hr I;have E:=lZ7 E;subst H D M;rw[Ia]at I;replace I:l.length=ls*n:=I;replace E:ls+lx<=1000000:=E;obtain⟨rfl,rfl⟩:=Hs h;rw[Me];obtain⟨sb,sd,hsR,hsv⟩:=Zu hs;simp only[Yv,Aqs]at hsv;refine⟨(LogOk.put _ _ _).trans (.add _ _),fun _=>Atu _,fun Y Z Z9 dd ty pos af g hm=>?_⟩;rw[exe,Ad];have T:=hm;obtain⟨L,G,hm⟩:=hm;obtain⟨b,d,rs,i,y,F,J,O⟩:=hm.at hget (by simp);rw[hsR]at y;cases y;have YQ:m.row k=some l:=by unfold Mem.row;rw[hget];rfl
       have K:∃ovs:List Value,VR R l ovs/\ovs.length=ls*n/\∀Q:Array Value->Own->Prop,Q ovs.toArray Z->wpS P Y (Builtin.firstCells n ls sv) Z Q:=by
        obtain⟨b3,c3,ovs,j,w,q,C,_⟩:=hm.cells (P:=P) (off:=0) (n:=ls*n) YQ (by rw[Apa,I];exact Ib _) rfl;rw[hsR]at j;cases j;rw[Apa,Atr (by rw[I];exact Ib _)]at w;exact⟨ovs,w,q,fun Q hq=>by rw[hsv];exact C Q hq⟩
       refine U Y Z Z9 ty (some ⟨sb,0,none⟩) ls sd l T hsv E K _ (fun B cvs j w q=>?_) fun _ r nc all rest j w q C=>?_
       ·cases J with
        | @grow _ _ l' rest t1 fz o1 o2 o3 o4 =>
         have hl':=o1.len;show wpS P Y (Sem.bind (storeCells ((⟨sb,0,none⟩:Addr).add (ls*n)) cvs) _) Z _;rw[Ad,Ld,Qz];have W:ls*n+cvs.length<=(l'++rest).length:=by
          rw[w,lZ4,o2,<-Yo];exact Awo _ B
         refine Acw cvs ⟨sb,ls*n,none⟩ 0 (l'++rest) Z rfl rfl q F (by simpa using W) (by rw[lZ4];exact o4) ?_;simp only[Abk];have V:over (l'++rest) (ls*n) cvs=(l'++cvs)++rest.drop cvs.length:=by
          rw[Qe _ _ _ W,<-I,hl',Ams,lZ9];congr 2;rw[List.drop_append,Awk (by omega)];simp
         rw[V];have ag:cvs.length<=rest.length:=by
          rw[lZ4,<-hl',I]at W;omega
         refine⟨R.add m.nx (sb,sd),_,hm.fresh _,.inl rfl,?_,hm.move O F (.grow ((o1.app j).mono (hm.fresh _)) ?_ o3 ?_)⟩
         ·exact .slU XR.add_same .nil
         ·rw[lZ4,Tf];omega
         ·rw[lZ4,Tf,show l'.length+cvs.length+(rest.length-cvs.length)=l'.length+rest.length by omega];exact o4
       ·have hob:∃ob,rs = .obj ob:=by cases J with|grow=>exact⟨_,rfl⟩
        obtain⟨ob,rfl⟩:=hob;obtain⟨L',G',hm'⟩:=hm.kill O;have hfr:=hm'.fresh (r,nc);refine⟨R.add m.nx (r,nc),_,hm.fresh _,.inl rfl,.slU XR.add_same .nil,?_⟩;exact hm'.add (.grow (j.mono hfr) q hn1 (Aoq _))
      ·rename_i H D M I E;have H:=Hr H;have D:=Hr D;have M:=Hr M;have E:=lZ7 E;subst H D M;replace E:ls+lx<=1000000:=E;split at h
       ·rename_i l2 hset;replace hset:xSetL (ls*n) cx l=some l2:=hset;obtain⟨rfl,rfl⟩:=Hs h;obtain⟨sb,sd,hsR,hsv⟩:=Zu hs;simp only[Yv,Aqs]at hsv;refine⟨.put _ _ _,fun h=>(by cases h),fun Y Z Z9 dd ty pos af g hm=>?_⟩;rw[exe,Ad];have T:=hm;obtain⟨L,G,hm⟩:=hm;obtain⟨b,d,rs,i,y,F,J,O⟩:=hm.at hget (by simp);rw[hsR]at y;cases y;obtain⟨ae,_⟩:=Aon _ _ _ _ hset;have ad:cx.length=lx*n:=by
         rw[a0,Lo];exact Aox a2
        have YQ:m.row k=some l:=by unfold Mem.row;rw[hget];rfl
        have K:∃ovs:List Value,VR R (l.take (ls*n)) ovs/\ovs.length=ls*n/\∀Q:Array Value->Own->Prop,Q ovs.toArray Z->wpS P Y (Builtin.firstCells n ls sv) Z Q:=by
         obtain⟨b3,c3,ovs,j,w,q,C,_⟩:=hm.cells (P:=P) (off:=0) (n:=ls*n) YQ (by rw[Apa];omega) rfl;rw[hsR]at j;cases j;rw[Apa]at w;exact⟨ovs,w,q,fun Q hq=>by rw[hsv];exact C Q hq⟩
        cases J with
        | @grow _ _ l' rest t1 fz o1 o2 o3 o4 =>
         have hl':=o1.len;have X:ls+lx<=sd:=by
          have:(ls+lx)*n<=sd*n:=by rw[Yo];omega
          exact Nat.le_of_mul_le_mul_right this o3
         refine U Y Z Z9 ty (some ⟨sb,0,none⟩) ls sd (l.take (ls*n)) T hsv E K _ (fun B cvs j w q=>?_) fun B=>absurd X B;show wpS P Y (Sem.bind (storeCells ((⟨sb,0,none⟩:Addr).add (ls*n)) cvs) _) Z _;rw[Ad,Ld,Qz];obtain⟨C,g5⟩:=o1.set hset j;refine Acw cvs ⟨sb,ls*n,none⟩ 0 (l'++rest) Z rfl rfl q F (by rw[lZ4];simpa using Tj C (Bmy _ _)) (by rw[lZ4];exact o4) ?_;simp only[Abk];have V:over (l'++rest) (ls*n) cvs=over l' (ls*n) cvs++rest:=by
          rw[Qe _ _ _ (by rw[lZ4];omega),Qe _ _ _ C,Bvo (by omega),Bcy C];simp
         rw[V];exact⟨R,_,.refl,.inl rfl,.slU hsR .nil,hm.put O hsR F (.grow g5 (by rw[Qk];exact o2) o3 (by rw[Qk];exact o4))⟩
       ·cases h
      ·cases h
     ·cases h
    ·rename_i k off ls c1;split at h
     ·rename_i co hco;split at h
      ·rename_i H D M;have H:c1<ls+lx:=lZ7 H;have D:ls+lx<=1000000:=lZ7 D;obtain⟨rfl,rfl⟩:=Hs h;rw[Me];obtain⟨sb,sd,hsR,hsv⟩:=Zu hs;simp only[Yv]at hsv;obtain⟨l,hr,hn,a7⟩:=Bfa hco;refine⟨.add _ _,fun _=>Atu _,fun Y Z Z9 dd ty pos af g hm=>?_⟩;rw[exe,Ad];have T:=hm;obtain⟨L,G,hm⟩:=hm;have K:∃ovs:List Value,VR R co ovs/\ovs.length=ls*n/\∀Q:Array Value->Own->Prop,Q ovs.toArray Z->wpS P Y (Builtin.firstCells n ls sv) Z Q:=by
        obtain⟨b3,c3,ovs,j,w,q,C,_⟩:=hm.cells (P:=P) hr hn a7;rw[hsR]at j;cases j;exact⟨ovs,w,q,fun Q hq=>by rw[hsv];exact C Q hq⟩
       refine U Y Z Z9 ty (some ⟨sb,off,none⟩) ls c1 co T hsv D K _ (fun B=>absurd B (by omega)) fun _ r nc all rest j w q C=>?_;exact⟨R.add m.nx (r,nc),_,hm.fresh _,.inl rfl,.slU XR.add_same .nil,hm.add (.grow (j.mono (hm.fresh _)) q hn1 (Aoq _))⟩
      ·cases h
     ·cases h
    ·cases h
   ·cases h
 ·cases h
theorem Ati{t u:TypeId}{n:Nat}{el:TypeId}{ik:IntKind}{ti:TypeInfo}{z:Value}{cz:List CV}{c:Call}(hc:c.callee = .builtin .append)(hts:c.argTypes = #[t,u])(hT:P.underlying t=some (.slice el))(hU:P.underlying u=some (.int ik))
  (hi:P.info? el=some ti) (hn:ti.size=n) (hn1:1<=n) (hb:ti.bytes<=4096) (hz:ti.zero=some z) (hzn:z.cells.size=n) (hcz:VR R cz z.cells.toList)
  {args:List CV} {vs:List Value} (hv:VR R args vs) (ha:c.args.map (Af e')=vs.toArray) (h:(appendZ n cz).run args m = .v x m'):Bfn P (.call c) R e' m x m':=by
 obtain⟨cl,az,ts⟩:=c;simp only at hc hts ha;subst hc hts;have exe:∀dd ty pos af g,execOp (Af e') ⟨dd,.call ⟨.builtin .append,az,#[t,u]⟩,ty,pos,af,g⟩=((Builtin.append_ #[t,u] ty vs.toArray).bind fun v=>Sem.pure (Next.value v)):=fun dd ty pos af g=>by
  obtain⟨cs,d⟩:=Xc (b:=.append) (az:=az) (ts:=#[t,u]) (dd:=dd) (ty:=ty) (pos:=pos) (af:=af) (g:=g) (Af e');rw[d,ha];rfl
 unfold appendZ at h;simp only at h;split at h
 ·rename_i k lx;split at h
  ·rename_i e f;have e:=lZ7 e;have f:=lZ7 f;obtain⟨rfl,rfl⟩:=Hs h;obtain⟨sv,xv,rfl⟩:∃sv xv,vs=[sv,xv]:=by
    have:=hv.len
    match vs,this with
    | [a,b],_=>exact⟨a,b,rfl⟩
   obtain⟨hs,hx'⟩:=VR.cons_iff.1 hv;have hxv:=Og (VR.cons_iff.1 hx').1;have hsv:=Ayp hs;subst hxv hsv;refine⟨.add _ _,fun _=>Atu _,fun Y Z Z9 dd ty pos af g hm=>?_⟩;obtain⟨L,G,hm⟩:=hm;rw[exe,Ad];rw[show [Value.slice none 0 0,Value.int k (Int.ofNat lx)].toArray = #[Value.slice none 0 0,Value.int k (Int.ofNat lx)] from rfl];unfold Builtin.append_;show wpS P Y ((underlying t).bind _) _ _;rw[Ad];refine Az hT ?_;show wpS P Y ((sizeOf el).bind _) _ _;rw[Ad];refine Dx ⟨ti,hi,hn⟩ ?_;show wpS P Y ((underlying u).bind _) _ _;rw[Ad];refine Az hU ?_;have hw:IntKind.i64.wrap (Int.ofNat lx)=(lx:Int):=Bo (z':=(lx:Int)) rfl (by omega) (by omega);show wpS P Y (if IntKind.i64.wrap (Int.ofNat lx)<0 then _ else (typeInfo el).bind _) _ _;rw[hw,if_neg (by omega),Ad];refine Gj hi ?_;have C:¬((lx:Int)*(ti.bytes:Int)>2^48):=by
    have q:lx*ti.bytes<=1000000*4096:=Anc f hb;have w:(lx:Int)*(ti.bytes:Int)=((lx*ti.bytes:Nat):Int):=by push_cast;rfl
    rw[w];omega
   show wpS P Y (if (lx:Int)*(ti.bytes:Int)>2^48 then _ else _) _ _;rw[if_neg C];simp only[Yk];show wpS P Y (if 0+lx<=0 then _ else (typeInfo el).bind _) _ _;rw[if_neg (by omega),Ad];refine Gj hi ?_;have y:¬(((0+lx:Nat):Int)>IntKind.i64.max/\(True∨ti.bytes=0)):=by
    intro⟨d,_⟩;have:IntKind.i64.max=9223372036854775807:=by simp[IntKind.max,IntKind.signed,IntKind.bits]
    omega
   rw[if_neg y];show wpS P Y ((typeInfo el).bind _) _ _;rw[Ad];refine Gj hi ?_;have B:¬(Builtin.nextslicecap (0+lx) 0*ti.bytes>2^48):=by
    have d:=Alk (need:=0+lx) (cap:=0) (by omega);have q:Builtin.nextslicecap (0+lx) 0*ti.bytes<=(2*(0+lx)+1000)*4096:=Anc d hb;omega
   show wpS P Y (if Builtin.nextslicecap (0+lx) 0*ti.bytes>2^48 then _ else (choose (.appendCap (0+lx) 0 el)).bind _) _ _;rw[if_neg B,Ad];show (if (Question.appendCap (0+lx) 0 el).forced then _ else ∀tt,_);rw[if_neg (by simp[Question.forced])];intro tt;have hnc:0+lx<=(Question.appendCap (0+lx) 0 el).cut tt:=by simp[Question.cut]
   generalize (Question.appendCap (0+lx) 0 el).cut tt=nc at hnc;show wpS P Y ((typeInfo el).bind _) _ _;rw[Ad];refine Gj hi ?_;show wpS P Y ((askRoom (nc*ti.bytes)).bind _) _ _;rw[Ad];have E:∀{Q:Unit->Own->Prop} {Z':Own},Q () Z'->wpS P Y (askRoom (nc*ti.bytes)) Z' Q:=fun hq=>by
    unfold askRoom;split
    ·exact⟨rfl,hq⟩
    ·exact hq
   refine E ?_;show wpS P Y ((Builtin.firstCells n 0 (.slice none 0 0)).bind _) _ _;have hf:∀Q:Array Value->Own->Prop,Q #[] Z->wpS P Y (Builtin.firstCells n 0 (.slice none 0 0)) Z Q:=fun Q hq=>hq;rw[Ad];refine hf _ ?_;have F:1<=lx*n:=Anc e hn1;simp only[Bool.not_true,Aiw,if_false];rw[if_neg (by omega)];show wpS P Y (((zeroValue el).bind _).bind _) _ _;rw[Ad,Ad];refine Jz ⟨ti,hi,hz⟩ ?_;show wpS P Y ((zeroValue el).bind _) _ _;rw[Ad];refine Jz ⟨ti,hi,hz⟩ ?_;show wpS P Y ((newRow el (#[]++Builtin.zeroCells z.cells lx++Builtin.zeroCells z.cells (nc-(0+lx)))).bind _) _ _;rw[Ad];refine Ik fun r=>?_;have i:(#[]++Builtin.zeroCells z.cells lx++Builtin.zeroCells z.cells (nc-(0+lx)))=((List.replicate lx z.cells.toList).flatten++(Builtin.zeroCells z.cells (nc-(0+lx))).toList).toArray:=by
    apply Array.ext';simp only[Builtin.zeroCells,Array.toList_append,Agn,Bmu,Array.toList_range];rw[Aaz z.cells z.cells.size rfl (by omega) lx]
   rw[i];have j:(Builtin.zeroCells z.cells (nc-(0+lx))).toList.length=(nc-(0+lx))*n:=by
    simp[Builtin.zeroCells,hzn]
   have D:=Akc R hcz lx;have p:((List.replicate lx z.cells.toList).flatten).length=lx*n:=by
    simp[hzn]
   refine⟨R.add m.nx (r,nc),_,hm.fresh _,.inl rfl,?_,hm.add (.grow (D.mono (hm.fresh _)) ?_ hn1 (Aoq _))⟩
   ·rw[Qz];exact .slU XR.add_same .nil
   ·rw[p,j,<-Yo];congr 1;omega
  ·cases h
 ·cases h
theorem Atj(c:Call)(b:Builtin)(hc:c.callee = .builtin b):Ix P (.call c):=fun R e e' m x m' he hg h=>by
 obtain⟨vs,hv,ha⟩:=Aey (R:=R) he hg c.args;have a:(builtinK P b c.argTypes.toList).run ((rdsK c.args.toList).run e) m = .v x m':=by
  unfold opK at h;simp only[hc]at h;exact h
 generalize (rdsK c.args.toList).run e=args at a hv;have hts:c.argTypes=c.argTypes.toList.toArray:=by simp
 unfold builtinK at a;split at a
 ·split at a
  ·rename_i t hl;split at a
   ·rename_i el hT;have h':(match args with
     | [.sn]=>OR.v (.i .i64 0) m
     | [.sl _ _ n _ _]=>.v (.i .i64 (.ofNat n)) m
     | _=>.bad) = .v x m':=a
    split at h'
    ·obtain⟨rfl,rfl⟩:=Hs h';cases vs with
     | nil=>cases hv
     | cons w ws =>
      obtain⟨hw,hws⟩:=VR.cons_iff.1 hv;cases hws;have:=Ayp hw;subst this;refine .inl ⟨rfl,Mq hc ha (.i _ _ .nil) fun ty cs Y Z=>?_⟩;rw[hts,hl];show wpS P Y ((Builtin.len_ #[t] ty #[.slice none 0 0]).bind fun v=>Sem.pure (Next.value v)) Z _;rw[Ad];show wpS P Y ((underlying t).bind _) Z _;rw[Ad];exact Az hT ⟨rfl,rfl⟩
    ·rename_i k off n kn c1;obtain⟨rfl,rfl⟩:=Hs h';cases vs with
     | nil=>cases hv
     | cons w ws =>
      obtain⟨hw,hws⟩:=VR.cons_iff.1 hv;cases hws;obtain⟨bl,d,_,hw⟩:=Zu hw;subst hw;refine .inl ⟨rfl,Mq hc ha (.i _ _ .nil) fun ty cs Y Z=>?_⟩;rw[hts,hl];show wpS P Y ((Builtin.len_ #[t] ty #[.slice (some ⟨bl,off,none⟩) n _]).bind fun v=>Sem.pure (Next.value v)) Z _;rw[Ad];show wpS P Y ((underlying t).bind _) Z _;rw[Ad];exact Az hT ⟨rfl,rfl⟩
    ·cases h'
   ·rename_i hT;have h':(match args with|[.s z]=>OR.v (.i .i64 (.ofNat (xLen z))) m|_=>.bad) = .v x m':=a;split at h'
    ·rename_i z;obtain⟨rfl,rfl⟩:=Hs h';cases vs with
     | nil=>cases hv
     | cons w ws =>
      obtain⟨hw,hws⟩:=VR.cons_iff.1 hv;cases hws;have:=Zs hw;subst this;refine .inl ⟨rfl,Mq hc ha (.i _ _ .nil) fun ty cs Y Z=>?_⟩;rw[hts,hl];show wpS P Y ((Builtin.len_ #[t] ty #[.string ⟨z.toArray⟩]).bind fun v=>Sem.pure (Next.value v)) Z _;rw[Ad];show wpS P Y ((underlying t).bind _) Z _;rw[Ad];refine Az hT ⟨?_,rfl⟩;show Next.value (goInt ((z.toArray.size:Nat):Int))=_;rw[Ia,Aiy];rfl
    ·cases h'
   ·cases a
  ·cases a
 ·have h':(match args with
   | [.i k p,.i k' q]=>match xKind k k' with|true=>OR.v (.i k (match xLtI q p with|true=>q|false=>p)) m|false=>.bad
   | _=>.bad) = .v x m':=a
  split at h'
  ·rename_i k p k' q;split at h'
   ·rename_i hk;have hk:=Mg hk;subst hk;obtain⟨rfl,rfl⟩:=Hs h'
    match vs,hv with
    | [w,w'],hv =>
     obtain⟨hw,hw'⟩:=VR.cons_iff.1 hv;have f:=Og hw;have B:=Og hw';subst f B;refine .inl ⟨rfl,Mq hc ha (.i _ _ .nil) fun ty cs Y Z=>?_⟩;show wpS P Y ((Builtin.min_ c.argTypes ty #[.int k p,.int k q]).bind fun v=>Sem.pure (Next.value v)) Z _;rw[Ad];have f:Builtin.min_ c.argTypes ty #[.int k p,.int k q]=pure (.int k (if q<p then q else p)):=by
      simp only[Builtin.min_,Aqk,List.foldlM_nil,Builtin.min2];rfl
     rw[f];refine⟨?_,rfl⟩;rw[Akm];by_cases hlt:q<p
     ·rw[if_pos hlt,Qx hlt]
     ·rw[if_neg hlt,Ji hlt]
   ·cases h'
  ·cases h'
 ·have h':(match args with
   | [.i k p,.i k' q]=>match xKind k k' with|true=>OR.v (.i k (match xLtI p q with|true=>q|false=>p)) m|false=>.bad
   | _=>.bad) = .v x m':=a
  split at h'
  ·rename_i k p k' q;split at h'
   ·rename_i hk;have hk:=Mg hk;subst hk;obtain⟨rfl,rfl⟩:=Hs h'
    match vs,hv with
    | [w,w'],hv =>
     obtain⟨hw,hw'⟩:=VR.cons_iff.1 hv;have f:=Og hw;have B:=Og hw';subst f B;refine .inl ⟨rfl,Mq hc ha (.i _ _ .nil) fun ty cs Y Z=>?_⟩;show wpS P Y ((Builtin.max_ c.argTypes ty #[.int k p,.int k q]).bind fun v=>Sem.pure (Next.value v)) Z _;rw[Ad];have f:Builtin.max_ c.argTypes ty #[.int k p,.int k q]=pure (.int k (if q>p then q else p)):=by
      simp only[Builtin.max_,Aqk,List.foldlM_nil,Builtin.max2];rfl
     rw[f];refine⟨?_,rfl⟩;rw[Akm];by_cases hlt:p<q
     ·rw[if_pos hlt,Qx hlt]
     ·rw[if_neg hlt,Ji hlt]
   ·cases h'
  ·cases h'
 ·split at a
  ·rename_i t u hl;split at a
   ·rename_i el el' hT hU;split at a
    ·rename_i ti zc hi hz;split at a
     ·rename_i q1 q2 g;obtain⟨G,F,j,y,C⟩:=Afj hz;rw[hi]at j;cases j;have g:=Hr g;exact .inr (Awa hc (by rw[hts,hl]) hT hU hi rfl (lZ7 q1) (lZ7 q2) y (by rw[C,g]) hv ha a)
     ·cases a
    ·cases a
   ·rename_i el ik hT hU;split at a
    ·rename_i ti zc v0 hi hz hz0;split at a
     ·rename_i c0 q1 q2 g q4;obtain⟨G,F,j,y,C⟩:=Afj hz;rw[hi]at j;cases j;obtain⟨w,⟨H,D,E⟩,rfl⟩:=Rf hz0;rw[hi]at D;cases D;rw[y]at E;cases E;have g:=Hr g;exact .inr (Ati hc (by rw[hts,hl]) hT hU hi rfl (lZ7 q1) (lZ7 q2) y (by rw[C,g]) ((vOf R F).cells q4) hv ha a)
     ·cases a
    ·cases a
   ·cases a
  ·cases a
 ·split at a
  ·rename_i t hl;split at a
   ·rename_i el hT;have h':(match args with
     | [.sn]=>OR.v (.i .i64 0) m
     | [.sl _ _ _ true c]=>.v (.i .i64 (.ofNat c)) m
     | _=>.bad) = .v x m':=a
    split at h'
    ·obtain⟨rfl,rfl⟩:=Hs h';cases vs with
     | nil=>cases hv
     | cons w ws =>
      obtain⟨hw,hws⟩:=VR.cons_iff.1 hv;cases hws;have:=Ayp hw;subst this;refine .inl ⟨rfl,Mq hc ha (.i _ _ .nil) fun ty cs Y Z=>?_⟩;rw[hts,hl];show wpS P Y ((Builtin.cap_ #[t] ty #[.slice none 0 0]).bind fun v=>Sem.pure (Next.value v)) Z _;rw[Ad];show wpS P Y ((underlying t).bind _) Z _;rw[Ad];exact Az hT ⟨rfl,rfl⟩
    ·rename_i k off n c1;obtain⟨rfl,rfl⟩:=Hs h';cases vs with
     | nil=>cases hv
     | cons w ws =>
      obtain⟨hw,hws⟩:=VR.cons_iff.1 hv;cases hws;obtain⟨bl,d,_,hw⟩:=Zu hw;subst hw;refine .inl ⟨rfl,Mq hc ha (.i _ _ .nil) fun ty cs Y Z=>?_⟩;rw[hts,hl];show wpS P Y ((Builtin.cap_ #[t] ty #[.slice (some ⟨bl,off,none⟩) n _]).bind fun v=>Sem.pure (Next.value v)) Z _;rw[Ad];show wpS P Y ((underlying t).bind _) Z _;rw[Ad];exact Az hT ⟨rfl,rfl⟩
    ·cases h'
   ·cases a
  ·cases a
 ·cases a
theorem Aph{t el:TypeId}{ln n:Nat}{ps:Array (Nat×Operand)}(hT:P.underlying t=some (.slice el))(hn:xSzT P el=some n):∃zs:List Value,∀(R:XR) e e' m x m',EnvR R e e'->Pe R->(opK P (.buildSlice t ln ps)).run e m = .v x m' ->
  ∃c c2,x = .sl m.nx 0 ln true ln/\m'=m.add (.cells c)/\VR R c c2/\Instr.fill (fun i=>some (i*n,n)) zs.toArray (ps.toList.map fun p=>(p.1,Af e' p.2))=some c2.toArray /\
   ∀Y Z (Q:Next->Own->Prop) dd ty pos af g,(∀r,Q (.value (.slice (some ⟨r,0,none⟩) ln ln)) ((r,.obj (.cells c2.toArray el (0,0)))::Z))->wpS P Y (execOp (Af e') ⟨dd,.buildSlice t ln ps,ty,pos,af,g⟩) Z Q:=by
 by_cases hzz:∃z zc v,xZeroT P el=some z/\xZeroC P el=some zc/\(∃i,P.info? el=some i/\i.zero=some v)/\z=xOfV v
 ·obtain⟨z,zc,v,hz,hzc,⟨iv,q,u⟩,hzv⟩:=hzz;subst hzv;have C:v.cells.size=zc:=by
   obtain⟨G,H,a,b,f⟩:=Afj hzc;rw[q]at a;cases a;rw[u]at b;cases b;exact f
  refine⟨(List.replicate ln v.cells.toList).flatten,fun R e e' m x m' he hg h=>?_⟩;have exe:∀dd ty pos af g,execOp (Af e') ⟨dd,.buildSlice t ln ps,ty,pos,af,g⟩=(Instr.buildSlice t ln (ps.map fun (p:Nat×Operand)=>(p.1,Af e' p.2))).bind fun v=>Sem.pure (Next.value v):=fun _ _ _ _ _=>rfl;have k:(ps.map fun (p:Nat×Operand)=>(p.1,Af e' p.2)).toList=ps.toList.map fun p=>(p.1,Af e' p.2):=by simp
  unfold opK at h;simp only[hT,hn,hz,hzc]at h;split at h
  ·rename_i c hc y B j;have y:ln*n<=1000000:=lZ7 y;have B:1<=ln*n:=lZ7 B;have j:=Hr j;have h':(match (fillK (fun i=>some (Nat.mul i n,n)) ps.toList).run (xRepL c ln) e with
    | some l=>OR.v (.sl m.nx 0 ln true ln) (m.add (.cells l))
    | none=>.bad) = .v x m':=h
   split at h'
   ·rename_i l hf;obtain⟨rfl,rfl⟩:=Hs h';have E:0<n:=by
     rcases Nat.eq_zero_or_pos n with h0|h0
     ·subst h0;omega
     ·exact h0
    have F:=Akc R ((vOf R v).cells hc) ln;obtain⟨c2,w,D⟩:=Ads he hg (place:=fun i=>some (i*n,n)) (fun i o z h=>h) ps.toList (xRepL c ln) l _ hf F;refine⟨l,c2,rfl,rfl,D,w,fun Y Z Q dd ty pos af g hq=>?_⟩;rw[exe,Ad];unfold Instr.buildSlice;show wpS P Y ((underlying t).bind _) Z _;rw[Ad];refine Az hT ?_;show wpS P Y ((sizeOf el).bind _) Z _;rw[Ad];refine Dx (Od hn) ?_;dsimp only;rw[if_neg (by omega),if_neg (by omega)];show wpS P Y ((zeroValue el).bind _) Z _;rw[Ad];refine Jz ⟨_,q,u⟩ ?_;have d:((Array.range (ln*n)).map fun i=>v.cells[i%v.cells.size]!)=((List.replicate ln v.cells.toList).flatten).toArray:=by
     rw[<-Aaz v.cells n (by rw[C,j]) E ln];apply Array.ext';simp
    simp only[pure_bind,k,d,w];show wpS P Y ((newRow el c2.toArray).bind _) Z _;rw[Ad];exact Ik fun r=>hq r
   ·cases h'
  ·split at h
   ·have hps:ps.toList=[]:=by assumption
    obtain⟨rfl,rfl⟩:=Hs h;refine⟨[],[],rfl,rfl,.nil,by rw[hps];rfl,fun Y Z Q dd ty pos af g hq=>?_⟩;rw[exe,Ad];unfold Instr.buildSlice;show wpS P Y ((underlying t).bind _) Z _;rw[Ad];refine Az hT ?_;show wpS P Y ((sizeOf el).bind _) Z _;rw[Ad];refine Dx (Od hn) ?_;dsimp only;rw[Awx,if_neg (by omega),if_pos rfl];have d:Instr.fill (fun i=>some (i*n,n)) (Array.map (fun x=>(#[]:Array Value)[x%(#[]:Array Value).size]!) (Array.range 0)) []=some #[]:=by simp[Instr.fill]
    simp only[pure_bind,k,hps,List.map_nil,d];show wpS P Y ((newRow el #[]).bind _) Z _;rw[Ad];exact Ik fun r=>hq r
   ·cases h
 ·refine⟨[],fun R e e' m x m' he hg h=>?_⟩;exfalso;unfold opK at h;simp only[hT,hn]at h;split at h
  ·rename_i n' z zc _ hz hzc;obtain⟨v,⟨i,a,b⟩,f⟩:=Rf hz;exact hzz ⟨z,zc,v,hz,hzc,⟨i,a,b⟩,f⟩
  ·cases h
theorem Aiu(t:TypeId)(ln:Nat)(ps:Array (Nat×Operand)):Ix P (.buildSlice t ln ps):=fun R e e' m x m' he hg h=>by
 have hk:∃el n,P.underlying t=some (.slice el)/\xSzT P el=some n:=by
  have a:=h;unfold opK at a;simp only at a;split at a
  ·rename_i el hT;split at a
   ·rename_i n _ _ hn _ _;exact⟨el,n,hT,hn⟩
   ·cases a
  ·cases a
 obtain⟨el,n,hT,hn⟩:=hk;obtain⟨zs,hzs⟩:=Aph (ln:=ln) (ps:=ps) hT hn;obtain⟨c,f,rfl,rfl,b,_,d⟩:=hzs R e e' m x m' he hg h;refine .inr ⟨.add _ _,fun _=>Atu _,fun Y Z Z9 dd ty pos af g hm=>?_⟩;obtain⟨L,G,hm⟩:=hm;refine d Y Z _ dd ty pos af g fun r=>?_;exact⟨R.add m.nx (r,0),_,hm.fresh _,.inl rfl,.slK XR.add_same .nil,hm.add (.cells (b.mono (hm.fresh _)) (Aoq _))⟩
theorem Amj(t:TypeId)(a b:Operand):Ix P (.makeSlice t a b):=fun R e e' m x m' he hg h=>by
 have ha:=Dy he hg a;have hb:=Dy he hg b;unfold opK at h;simp only at h;split at h
 ·rename_i el hT;split at h
  ·rename_i n z zc ti hn hz hzc hi;split at h
   ·rename_i c hc d g j;have d:1<=n:=lZ7 d;have g:=Hr g;have j:=lZ7 j;have h':(match (rdK a).run e,(rdK b).run e with
     | .i _ (.ofNat ln),.i _ (.ofNat cp)=>match Nat.beq ln cp,Nat.ble 1 ln,Nat.ble (Nat.mul ln n) 1000000 with
      | true,true,true=>OR.v (.sl m.nx 0 ln true ln) (m.add (.cells (xRepL c ln)))
      | _,_,_=>.bad
     | _,_=>.bad) = .v x m':=h
    split at h'
    ·rename_i k1 ln k2 cp hu hz';split at h'
     ·rename_i k p q;have k:=Hr k;have p:=lZ7 p;have q:ln*n<=1000000:=lZ7 q;subst k;have hln:ln<=1000000:=Tj (Nat.le_mul_of_pos_right _ d) q;obtain⟨rfl,rfl⟩:=Hs h';rw[hu]at ha;rw[hz']at hb;obtain⟨v,hv,rfl⟩:=Rf hz;obtain⟨L,N,f,u,E⟩:=Afj hzc;obtain⟨M,w,y⟩:=hv;rw[f]at w;cases w;rw[u]at y;cases y;rw[hi]at f;cases f;have hvc:=(vOf R v).cells hc;have G:=Akc R hvc ln;refine .inr (Asn (vs:=(List.replicate ln v.cells.toList).flatten) (el:=el) (Instr.makeSlice t (Af e' a) (Af e' b)) (fun r=>.slice (some ⟨r,0,none⟩) ln ln) (fun _ _ _ _ _=>rfl) (fun Y Z Q hq=>?_) G fun R' r hr=>.slK hr .nil);rw[Og ha,Og hb];unfold Instr.makeSlice;show wpS P Y ((underlying t).bind _) Z _;rw[Ad];refine Az hT ?_;show wpS P Y ((typeInfo el).bind _) Z _;rw[Ad];refine Gj hi ?_;have hw:IntKind.i64.wrap (Int.ofNat ln)=(ln:Int):=Bo (z':=(ln:Int)) rfl (by omega) (by omega);have J:((ti.bytes:Int)*(ln:Int))<=4096*1000000:=by
       have I:ti.bytes*ln<=4096*1000000:=Anc j hln;have F:(ti.bytes:Int)*(ln:Int)=((ti.bytes*ln:Nat):Int):=by push_cast;rfl
       rw[F];omega
      dsimp only;rw[hw];have B:((decide ((ln:Int)<0)||decide ((ti.bytes:Int)*(ln:Int)>2^48))||decide ((ln:Int)<0)||decide ((ln:Int)>(ln:Int)))=false:=by
       simp only[Awm,decide_eq_false_iff_not];refine⟨⟨⟨by omega,by omega⟩,by omega⟩,by omega⟩
      rw[B];simp only[Aiw,if_false];show wpS P Y ((askRoom (ln*ti.bytes)).bind _) _ _;rw[Ad];have H:∀{Q:Unit->Own->Prop} {Z':Own},Q () Z'->wpS P Y (askRoom (ln*ti.bytes)) Z' Q:=fun hq=>by
       unfold askRoom;split
       ·exact⟨rfl,hq⟩
       ·exact hq
      refine H ?_;show wpS P Y ((sizeOf el).bind _) Z _;rw[Ad];refine Dx (Od hn) ?_;have K:1<=ln*n:=Anc p d;have C:¬((ln:Int).toNat*n=0):=by simp only[Yk];omega
      rw[if_neg C];show wpS P Y ((zeroValue el).bind _) Z _;rw[Ad];refine Jz ⟨_,hi,u⟩ ?_;have D:((Array.range ((ln:Int).toNat*n)).map fun i=>v.cells[i%v.cells.size]!)=((List.replicate ln v.cells.toList).flatten).toArray:=by
       rw[<-Aaz v.cells n (by rw[E,g]) d ln];apply Array.ext';simp
      show wpS P Y ((newRow el ((Array.range ((ln:Int).toNat*n)).map fun i=>v.cells[i%v.cells.size]!)).bind _) Z _;rw[D,Ad];refine Ik fun r=>?_;simp only[Yk];exact hq r
     ·cases h'
    ·cases h'
   ·cases h
  ·cases h
 ·cases h
end
end
section
section
variable{P:Program}{R:XR}{e:Tr CV}{e':Env}{m m':Mem}{x:CV}{Y:Ro}{Z Z9:Own}{L:List (Nat×Nat×Res)}{G:Own}{t:TypeId}{mk:MK}
theorem Ach{k:CV}:∀{es:List (CV×CV)} {r:Option CV},findX mk k es=some r->(r=none/\∀p∈es,eqM mk k p.1=some false)∨∃j p,r=some p.2/\es[j]?=some p/\eqM mk k p.1=some true/\∀(i:Nat) q,i<j->es[i]?=some q->eqM mk k q.1=some false
 | [],r,h=>by cases h;exact .inl ⟨rfl,fun p hp=>by cases hp⟩
 | (a,v)::es,r,h=>by
  have h':(match eqM mk k a with|some true=>some (some v)|some false=>findX mk k es|none=>none)=some r:=h;split at h'
  ·rename_i ha;cases h';exact .inr ⟨0,(a,v),rfl,rfl,ha,fun i q hi=>absurd hi (Uk _)⟩
  ·rename_i ha;rcases Ach h' with⟨b,c⟩|⟨j,p,b,c,d,e⟩
   ·refine .inl ⟨b,fun p hp=>?_⟩;rcases lZ8.1 hp with rfl|hp
    ·exact ha
    ·exact c p hp
   ·refine .inr ⟨j+1,p,b,by simpa using c,d,fun i q hi hq=>?_⟩;cases i with
    | zero=>cases hq;exact ha
    | succ i=>exact e i q (by omega) (by simpa using hq)
  ·cases h'
theorem Arf{k v:CV}:∀{es r:List (CV×CV)},putX mk k v es=some r->(r=es++[(k,v)]/\∀p∈es,eqM mk k p.1=some false)∨∃j p,r=es.set j (k,v)/\es[j]?=some p/\eqM mk k p.1=some true/\∀(i:Nat) q,i<j->es[i]?=some q->eqM mk k q.1=some false
 | [],r,h=>by cases h;exact .inl ⟨rfl,fun p hp=>by cases hp⟩
 | (a,w)::es,r,h=>by
  have h':(match eqM mk k a with
   | some true=>some ((k,v)::es)
   | some false=>match putX mk k v es with|some r=>some ((a,w)::r)|none=>none
   | none=>none)=some r:=h
  split at h'
  ·rename_i ha;cases h';exact .inr ⟨0,(a,w),rfl,rfl,ha,fun i q hi=>absurd hi (Uk _)⟩
  ·rename_i ha;cases hp:putX mk k v es with
   | none=>rw[hp]at h';cases h'
   | some r' =>
    rw[hp]at h';cases h';rcases Arf hp with⟨b,c⟩|⟨j,p,b,c,d,e⟩
    ·refine .inl ⟨by rw[b];rfl,fun p hp=>?_⟩;rcases lZ8.1 hp with rfl|hp
     ·exact ha
     ·exact c p hp
    ·refine .inr ⟨j+1,p,by rw[b];rfl,by simpa using c,d,fun i q hi hq=>?_⟩;cases i with
     | zero=>cases hq;exact ha
     | succ i=>exact e i q (by omega) (by simpa using hq)
  ·cases h'
theorem Avw:∀{ks:List IntKind} {a b:List CV},eqF ks a b=some true->a=b
 | [],a,b,h=>by
  replace h:eqF0 a b=some true:=h;unfold eqF0 at h;split at h
  ·rfl
  ·cases h
 | k::ks,a,b,h=>by
  obtain⟨p,x,q,y,r',rfl,rfl,d,c⟩:=Alz h;have c:=c.symm;rw[Pc]at c;rw[c.2]at d;rw[Avw d,eq_of_beq c.1]
theorem Apu:∀{ks:List IntKind} {a b:List CV} {r:Bool} {v w:List Value},eqF ks a b=some r->VR R a v->VR R a w->v=w
 | [],a,b,r,v,w,h,h1,h2=>by
  replace h:eqF0 a b=some r:=h;unfold eqF0 at h;split at h
  ·cases h1;cases h2;rfl
  ·cases h
 | k::ks,a,b,r,v,w,h,h1,h2=>by
  obtain⟨p,x,q,y,r',rfl,rfl,g,i⟩:=Alz h
  match v,w,h1,h2 with
  | v0::v,w0::w,h1,h2 =>
   obtain⟨c,d⟩:=VR.cons_iff.1 h1;obtain⟨e,f⟩:=VR.cons_iff.1 h2;rw[Og c,Og e,Apu g d f]
theorem Bso{s a b}(h:eqM .str (.s s) a=some b):∃q,a = .s q/\xEqS s q=b:=by cases a<;>first|exact⟨_,rfl,Option.some.inj h⟩|cases h
theorem Bkt{ks a c b}(h:eqM (.flat ks) (.g a) c=some b):∃q,c = .g q/\eqF ks a q=some b:=by cases c<;>first|exact⟨_,rfl,h⟩|cases h
theorem Bku{k a v w}(h:eqM mk k a=some true)(hv:V1 R k v)(hw:V1 R a w):w=v:=by
 unfold eqM at h;split at h
 ·rename_i p q;rw[Yf]at h;have:p=q:=by simpa using h
  subst this;rw[Zs hv,Zs hw]
 ·rename_i ks p q;have:=Avw h;subst this;obtain⟨v',d,e⟩:=Afe hv;obtain⟨w',f,g⟩:=Afe hw;rw[e,g,Apu h d f]
 ·split at h
  ·rename_i b c;have b:=Mg b;have c:=Mg c;rw[Abg]at h;have:=eq_of_beq (Option.some.inj h);rw[Og hv,Og hw,<-b,<-c,this]
  ·cases h
 ·cases h
theorem Bsn{k k1:IntKind}{n:Int}{a:CV}{b:Bool}(h:eqM (.int k) (.i k1 n) a=some b):∃q,k1=k/\a = .i k q/\(n==q)=b:=by
 cases a with
 | i k2 q =>
  have h':(match xKind k k1,xKind k k2 with|true,true=>some (xEqI n q)|_,_=>none)=some b:=h;split at h'
  ·rename_i q1 q2;rw[Abg]at h';rw[<-Mg q2];exact⟨q,(Mg q1).symm,rfl,Option.some.inj h'⟩
  ·cases h'
 | _=>cases h
theorem Age{k:CV}(h:keyOk .str k=true):∃s,k = .s s:=by
 cases k with
 | s s=>exact⟨s,rfl⟩
 | _=>cases h
theorem Agc{kk:IntKind}{k:CV}(h:keyOk (.int kk) k=true):∃n,k = .i kk n:=by
 cases k with
 | i k1 n =>
  have h':xKind kk k1=true:=h;rw[<-Mg h'];exact⟨n,rfl⟩
 | _=>cases h
theorem Acj{ks:List IntKind}{k:CV}(h:keyOk (.flat ks) k=true):∃a,k = .g a/\(eqF ks a a).isSome=true:=by
 cases k with
 | g a=>exact⟨a,rfl,h⟩
 | _=>cases h
def Before(mk:MK)(k:CV)(es:List (CV×CV))(j:Nat):Prop:=∀(i:Nat) q,i<j->es[i]?=some q->eqM mk k q.1=some false
theorem Arr{kd:TypeDesc}{k:CV}{kv:Value}(hstep:∀{a:CV} {w:Value} {b:Bool},V1 R a w->eqM mk k a=some b->Instr.sameNow kd kv w=some b):∀(es:List (CV×CV)) (en:List MapEntry) (i:Nat),VR R (es.map Prod.fst) (en.map MapEntry.key) ->
  ((∀p∈es,eqM mk k p.1=some false)->Instr.findNow kd kv en i=some none) /\
  (∀j p,es[j]?=some p->eqM mk k p.1=some true->Before mk k es j->∃e,en[j]?=some e/\Instr.findNow kd kv en i=some (some (i+j,e.val)))
 | [],[],i,_=>⟨fun _=>rfl,fun j p h=>by cases h⟩
 | (a,v)::es,e::en,i,h=>by
  rw[Ic,Ic]at h;obtain⟨h1,h2⟩:=VR.cons_iff.1 h;obtain⟨m,n⟩:=Arr hstep es en (i+1) h2;refine⟨fun c=>?_,fun j p hj ht hb=>?_⟩
  ·simp only[Instr.findNow,hstep h1 (c (a,v) mC)];exact m fun p hp=>c p (lZ0 _ hp)
  ·cases j with
   | zero =>
    cases hj;exact⟨e,rfl,by simp only[Instr.findNow,hstep h1 ht,Abk]⟩
   | succ j =>
    obtain⟨d,f,g⟩:=n j p (by simpa using hj) ht fun i' q hi hq=>hb (i'+1) q (by omega) (by simpa using hq);refine⟨d,by simpa using f,?_⟩;simp only[Instr.findNow,hstep h1 (hb 0 (a,v) (by omega) rfl)];rw[g];congr 3;omega
 | [],_::_,_,h=>absurd h.len (by simp)
 | _::_,[],_,h=>absurd h.len (by simp)
theorem Bqa{s:List UInt8}{a:CV}{w:Value}{b:Bool}(h1:V1 R a w)(hb:eqM .str (.s s) a=some b):Instr.sameNow .string (.string ⟨s.toArray⟩) w=some b:=by obtain⟨q,rfl,hq⟩:=Bso hb;rw[Zs h1];simp only[Instr.sameNow];rw[Aec,ByteArray.toList_eq,ByteArray.toList_eq];rw[Yf]at hq;simpa using hq
theorem Bpz{k:IntKind}{n:Int}{a:CV}{w:Value}{b:Bool}(h1:V1 R a w)(hb:eqM (.int k) (.i k n) a=some b):Instr.sameNow (.int k) (.int k n) w=some b:=by obtain⟨q,_,rfl,hq⟩:=Bsn hb;rw[Og h1];simp only[Instr.sameNow,if_true,hq]
theorem Ayt{kt:TypeId}{ks:List IntKind}(hf:flatT P kt=some ks){a:List CV}{av:List Value}(hav:VR R a av):∀(es:List (CV×CV)) (en:List MapEntry) (i:Nat) (Q:Option (Nat×Value)->Own->Prop),VR R (es.map Prod.fst) (en.map MapEntry.key) ->
  ((∀p∈es,eqM (.flat ks) (.g a) p.1=some false)->Q none Z->wpS P Y (Instr.findAsking kt (.agg av.toArray) en i) Z Q) /\
  (∀j p,es[j]?=some p->eqM (.flat ks) (.g a) p.1=some true->Before (.flat ks) (.g a) es j->∃e,en[j]?=some e/\(Q (some (i+j,e.val)) Z->wpS P Y (Instr.findAsking kt (.agg av.toArray) en i) Z Q))
 | [],[],i,Q,_=>⟨fun _ hq=>hq,fun j p h=>by cases h⟩
 | (b,v)::es,e::en,i,Q,h=>by
  rw[Ic,Ic]at h;obtain⟨h1,h2⟩:=VR.cons_iff.1 h;obtain⟨w,x⟩:=Ayt hf hav es en (i+1) Q h2;obtain⟨fs,n,t,B,u⟩:=Adt hf;have c:∀{r:Bool},eqM (.flat ks) (.g a) b=some r->∀{Q':Bool->Own->Prop},Q' r Z->wpS P Y (Op.equal kt (.agg av.toArray) e.key) Z Q':=fun {r} hb {Q'} hq=>by
   obtain⟨q,rfl,hb⟩:=Bkt hb;obtain⟨bv,o1,f⟩:=Afe h1;rw[f];obtain⟨ps,qs,y,z⟩:=Ama fs.toList 0 ks a q av bv r u hb hav o1;refine Ms (d:=9998) (fs:=fs.toList) (by rw[Adz];exact n) t y ?_;rw[<-z];exact hq
  refine⟨fun k hq=>?_,fun j p hj ht hb=>?_⟩
  ·show wpS P Y ((Op.equal kt (.agg av.toArray) e.key).bind _) Z Q;rw[Ad];refine c (k (b,v) mC) ?_;exact w (fun p hp=>k p (lZ0 _ hp)) hq
  ·cases j with
   | zero =>
    cases hj;refine⟨e,rfl,fun hq=>?_⟩;show wpS P Y ((Op.equal kt (.agg av.toArray) e.key).bind _) Z Q;rw[Ad];exact c ht hq
   | succ j =>
    obtain⟨m,o1,f⟩:=x j p (by simpa using hj) ht fun i' q hi hq=>hb (i'+1) q (by omega) (by simpa using hq);refine⟨m,by simpa using o1,fun hq=>?_⟩;show wpS P Y ((Op.equal kt (.agg av.toArray) e.key).bind _) Z Q;rw[Ad];refine c (hb 0 (b,v) (by omega) rfl) ?_;refine f ?_;rw[show i+1+j=i+(j+1) by omega];exact hq
 | [],_::_,_,_,h=>absurd h.len (by simp)
 | _::_,[],_,_,h=>absurd h.len (by simp)
theorem Ani{kt}(h:mapKind P kt=some mk):(P.underlying kt=some .string/\mk = .str)∨(∃k,P.underlying kt=some (.int k)/\mk = .int k)∨∃ks,flatT P kt=some ks/\mk = .flat ks:=by
 unfold mapKind at h;split at h
 ·rename_i hk;cases h;exact .inl ⟨hk,rfl⟩
 ·rename_i k hk;cases h;exact .inr (.inl ⟨k,hk,rfl⟩)
 ·split at h
  ·rename_i ks hf;cases h;exact .inr (.inr ⟨ks,hf,rfl⟩)
  ·cases h
 ·cases h
theorem Aff{kt}(hk:mapKind P kt=some mk){k kv}(hkv:V1 R k kv)(hok:keyOk mk k=true){es en}(hes:VR R (es.map Prod.fst) (en.map MapEntry.key))(Q:Option (Nat×Value)->Own->Prop):
  ((∀p∈es,eqM mk k p.1=some false)->Q none Z->wpS P Y (Instr.findKey kt kv en) Z Q) /\
  (∀j p,es[j]?=some p->eqM mk k p.1=some true->Before mk k es j->∃e,en[j]?=some e/\(Q (some (j,e.val)) Z->wpS P Y (Instr.findKey kt kv en) Z Q)):=by
 have now:∀{kd:TypeDesc},P.underlying kt=some kd->(∀{a:CV} {w:Value} {b:Bool},V1 R a w->eqM mk k a=some b->Instr.sameNow kd kv w=some b) ->
   ((∀p∈es,eqM mk k p.1=some false)->Q none Z->wpS P Y (Instr.findKey kt kv en) Z Q) /\
   (∀j p,es[j]?=some p->eqM mk k p.1=some true->Before mk k es j->∃e,en[j]?=some e/\(Q (some (j,e.val)) Z->wpS P Y (Instr.findKey kt kv en) Z Q)):=fun {kd} c hstep=>by
  obtain⟨g,h⟩:=Arr hstep es en 0 hes;refine⟨fun i hq=>?_,fun j p hj ht hb=>?_⟩
  ·show wpS P Y ((underlying kt).bind _) Z Q;rw[Ad];refine Az c ?_;simp only[g i];exact hq
  ·obtain⟨f,o1,t⟩:=h j p hj ht hb;refine⟨f,o1,fun hq=>?_⟩;show wpS P Y ((underlying kt).bind _) Z Q;rw[Ad];refine Az c ?_;simp only[t,Qz];exact hq
 rcases Ani hk with⟨c,rfl⟩|⟨kk,c,rfl⟩|⟨ks,c,rfl⟩
 ·obtain⟨s,rfl⟩:=Age hok;have:=Zs hkv;subst this;exact now c Bqa
 ·obtain⟨n,rfl⟩:=Agc hok;have:=Og hkv;subst this;exact now c Bpz
 ·obtain⟨a,rfl,hok⟩:=Acj hok;obtain⟨av,o1,rfl⟩:=Afe hkv;obtain⟨g,h⟩:=Ayt (Y:=Y) (Z:=Z) c o1 es en 0 Q hes;obtain⟨fs,q,_⟩:=Adt c;have hne:∀d l,Instr.findNow (.struct fs) (.agg av.toArray) (d::l) 0=none:=fun d l=>rfl;have m:wpS P Y (Instr.findAsking kt (.agg av.toArray) en 0) Z Q->wpS P Y (Instr.findKey kt (.agg av.toArray) en) Z Q:=fun hq=>by
   show wpS P Y ((underlying kt).bind _) Z Q;rw[Ad];refine Az q ?_;cases en with
   | nil=>exact hq
   | cons d l=>simp only[hne];exact hq
  refine⟨fun i hq=>m (g i hq),fun j p hj ht hb=>?_⟩;obtain⟨f,u,v⟩:=h j p hj ht hb;refine⟨f,u,fun hq=>m (v (by rw[Qz];exact hq))⟩
theorem Abo{xs ys:Array Value}{d:Nat}{em:Bool}{K:PUnit->Own->Prop}:∀(fs:List Field) (ps qs:List Int),EqF P xs ys fs ps qs->K PUnit.unit Z ->
  wpS P Y (forIn fs PUnit.unit fun (f:Field) (_:PUnit) =>
   if f.name ≠ "_" then do
    Instr.checkKey em (d+1) f.type (<-part f.type xs f.offset)
    pure (ForInStep.yield PUnit.unit)
   else pure (ForInStep.yield PUnit.unit)) Z K
 | [],[],[],_,h=>h
 | f::fs,p::ps,q::qs,⟨⟨hn,k,hT,hx,hy⟩,hr⟩,h=>by
  rw[Bdr];show wpS P Y (Sem.bind _ _) Z K;rw[Ad,if_pos hn];show wpS P Y ((part f.type xs f.offset).bind _) Z _;rw[Ad];refine Qr ⟨_,hT,rfl⟩ hx ?_;show wpS P Y (Sem.bind (Instr.checkKey em (d+1) f.type (.int k p)) _) Z _;rw[Ad];show wpS P Y ((underlying f.type).bind _) Z _;rw[Ad];refine Az hT ?_;exact Abo fs ps qs hr h
 | [],[],_::_,h,_=>h.elim
 | [],_::_,_,h,_=>h.elim
 | _::_,[],_,h,_=>h.elim
 | _::_,_::_,[],h,_=>h.elim
theorem Arq{kt}(hk:mapKind P kt=some mk){k kv}(hkv:V1 R k kv)(hok:keyOk mk k=true){em Q}(h:Q () Z):wpS P Y (Instr.checkKey em 10000 kt kv) Z Q:=by
 rcases Ani hk with⟨b,rfl⟩|⟨kk,b,rfl⟩|⟨ks,b,rfl⟩
 ·obtain⟨s,rfl⟩:=Age hok;have:=Zs hkv;subst this;exact Qo (m:=9999) b h
 ·obtain⟨n,rfl⟩:=Agc hok;have:=Og hkv;subst this;show wpS P Y ((underlying kt).bind _) Z Q;rw[Ad];exact Az b h
 ·obtain⟨a,rfl,hok⟩:=Acj hok;obtain⟨av,o1,rfl⟩:=Afe hkv;obtain⟨fs,e,i,j,f⟩:=Adt b;obtain⟨r,hr⟩:=Bat.1 hok;obtain⟨ps,qs,g,p⟩:=Ama fs.toList 0 ks a a av av r f hr o1 o1;show wpS P Y ((underlying kt).bind _) Z Q;rw[Ad];refine Az e ?_;have c:fs=fs.toList.toArray:=by simp
  rw[c];simp only[Bdi];show wpS P Y (Sem.bind (forIn fs.toList _ _) _) Z Q;rw[Ad];exact Abo (d:=9998) fs.toList ps qs g h
end
end
section
section
variable{P:Program}{R:XR}{e:Tr CV}{e':Env}{m m':Mem}{x:CV}{Y:Ro}{Z:Own}
theorem Amb{fn:Func}(h:fn.name = "internal/bytealg.IndexByteString"):Extern.find fn=some Extern.BytealgIndexByte.indexByte:=by
 have a:(Extern.allGenericRows.lookup "internal/bytealg.IndexByteString").isNone=true:=by kernel_rfl
 have b:(Extern.allTypedRows.lookup "internal/bytealg.IndexByteString").isNone=true:=by kernel_rfl
 have c:Extern.allRows.lookup "internal/bytealg.IndexByteString" = some Extern.BytealgIndexByte.indexByte:=by kernel_rfl
 rw[Option.isNone_iff_eq_none]at a b;unfold Extern.find;simp only[h,a,b,c];rfl
theorem Azw{fn:Func}(h:fn.name = "internal/bytealg.CountString"):Extern.find fn=some Extern.BytealgCount.count:=by
 have a:(Extern.allGenericRows.lookup "internal/bytealg.CountString").isNone=true:=by kernel_rfl
 have b:(Extern.allTypedRows.lookup "internal/bytealg.CountString").isNone=true:=by kernel_rfl
 have c:Extern.allRows.lookup "internal/bytealg.CountString" = some Extern.BytealgCount.count:=by kernel_rfl
 rw[Option.isNone_iff_eq_none]at a b;unfold Extern.find;simp only[h,a,b,c];rfl
theorem Bxb{g:Nat}{ex:EX}(h:xExt P g=some ex):∃fn,P.funcs[g]?=some fn/\(fn.name == "runtime.NumGoroutine")=false/\fn.body.isNone=true/\Extern.findNext fn=none/\xExtN fn.name=some ex:=by
 unfold xExt at h;split at h
 ·rename_i fn hf;split at h
  ·cases h
  ·rename_i hb;split at h
   ·rename_i hn hx;exact⟨fn,hf,hn,hb,by simpa using hx,h⟩
   ·cases h
 ·cases h
theorem Bcv{c:UInt8}:∀(l pre:List UInt8),xIdxB c.toNat l pre.length=(List.range' pre.length l.length).find? fun i=>(pre++l)[i]! == c
 | [],pre=>rfl
 | a::l,pre=>by
  have e1:xIdxB c.toNat (a::l) pre.length=(match Nat.beq a.toNat c.toNat with|true=>some pre.length|false=>xIdxB c.toNat l (pre.length+1)):=rfl;have b:(pre++a::l)[pre.length]! = a:=by simp
  rw[e1,Gb,Agl,List.find?_cons,b];by_cases h:a=c
  ·subst h;have:Nat.beq a.toNat a.toNat=true:=by simp
   rw[this];simp
  ·have d:Nat.beq a.toNat c.toNat=false:=by
    cases hx:Nat.beq a.toNat c.toNat with
    | false=>rfl
    | true=>exact absurd (UInt8.toNat_inj.1 (Hr hx)) h
   have e:(a==c)=false:=by simpa using h
   rw[d,e];have:=Bcv (c:=c) l (pre++[a]);rw[lZ4,Xo,lZ9]at this;exact this
theorem Atc{c:UInt8}:∀(l:List UInt8) (n:Int),l.foldl (fun n x=>if x==c then n+1 else n) n=n+(xCntB c.toNat l:Nat)
 | [],n=>(Bdy n).symm
 | a::l,n=>by
  have e1:xCntB c.toNat (a::l)=(match Nat.beq a.toNat c.toNat with|true=>Nat.succ (xCntB c.toNat l)|false=>xCntB c.toNat l):=rfl;rw[Axd,e1];by_cases h:a=c
  ·subst h;have:Nat.beq a.toNat a.toNat=true:=by simp
   rw[this,Atc l];simp only[beq_self_eq_true,if_true];show n+1+_=n+((xCntB a.toNat l+1:Nat):Int);omega
  ·have b:Nat.beq a.toNat c.toNat=false:=by
    cases hx:Nat.beq a.toNat c.toNat with
    | false=>rfl
    | true=>exact absurd (UInt8.toNat_inj.1 (Hr hx)) h
   have d:(a==c)=false:=by simpa using h
   rw[b,d,Atc l];simp
theorem Amf{β:Type}(l:List UInt8)(f:β->UInt8->β)(h:l.length<=(⟨l.toArray⟩:ByteArray).size):∀(i j:Nat) (z:β),i+j=l.length->@ByteArray.foldlM.loop β _root_.Id _ (fun b a=>f b a) (⟨l.toArray⟩:ByteArray) l.length h i j z=(l.drop j).foldl f z
 | 0,j,z,hij=>by
  unfold ByteArray.foldlM.loop;rw[dif_neg (by omega),Awk (by omega)];rfl
 | i+1,j,z,hij=>by
  have hj:j<l.length:=by omega
  unfold ByteArray.foldlM.loop;rw[dif_pos hj,Amy hj,Axd];exact Amf l f h i (j+1) _ (by omega)
theorem Cao{β:Type}(l:List UInt8)(f:β->UInt8->β)(z:β):(⟨l.toArray⟩:ByteArray).foldl f z=l.foldl f z:=by have:=Amf l f (Ib _) l.length 0 z (by omega);rw[Apa]at this;rw[<-this];unfold ByteArray.foldl ByteArray.foldlM;rw[dif_pos (Ib _)];rfl
theorem Bcq{n:String}{ex:EX}(h:xExtN n=some ex):(n = "internal/bytealg.IndexByteString"/\ex = .indexByte)∨(n = "internal/bytealg.CountString"/\ex = .count):=by
 unfold xExtN at h;split at h
 ·rename_i hn;cases h;exact .inl ⟨by simpa using hn,rfl⟩
 ·split at h
  ·rename_i hn;cases h;exact .inr ⟨by simpa using hn,rfl⟩
  ·cases h
theorem Bsq{fn:Func}{ex:EX}{args:List CV}{vs:List Value}{v:CV}(hx:xExtN fn.name=some ex)(hv:xExtV ex args=some v)(h:VR R args vs) :
  ∃w G,Extern.find fn=some G/\V1 R v w/\∀Y Z,wpS P Y (G vs.toArray) Z (fun a Z'=>a=w/\Z'=Z):=by
 have two:∀{l:List UInt8} {b:Nat},args=[.s l,.i .u8 (.ofNat b)]->vs=[.string ⟨l.toArray⟩,.int .u8 (b:Nat)]:=fun {l b} e=>by
  subst e
  match vs,h with
  | [p,q],h =>
   obtain⟨j,k⟩:=VR.cons_iff.1 h;have m:=VR.cons_iff.1 k;rw[Zs j,Og m.1];rfl
 have f:∀{b:Nat},Nat.ble b 255=true->(b.toUInt8).toNat=b:=fun {b} h=>by
  have:=lZ7 h;simp;omega
 have get:∀(l:List UInt8) (i:Nat),(⟨l.toArray⟩:ByteArray)[i]! = l[i]!:=fun l i=>by
  by_cases h:i<l.length
  ·rw[getElem!_pos (⟨l.toArray⟩:ByteArray) i (by show i<l.toArray.size;simpa using h),getElem!_pos l i h];rfl
  ·rw[getElem!_neg (⟨l.toArray⟩:ByteArray) i (by show ¬i<l.toArray.size;simpa using h),getElem!_neg l i h]
 unfold xExtV at hv;split at hv
 ·rename_i l b;rcases Bcq hx with⟨hn,_⟩|⟨_,he⟩
  ·split at hv
   ·rename_i hb;have d:=two rfl;subst d;have g:=Bcv (c:=b.toUInt8) l [];rw[f hb,Agn,Nx,<-Awn]at g;have run:∀{Y:Ro} {Z:Own} {Q:Value->Own->Prop},Q (match xIdxB b l 0 with|some i=>goInt i|none=>goInt (-1)) Z->wpS P Y (Extern.BytealgIndexByte.indexByte #[.string ⟨l.toArray⟩,.int .u8 (b:Nat)]) Z Q:=fun {Y Z Q} hq=>by
     show wpS P Y (match (List.range l.toArray.size).find? fun i=>(⟨l.toArray⟩:ByteArray)[i]! == b.toUInt8 with|some i=>pure (goInt i)|none=>pure (goInt (-1))) Z Q;simp only[get,Aiy];rw[<-g];revert hq;cases xIdxB b l 0 with
     | none=>exact fun hq=>hq
     | some i=>exact fun hq=>hq
    split at hv
    ·rename_i i hi;cases hv;rw[hi]at run;exact⟨_,_,Amb hn,.i _ _ .nil,fun Y Z=>run ⟨rfl,rfl⟩⟩
    ·rename_i hi;cases hv;rw[hi]at run;exact⟨_,_,Amb hn,.i _ _ .nil,fun Y Z=>run ⟨rfl,rfl⟩⟩
   ·cases hv
  ·cases he
 ·rename_i l b;rcases Bcq hx with⟨_,he⟩|⟨hn,_⟩
  ·cases he
  ·split at hv
   ·rename_i hb;have d:=two rfl;subst d;cases hv;refine⟨_,_,Azw hn,.i _ _ .nil,fun Y Z=>?_⟩;show wpS P Y (pure (goInt ((⟨l.toArray⟩:ByteArray).foldl (fun n x=>if x==b.toUInt8 then n+1 else n) (0:Int)))) Z _;refine⟨?_,rfl⟩;rw[Cao l _ 0,Atc,f hb,Int.zero_add];rfl
   ·cases hv
 ·cases hv
theorem Blk{c:Call}{g:Nat}{ex:EX}(hc:c.callee = .value (.func g))(hx:xExt P g=some ex)(he:EnvR R e e')(hg:Pe R){v:CV}(hv:xExtV ex ((rdsK c.args.toList).run e)=some v):Tc P (.call c) R e' v:=by obtain⟨cl,az,ts⟩:=c;simp only at hc hv;subst hc;obtain⟨fn,hf,hn,hb,j,hxn⟩:=Bxb hx;obtain⟨vs,h,i⟩:=Aey he hg az;obtain⟨w,G,b,d,f⟩:=Bsq (P:=P) hxn hv h;refine⟨w,d,fun Y Z dd ty pos af gd=>?_⟩;rw[Bkw e' i];exact Bvf hf hn hb j b (Eu (by rintro a Z' ⟨rfl,rfl⟩;exact⟨rfl,rfl⟩) _ _ (f Y Z))
end
end
section
section
variable{P:Program}{R:XR}{e:Tr CV}{e':Env}{m m':Mem}{x:CV}{Y:Ro}{Z Z9:Own}{L:List (Nat×Nat×Res)}{G:Own}{t:TypeId}{mk:MK}
theorem Auc(m:Mem)(k:Nat):m.row k=(match m.obj k with|some o=>xRowO o|none=>none):=by
 unfold Mem.row Mem.obj;cases m.M.get k with
 | none=>rfl
 | some c=>cases c<;>rfl
theorem Bir{m8:Mem}{k}(h:m8.obj k=m.obj k):m8.row k=m.row k:=by rw[Auc,Auc,h]
theorem Awg{R9:XR}:∀{ks:List IntKind} {a b:List CV} {l:List Value},(eqF ks a b).isSome=true->VR R a l->VR R9 a l
 | [],a,b,l,h,hv=>by
  have h':(eqF0 a b).isSome=true:=h;unfold eqF0 at h';split at h'
  ·cases hv;exact .nil
  ·cases h'
 | k::ks,a,b,l,h,hv=>by
  have h':(eqF1 k (eqF ks) a b).isSome=true:=h;unfold eqF1 at h';split at h'
  ·split at h'
   ·split at h'
    ·rename_i hx;cases hv with
     | i k n hv=>exact .i _ _ (Awg (by rw[hx];rfl) hv)
    ·cases h'
   ·cases h'
  ·cases h'
theorem Btb{R9 y v}(h:keyOk mk y=true)(hv:V1 R y v):V1 R9 y v:=by
 cases mk with
 | str =>
  obtain⟨s,rfl⟩:=Age h;rw[Zs hv];exact .s _ .nil
 | int k =>
  obtain⟨n,rfl⟩:=Agc h;rw[Og hv];exact .i _ _ .nil
 | flat ks =>
  obtain⟨a,rfl,h⟩:=Acj h;cases hv with
  | g h1 h2=>cases h2;exact .g (Awg h h1) .nil
def loadM(P:Program)(t:TypeId)(a:CV)(m:Mem):OR:=match a with
 | .p k off=>match m.row k with
  | some l=>match (partK P t).run (xDrp off l) with|some v=>.rd v k|none=>.bad
  | none=>.bad
 | _=>.bad
theorem Bgy(t:TypeId)(a:Operand):Aux P (.load t a):=fun R e e' m x k he hg h R9 m8 Y Z Z9 hm ho B=>by
 have ha:=Dy he hg a;have D:∀m,(opK P (.load t a)).run e m=loadM P t ((rdK a).run e) m:=fun m=>rfl;rw[D]at h;unfold loadM at h;split at h
 ·rename_i k1 off hu;split at h
  ·rename_i l hl;split at h
   ·rename_i w hw;obtain⟨rfl,rfl⟩:=Aen h;rw[hu]at ha;obtain⟨b,c,hR,hav⟩:=Ayo ha;rw[<-B]at hR;rw[<-Bir ho]at hl;obtain⟨L,G,hm⟩:=hm;rw[Abd]at hw;unfold partK at hw;split at hw
    ·rename_i hagg;split at hw
     ·rename_i n hn;cases hr:xTkn n (l.drop off) with
      | none=>simp only[hr]at hw;cases hw
      | some r =>
       simp only[hr,Option.some.injEq]at hw;subst hw;obtain⟨y,z⟩:=Abh _ _ _ hr;obtain⟨j,p,vs,d,f,i,q,_⟩:=hm.cells (P:=P) hl y z;rw[hR]at d;cases d;refine⟨.agg vs.toArray,.g f .nil,fun dd ty pos af g=>?_⟩;show wpS P Y ((Instr.loadAt t (Af e' a)).bind fun v=>Sem.pure (Next.value v)) Z _;rw[Ad,hav];show wpS P Y ((isAgg t).bind _) Z _;rw[Ad];refine Hi (Aad hagg) ?_;show wpS P Y ((sizeOf t).bind fun n=>(loadCells ⟨b,off,none⟩ n).bind _) Z _;rw[Ad];refine Dx (Od hn) ?_;rw[Ad];exact q _ ⟨rfl,rfl⟩
     ·cases hw
    ·rename_i hagg;have hw':(match l.drop off with|v::_=>some v|[]=>none)=some w:=hw;split at hw'
     ·rename_i v rest hd;cases hw';have C:[w]=(l.drop off).take 1:=by rw[hd];rfl
      obtain⟨j,p,vs,d,f,i,_,u⟩:=hm.cells (P:=P) (n:=1) hl (by rw[hd];simp) C;rw[hR]at d;cases d;obtain⟨v',rfl⟩:∃v',vs=[v']:=by
       match vs,i with
       | [v'],_=>exact⟨v',rfl⟩
      refine⟨v',f,fun dd ty pos af g=>?_⟩;show wpS P Y ((Instr.loadAt t (Af e' a)).bind fun v=>Sem.pure (Next.value v)) Z _;rw[Ad,hav];show wpS P Y ((isAgg t).bind _) Z _;rw[Ad];refine Hi (Aad hagg) ?_;exact u v' rfl _ ⟨rfl,rfl⟩
     ·cases hw'
    ·cases hw
   ·cases h
  ·cases h
 ·cases h
theorem MemR.map(hm:MemR R m Y Z Z9 L G){k es}(hk:m.obj k=some (.map es)):∃b c en ck,R k=some (b,c)/\Has Y Z b (.map (List.toArray en) ck)/\VR R (es.map Prod.fst) (en.map MapEntry.key)/\VR R (es.map Prod.snd) (en.map MapEntry.val)/\BornOk en ck:=by
 unfold Mem.obj at hk;cases hg:m.M.get k with
 | none=>rw[hg]at hk;cases hk
 | some c0 =>
  rw[hg]at hk;cases c0 with
  | own o =>
   cases hk;obtain⟨b,c,r,i,d,e,a,j⟩:=hm.at hg (by simp);cases a with
   | map g1 g2 g3=>exact⟨b,c,_,_,d,.inr (lZ6 e),g1,g2,g3⟩
  | ro o =>
   cases hk;obtain⟨b,c,x,d,e,f,a⟩:=hm.ro k _ hg;cases x with
   | cells cs t' f'=>exact absurd a (fun h=>by cases h)
   | map en ck =>
    have g:ObjR R c (.map es) (.obj (.map en ck)):=a;cases g with
    | map g1 g2 g3=>exact⟨b,c,_,_,d,.inl e,g1,g2,g3⟩
   | _=>exact absurd a (fun h=>by cases h)
def lookM(mk:MK)(z:CV)(ok:Bool)(a y:CV)(m:Mem):OR:=match a with
 | .m k=>match m.obj k,keyOk mk y with
  | some (.map es),true=>match findX mk y es with
   | some (some v)=>.rd (match ok with|true=>.t [v,.b true]|false=>v) k
   | some none=>.rd (match ok with|true=>.t [z,.b false]|false=>z) k
   | none=>.bad
  | _,_=>.bad
 | _=>.bad
theorem Awd(t:TypeId)(a y:Operand)(ok:Bool):Aux P (.lookup t a y ok):=fun R e e' m x k he hg h R9 m8 Y Z Z9 hm ho O=>by
 have ha:=Dy he hg a;have V:=Dy he hg y;have c:=h;unfold opK at h;simp only at h;split at h
 ·rename_i kt el hT;split at h
  ·rename_i mk z hk hz;have U:∀m,(opK P (.lookup t a y ok)).run e m=lookM mk z ok ((rdK a).run e) ((rdK y).run e) m:=fun m=>by
    unfold opK;simp only[hT,hk,hz];rfl
   rw[U]at c;clear h;unfold lookM at c;split at c
   ·rename_i k1 hu;split at c
    ·rename_i es hes hok;rw[hu]at ha;obtain⟨bb,cc,hR,hav⟩:=Bzh ha;have T:k1=k:=by
      split at c
      ·exact(Aen c).2
      ·exact(Aen c).2
      ·cases c
     subst T;have hy:V1 R9 ((rdK y).run e) (Af e' y):=Btb hok V;rw[<-O]at hR;rw[<-ho]at hes;obtain⟨L,G,hm⟩:=hm;obtain⟨X,YQ,en,ck,B,J,C,K,_⟩:=hm.map hes;rw[hR]at B;cases B;obtain⟨zv,hzv,rfl⟩:=Rf hz;have H:∀(v:Value) dd ty pos af g,(wpS P Y (Instr.findKey kt (Af e' y) en) Z fun r Z'=>Z'=Z/\(match r with|some (_,w)=>(if ok=true then Value.tuple #[w,.bool true] else w)=v|none=>(if ok=true then Value.tuple #[zv,.bool false] else zv)=v)) ->
       wpS P Y (execOp (Af e') ⟨dd,.lookup t a y ok,ty,pos,af,g⟩) Z (fun nx Z'=>nx = .value v/\Z'=Z):=fun v dd ty pos af g hf=>by
      show wpS P Y ((Instr.lookup t (Af e' a) (Af e' y) ok).bind fun v=>Sem.pure (Next.value v)) Z _;rw[Ad,hav];show wpS P Y ((underlying t).bind _) Z _;rw[Ad];refine Az hT ?_;show wpS P Y ((getObj bb).bind _) Z _;rw[Ad];refine⟨_,J,rfl,?_⟩;show wpS P Y ((Instr.checkKey en.toArray.isEmpty 10000 kt _).bind _) Z _;rw[Ad];refine Arq hk hy hok ?_;show wpS P Y ((Instr.findKey kt (Af e' y) en).bind _) Z _;rw[Ad];refine Eu ?_ _ _ hf;rintro r Z' ⟨rfl,hr⟩;cases r with
      | none =>
       show wpS P Y ((zeroValue el).bind _) _ _;rw[Ad];refine Jz hzv ?_;simp only at hr;rw[<-hr];exact⟨rfl,rfl⟩
      | some p =>
       simp only at hr;rw[<-hr];exact⟨rfl,rfl⟩
     split at c
     ·rename_i v hf;obtain⟨rfl,_⟩:=Aen c;rcases Ach hf with⟨d,_⟩|⟨j,p,d,D,M,N⟩
      ·cases d
      ·cases d;have o0:=fun (w:Value)=>(Aff (Y:=Y) (Z:=Z) hk hy hok C (fun r Z'=>Z'=Z/\(match r with|some (_,u)=>(if ok=true then Value.tuple #[u,.bool true] else u)=w|none=>(if ok=true then Value.tuple #[zv,.bool false] else zv)=w))).2 j p D M N;obtain⟨f,o1,_⟩:=o0 undef;have i:_:=(o0 (if ok=true then .tuple #[f.val,.bool true] else f.val));obtain⟨n,F,W⟩:=i;rw[o1]at F;cases F;have hv:V1 R9 p.2 f.val:=by
        have n:(es.map Prod.snd)[j]?=some p.2:=by rw[Pb,D];rfl
        obtain⟨v',q,I⟩:=K.at n;rw[Pb,o1]at q;cases q;exact I
       refine⟨if ok=true then .tuple #[f.val,.bool true] else f.val,?_,fun dd ty pos af g=>H _ dd ty pos af g (W ⟨rfl,rfl⟩)⟩;cases ok with
       | true=>exact .t (VR.cons_iff.2 ⟨hv,.b _ .nil⟩) .nil
       | false=>exact hv
     ·rename_i hf;obtain⟨rfl,_⟩:=Aen c;rcases Ach hf with⟨_,d⟩|⟨j,p,d,_⟩
      ·have i:=(Aff (Y:=Y) (Z:=Z) hk hy hok C (fun r Z'=>Z'=Z/\(match r with|some (_,w)=>(if ok=true then Value.tuple #[w,.bool true] else w)=(if ok=true then Value.tuple #[zv,.bool false] else zv)|none=>(if ok=true then Value.tuple #[zv,.bool false] else zv)=(if ok=true then Value.tuple #[zv,.bool false] else zv)))).1 d ⟨rfl,rfl⟩;refine⟨if ok=true then .tuple #[zv,.bool false] else zv,?_,fun dd ty pos af g=>H _ dd ty pos af g i⟩;have E:=vOf R9 zv;cases ok with
       | true=>exact .t (VR.cons_iff.2 ⟨E,.b _ .nil⟩) .nil
       | false=>exact E
      ·cases d
     ·cases c
    ·cases c
   ·cases c
  ·cases h
 ·cases h
theorem Aia(o:Op)(t:TypeId)(a y z:Operand)(hmi:xMild o=false)(hrun:opK P o=opK P (.mapUpdate t a y z))
  (exe:∀(f:Operand->Value) dd ty pos af g,execOp f ⟨dd,o,ty,pos,af,g⟩=(Instr.mapUpdate t (f a) (f y) (f z)).bind fun _=>Sem.pure Next.skip):Ix P o:=fun R e e' m x m' he hg h=>by
 have ha:=Dy he hg a;have hy:=Dy he hg y;have hz:=Dy he hg z;rw[hrun]at h;unfold opK at h;simp only at h;split at h
 ·rename_i kt el hT;split at h
  ·rename_i mk hk;have h':(match (rdK a).run e with
    | .m k=>match m.M.get k,keyOk mk ((rdK y).run e) with
     | some (.own (.map es)),true=>match putX mk ((rdK y).run e) ((rdK z).run e) es with
      | some es=>OR.v .undef (m.put k (.map es))
      | none=>.bad
     | _,_=>.bad
    | _=>.bad) = .v x m':=h
   split at h'
   ·rename_i k hu;split at h'
    ·rename_i es hes hok;split at h'
     ·rename_i es2 hp;obtain⟨rfl,rfl⟩:=Hs h';rw[hu]at ha;obtain⟨bb,cc,hR,hav⟩:=Bzh ha;refine .inr ⟨.put _ _ _,fun hx=>(by rw[hmi]at hx;cases hx),fun Y Z Z9 dd ty pos af g hm=>?_⟩;obtain⟨L,G,hm⟩:=hm;obtain⟨O,T,rs,i,w,d,I,B⟩:=hm.at hes (by simp);rw[hR]at w;cases w;cases I with
      | @map _ en ck g3 g4 g5 =>
       rw[exe,Ad,hav];show wpS P Y ((underlying t).bind _) Z _;rw[Ad];refine Az hT ?_;show wpS P Y ((getObj bb).bind _) Z _;rw[Ad];refine⟨_,.inr (lZ6 d),rfl,?_⟩;show wpS P Y ((Instr.checkKey false 10000 kt _).bind _) Z _;rw[Ad];refine Arq hk hy hok ?_;show wpS P Y ((Instr.findKey kt (Af e' y) en).bind _) Z _;rw[Ad];rcases Arf hp with⟨rfl,q⟩|⟨j,p,rfl,q,C,N⟩
       ·refine(Aff hk hy hok g3 _).1 q ?_;refine⟨rfl,i,_,d,rfl,?_⟩;refine⟨R,undef,.refl,.inr ⟨rfl,rfl⟩,.t .nil .nil,hm.put B hR d ?_⟩;have b:(en.toArray.push ({key:=Af e' y,val:=Af e' z,born:=ck}:MapEntry))=(en++[({key:=Af e' y,val:=Af e' z,born:=ck}:MapEntry)]).toArray:=by simp
        rw[b];refine .map ?_ ?_ ⟨fun n z hn=>?_,by rw[g5.ck,lZ4];rfl⟩
        ·rw[Mi,Mi];exact g3.app hy
        ·rw[Mi,Mi];exact g4.app hz
        ·rw[List.getElem?_append]at hn;split at hn
         ·exact g5.at_ n z hn
         ·rename_i hlt;have hz:n-en.length=0:=by
           rcases Nat.eq_zero_or_pos (n-en.length) with h0|h0
           ·exact h0
           ·rw[Sr (by simp only[Xo];omega)]at hn;cases hn
          rw[hz]at hn;cases hn;show ck=n;rw[g5.ck];omega
       ·obtain⟨b,o1,K⟩:=(Aff (Y:=Y) (Z:=Z) hk hy hok g3 _).2 j p q C N;refine K ?_;have J:V1 R p.1 b.key:=by
         have E:(es.map Prod.fst)[j]?=some p.1:=by rw[Pb,q];rfl
         obtain⟨v',u,H⟩:=g3.at E;rw[Pb,o1]at u;cases u;exact H
        have hke:=Bku C hy J;have hgj:en.toArray[j]?=some b:=by rw[Jw];exact o1
        show wpS P Y ((Instr.keyThatStays (((en.toArray[j]?).map (·.key)).getD _) _).bind _) Z _;rw[Ad,hgj];refine Xt hke ?_;refine⟨rfl,i,_,d,rfl,?_⟩;refine⟨R,undef,.refl,.inr ⟨rfl,rfl⟩,.t .nil .nil,hm.put B hR d ?_⟩;have F:(en.toArray.modify j fun e=>{e with key:=Af e' y,val:=Af e' z})=(en.set j {b with key:=Af e' y,val:=Af e' z}).toArray:=by
         apply Array.ext';rw[Bml];apply Axb;intro n;rw[List.getElem?_modify,Vc];by_cases hn:j=n
         ·subst hn;have hj:=(lZ1.1 o1).2;simp[o1,(lZ1.1 o1).1,hj]
         ·simp[hn]
        rw[F];have D:∀{l:List CV} {l':List Value} {c:CV} {v:Value},VR R l l'->V1 R c v->VR R (l.set j c) (l'.set j v):=fun {l l' c v} hl hc=>by
         have g:=hl.len;by_cases hj:j<l.length
         ·rw[Bvn,Bvn,if_pos hj,if_pos (by omega)];exact(hl.take j).app (VR.cons_iff.2 ⟨hc,hl.drop (j+1)⟩)
         ·rw[Bma (by omega),Bma (by omega)];exact hl
        refine .map ?_ ?_ ⟨fun n z hn=>?_,by rw[Xr];exact g5.ck⟩
        ·rw[Aqp,Aqp];exact D g3 hy
        ·rw[Aqp,Aqp];exact D g4 hz
        ·rw[Vc]at hn;split at hn
         ·rename_i hjn;subst hjn;split at hn
          ·cases hn;exact g5.at_ j b o1
          ·cases hn
         ·exact g5.at_ n z hn
     ·cases h'
    ·cases h'
   ·cases h'
  ·cases h
 ·cases h
theorem Amk(t:TypeId)(a y z:Operand):Ix P (.mapUpdate t a y z):=Aia _ t a y z rfl rfl fun _ _ _ _ _ _=>rfl
theorem Awc(t:TypeId)(a y z:Operand):Ix P (.insert t a y z):=Aia _ t a y z rfl rfl fun _ _ _ _ _ _=>rfl
theorem Bam(t:TypeId)(a:Operand):Ix P (.range t a):=fun R e e' m x m' he hg h=>by
 have ha:=Dy he hg a;unfold opK at h;simp only at h;split at h
 ·rename_i kt et hT;have h':(match (rdK a).run e with
   | .m k=>match m.obj k with|some (.map es)=>OR.v (.p m.nx 0) (m.add (.iter k (xLen es) []))|_=>.bad
   | _=>.bad) = .v x m':=h
  split at h'
  ·rename_i k hu;split at h'
   ·rename_i es ho;obtain⟨rfl,rfl⟩:=Hs h';rw[hu]at ha;obtain⟨d,u,hR,hav⟩:=Bzh ha;refine .inr ⟨.add _ _,fun hx=>(by cases hx),fun Y Z Z9 dd ty pos af g hm=>?_⟩;obtain⟨L,G,hm⟩:=hm;obtain⟨b,c,en,ck,f,i,j,w,n⟩:=hm.map ho;rw[hR]at f;cases f;have q:xLen es=ck:=by
     rw[Ia,n.ck];have:=j.len;simpa using this
    show wpS P Y ((Instr.range t (Af e' a)).bind fun v=>Sem.pure (Next.value v)) Z _;rw[Ad,hav];show wpS P Y ((underlying t).bind _) Z _;rw[Ad];refine Az hT ?_;show wpS P Y ((getObj d).bind _) Z _;rw[Ad];refine⟨_,i,rfl,?_⟩;show wpS P Y ((newObj (.mapIter (some d) ck #[] ck)).bind _) Z _;rw[Ad];refine .inl ⟨rfl,fun r=>?_⟩;refine⟨R.add m.nx (r,0),_,hm.fresh _,.inl rfl,.p XR.add_same .nil,hm.add ?_⟩;rw[q];exact .iter (sn:=[]) (hm.fresh _ _ _ hR)
   ·cases h'
  ·cases h'
 ·cases h
theorem Aqb:∀(l:List MapEntry) (o:Nat),(∀i e,l[i]?=some e->e.born=o+i)->∀j e,l[j]?=some e->l.find? (·.born==o+j)=some e
 | [],o,h,j,e,hj=>by cases hj
 | a::l,o,h,j,e,hj=>by
  have ha:=h 0 a rfl;rw[Abk]at ha;rw[List.find?_cons];cases j with
  | zero =>
   cases hj;rw[ha,Abk];simp
  | succ j =>
   have:(a.born==o+(j+1))=false:=by rw[ha];simp
   rw[this];have:=Aqb l (o+1) (fun i e he=>by rw[h (i+1) e (by simpa using he)];omega) j e (by simpa using hj);rw[show o+1+j=o+(j+1) by omega]at this;exact this
theorem Baj(a:Operand):Ix P (.entry a):=fun R e e' m x m' he hg h=>by
 have ha:=Dy he hg a;have h':(match (rdK a).run e with
   | .p k 0=>match m.M.get k with
    | some (.own (.iter mk n seen))=>match seen.getLast?,m.obj mk with
     | some j,some (.map es)=>match Nat.beq (xLen es) n,xNth j es with
      | true,some (a,v)=>OR.v (.t [a,v]) m
      | _,_=>.bad
     | _,_=>.bad
    | _=>.bad
   | _=>.bad) = .v x m':=h
 split at h'
 ·rename_i k hu;split at h'
  ·rename_i mk n seen hk;split at h'
   ·rename_i j es hj ho;split at h'
    ·rename_i ka va hn he2;obtain⟨rfl,rfl⟩:=Hs h';have hn:=Hr hn;rw[Ia]at hn;rw[Afh]at he2;rw[hu]at ha;obtain⟨z,K,hR,hav⟩:=Ayo ha;refine .inr ⟨.refl _,fun hx=>(by cases hx),fun Y Z Z9 dd ty pos af g hm=>?_⟩;obtain⟨L,G,hm⟩:=hm;obtain⟨J,N,T,O,y,H,I,U⟩:=hm.at hk (by simp);rw[hR]at y;cases y;obtain⟨b,c,en,ck,D,E,u,F,w⟩:=hm.map ho;cases I with
     | iter hRm =>
      rw[D]at hRm;cases hRm;have hen:en.length=n:=by
       have:=u.len;simp only[Abj]at this;omega
      obtain⟨V,f,B⟩:=u.at (d:=j) (v:=ka) (by rw[Pb,he2];rfl);obtain⟨W,q,C⟩:=F.at (d:=j) (v:=va) (by rw[Pb,he2];rfl);rw[Pb]at f q;cases hej:en[j]? with
      | none=>rw[hej]at f;cases f
      | some ej =>
       rw[hej]at f q;cases f;cases q;show wpS P Y ((Instr.entry (Af e' a)).bind fun v=>Sem.pure (Next.value v)) Z _;rw[Ad,hav];show wpS P Y ((getObj z).bind _) Z _;rw[Ad];refine⟨_,.inr (lZ6 H),rfl,?_⟩;have hb:seen.toArray.back?=some j:=by rw[List.back?_toArray];exact hj
       simp only[wpS,hb];show wpS P Y ((getObj b).bind _) Z _;rw[Ad];refine⟨_,E,rfl,?_⟩;show wpS P Y (if (ck != n)=true then _ else _) Z _;rw[if_neg (by rw[w.ck,hen];simp)];have hf:en.toArray.find? (·.born==j)=some ej:=by
        rw[List.find?_toArray];have:=Aqb en 0 (fun i e he=>by rw[Qz];exact w.at_ i e he) j ej hej
        rwa[Qz]at this
       simp only[hf];exact⟨R,_,.refl,.inl rfl,.t (VR.cons_iff.2 ⟨B,C⟩) .nil,L,G,hm⟩
    ·cases h'
   ·cases h'
  ·cases h'
 ·cases h'
def Bbe:OR->Prop
 | .v _ _=>False
 | _=>True
def Bxt:OR->Prop
 | .rd _ _=>False
 | _=>True
theorem Mf{o}(h:∀e m,Bbe ((opK P o).run e m)):Ix P o:=fun R e e' m x m' _ _ he=>by have:=h e m;rw[he]at this;exact this.elim
theorem Afx{o}(h:∀e m,Bxt ((opK P o).run e m)):Aux P o:=fun R e e' m x k _ _ he=>by have:=h e m;rw[he]at this;exact this.elim
theorem Azn(f:CV)(args:List CV):Bbe (callK P f args):=by
 unfold callK;split
 ·split<;>trivial
 ·trivial
 ·trivial
theorem Alf(f:CV)(args:List CV):Bxt (callK P f args):=by
 unfold callK;split
 ·split<;>trivial
 ·trivial
 ·trivial
theorem Ol{f:Operand}{az:Array Operand}{ts:Array TypeId}{y:OR}(h:(opK P (.call ⟨.value f,az,ts⟩)).run e m=y) :
  (∃g ex v,f = .func g/\xExt P g=some ex/\xExtV ex ((rdsK az.toList).run e)=some v/\y = .v v m)∨y = .bad∨callK P ((rdK f).run e) ((rdsK az.toList).run e)=y:=by
 cases f with
 | func g =>
  unfold opK at h;simp only at h;split at h
  ·rename_i ex hx;have h':(match xExtV ex ((rdsK az.toList).run e) with|some v=>OR.v v m|none=>.bad)=y:=h;cases hv:xExtV ex ((rdsK az.toList).run e) with
   | some v=>rw[hv]at h';exact .inl ⟨g,ex,v,rfl,hx,hv,h'.symm⟩
   | none=>rw[hv]at h';exact .inr (.inl h'.symm)
  ·exact .inr (.inr h)
 | tmp t=>exact .inr (.inr h)
 | const v=>exact .inr (.inr h)
 | global g=>exact .inr (.inr h)
theorem Bet(o:Op):Ix P o:=by
 cases o with
 | move a=>exact Bgz a
 | assign a=>exact Awb a
 | pick c a b=>exact Bha c a b
 | alloc t=>exact Bag t
 | box t a=>exact Blj t a
 | build t ps=>exact Bah t ps
 | buildSlice t n ps=>exact Aiu t n ps
 | load t a =>
  refine Mf fun e m=>?_;show Bbe (loadM P t ((rdK a).run e) m);unfold loadM;split
  ·split
   ·split<;>trivial
   ·trivial
  ·trivial
 | store t a v=>exact Bao t a v
 | nilCheck a=>exact Aou a
 | binOp op t a b t'=>exact Bli op t a b t'
 | unOp op t a =>
  cases op with
  | not=>exact Blm t a
  | neg=>exact Bll t a
  | _=>exact Mf fun e m=>trivial
 | convert s d a=>exact Bai s d a
 | makeFunc f xs ys =>
  cases f with
  | func f=>exact Aot f xs ys
  | _=>exact Mf fun e m=>trivial
 | makeMap t r =>
  cases r with
  | none=>exact Atl t
  | some r=>exact Mf fun e m=>trivial
 | makeChan t s=>exact Aos t s
 | fieldAddr t a i=>exact Amh t a i
 | indexAddr t a b=>exact Ami t a b
 | index t a b=>exact Bal t a b
 | lookup t a y ok =>
  refine Mf fun e m=>?_;unfold opK;simp only;split
  ·split
   ·rename_i mk z _ _;show Bbe (lookM mk z ok ((rdK a).run e) ((rdK y).run e) m);unfold lookM;split
    ·split
     ·split<;>trivial
     ·trivial
    ·trivial
   ·trivial
  ·trivial
 | mapUpdate t a y z=>exact Amk t a y z
 | slice t a lo hi mx=>exact Ban t a lo hi mx
 | field t a i=>exact Bak t a i
 | makeSlice t a b=>exact Amj t a b
 | insert t a y z=>exact Awc t a y z
 | range t a=>exact Bam t a
 | entry a=>exact Baj a
 | extract a i=>exact Atk a i
 | call c =>
  cases hc:c.callee with
  | builtin b=>exact Atj c b hc
  | value f =>
   intro R e e' m x m' he hg h;obtain⟨cl,az,ts⟩:=c;simp only at hc;subst hc;rcases Ol h with⟨g,ex,v,rfl,hx,hv,j⟩|j|j
   ·cases j;exact .inl ⟨rfl,Blk rfl hx he hg hv⟩
   ·cases j
   ·have:=Azn (P:=P) ((rdK f).run e) ((rdsK az.toList).run e);rw[j]at this;exact this.elim
  | invoke r n =>
   refine Mf fun e m=>?_;unfold opK;simp only[hc];trivial
 | go c =>
  refine Mf fun e m=>?_;unfold opK;simp only;split<;>trivial
 | defer c =>
  refine Mf fun e m=>?_;unfold opK;simp only;split
  ·rename_i t _ _;show Bbe (match e.get t with|some x=>.dclose x|none=>.bad);split<;>trivial
  ·trivial
 | send a b =>
  refine Mf fun e m=>?_;show Bbe (match (rdK a).run e with | .c k=>.send k ((rdK b).run e)|_=>.bad);split<;>trivial
 | recv t a ok =>
  refine Mf fun e m=>?_;unfold opK;simp only;split
  ·split
   ·show Bbe (match (rdK a).run e with | .c k=>.recv k ok|_=>.bad);split<;>trivial
   ·trivial
  ·trivial
 | _=>exact Mf fun e m=>trivial
end
end
end
end Go.Proofs.YtekhlbdfjkndnaaGreatDoor
