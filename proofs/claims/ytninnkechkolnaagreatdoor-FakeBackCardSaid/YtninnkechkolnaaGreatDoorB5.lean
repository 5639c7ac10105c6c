/- Part 5 of what all laws of layer 8 need: a logic of programs that start goroutines, and what the functions yield. -/
import Derived.Test.YtninnkechkolnaaGreatDoorB4
set_option linter.unusedVariables false
set_option linter.unusedSimpArgs false
set_option maxRecDepth 100000
set_option maxHeartbeats 4000000
namespace Go.Proofs.YtninnkechkolnaaGreatDoor
section
open Go
variable{mn:Bool}{X:Frame→List Frame→Ro→Own→Cy→Prop}{ρ:Ro}{σ:Own}
theorem Bes{p:List UInt8}{L:List ByteArray}(hL:L=bw (Es p))(hb:p.length≤60000):CallsH (CX mn X) 142 #[.string (bs p),.string (bs ([32]:List UInt8))] ρ σ (fun w ρ' σ'=>Ro.le ρ ρ'∧σ'=σ∧Val ρ' w (L:List ByteArray)):=by
 rw[hL];exact Bkm hb
theorem Bjd{s:List UInt8}{L:List ByteArray}(hL:L=bw (Es s)):L.length≤s.length+1∧∀w∈L,w.data.toList.length≤s.length:=by
 subst hL
 have h:=Zt (s:=s) (acc:=[])
 refine⟨by have:=h.1;unfold bw;rw[Xe];exact this,fun w hw=>?_⟩
 obtain⟨x,hx,rfl⟩:=Ow.1 hw
 have:=h.2 x hx
 rw[Bka]
 simpa using this
theorem Bbu{s:List UInt8}(hg:GlobE ρ)(hb:s.length≤60000):CallsH (CX mn X) 119 #[.string (bs s)] ρ σ (fun w ρ' σ'=>Ro.le ρ ρ'∧σ'=σ∧((Abc s=none∧w = .nilIface)∨∃(e:Ent) (v:Value),Abc s=some e∧w=v∧EntV ρ' v e)):=by
 obtain⟨L,hL⟩:∃L,L=bw (Es s):=⟨_,rfl⟩
 have hLp:=Bdk hL
 obtain⟨ff,I⟩:=Bjd hL
 refine Bq 131 [2] Tryz.func119 rfl fun Q m f9=>w_q rfl rfl fun K1 k1=>Au .nilIface (Arx rfl rfl k1 fun K2 k2=>Av (.string (bs s)) (Arv (Cm (vs:=[.string (bs s),.string (ByteArray.mk #[32])]) (Bes (p:=s) hL hb) Tryz.func142 rfl rfl ⟨rfl,rfl,trivial⟩ fun Z dh fw bn=>?_)))
 obtain⟨g,s3,r3⟩:=bn
 replace s3:=s3.symm;subst s3
 replace hg:=GlobE.mono g hg
 refine Au Z (Asa k2 fun K4 k4=>Pr (Bu 0 (zT 1 6) rfl (Ah (v:=Z) rfl) ?_))
 obtain⟨a,af⟩:=Ed (xs:=L) (i:=0) (by first|omega|(simp only[lZ4]at *;omega))
 have hul:=I _ (Hd af)
 refine De 1 (zT 2 5) rfl (Ch 0 Bts ty9 rfl r3 (q:=0) rfl rfl af) fun v5 r5=>?_
 have g7:a.data.toList.length<2^60:=At.slen r5
 have f5:=At.slen r5
 refine Bu 2 (zT 3 4) rfl (Pk ty9 rfl r5) (Bu 3 (zT 4 3) rfl (Ah (v:=Z) rfl) (De 4 (zT 5 2) rfl (Ack 1 Bts ty9 rfl r3 (q:=1) rfl rfl (by first|omega|(simp only[lZ4]at *;omega))) fun f d=>Cj 5 (zT 6 1) rfl (Cp (v:=.string a) rfl) (Cj 6 (zT 7 0) rfl (Cp (v:=f) rfl) (Ec rfl (kk k4 ?_)))))
 refine Asb rfl rfl fun K9 di k9 bq=>Av Z (Arv (Bw (Bkc (s:=bs []) r3) Tryz.func143 ?_))
 refine l_k bq (Bf (t:=decide (findI L (bs [])≥0)) rfl (fun a2=>?_) (fun a2=>?_))
 ·have aj:Nz s=true:=by rw[←Aii hL];exact a2
  refine w_q rfl rfl fun dn bx=>Au .nilIface (l_k bx (Aq (m ⟨g,rfl,.inl ⟨Bby aj,rfl⟩⟩)))
 have aj:Nz s=false:=by rw[←Aii hL];exact a2
 have u:=Bpm hL aj af
 refine Al (kk k9 ?_)
 refine Asb rfl rfl fun dp dq bz c0=>Av (.string a) (l_k c0 (Ao (w_q rfl rfl fun dr c1=>l_v (Od (p:=a.data.toList) (q:=bZ6) rfl rfl) (Au (.bool (a.data.toList==bZ6)) (l_k c1 (Bf (t:=a.data.toList==bZ6) rfl (fun a3=>?_) (fun a3=>?_)))))))
 ·have n:=Jr a3
  refine Asb rfl rfl fun ds dt c2 c3=>Av f ?_
  have er:=Bxo d
  refine l_v (Ci (el:=9) Bts rfl d) (l_v (Ek rfl rfl) (l_k c3 (Bf (t:=((((L.drop 1)).length:Nat):Int)==0) rfl (fun a4=>?_) (fun a4=>?_))))
  ·have cz:=Jr a4
   refine w_q rfl rfl fun du c4=>l_v (Dn (ns:=[]) (vs:=[]) (zc:=[]) (cs:=[]) Bwc Bjt rfl trivial (EvB.map trivial) rfl) (l_v (Ge Bwc rfl rfl) (Au (.iface 172 (.agg #[])) (l_k c4 (Aq (m ⟨g,rfl,.inr ⟨_,_,u.trans (Bse (show a.data.toList=Ea from n) (by simp only[lZ4]at *;omega)),rfl,rfl⟩⟩)))))
  have cz:=Jq a4
  refine Al (kk c2 ?_)
  refine w_q rfl rfl fun dv c5=>Au .nilIface (l_k c5 (Aq (m ⟨g,rfl,.inl ⟨u.trans (Bpp (show a.data.toList=Ea from n) (by simp only[lZ4]at *;omega)),rfl⟩⟩)))
 have n:=Jq a3
 refine Ai fun bh c6=>?_
 have b8:∀(te:Bool) (ee:Env),(ee 4=(.string a))∧(ee 5=f)∧(ee 21=(.string a))∧(ee 29=(.bool te))∧(te=true→a.data.toList=Oj∨a.data.toList=Nq)∧(te=false→¬(a.data.toList=Oj∨a.data.toList=Nq))∧True→bh ee [] dh σ:=by
  rintro te e23 ⟨h23_4,h23_5,h23_21,h23_29,p23_0,p23_1,_⟩
  apply c6
  refine Bf (t:=te) h23_29 (fun y=>?_) (fun y=>?_)
  ·refine Asb rfl rfl fun dw dx b4 c7=>l_v (Ah (v:=f) h23_5) ?_
   have es:=Bxo d
   refine l_v (Ci (el:=9) Bts rfl d) (l_v (Gl rfl rfl) (l_k c7 (Bf (t:=decide (((((L.drop 1)).length:Nat):Int)>0)) rfl (fun a5=>?_) (fun a5=>?_))))
   ·have d0:=lZ1 a5
    refine w_q rfl rfl fun dy b5=>l_v (Ah (v:=f) h23_5) (Arw (Ack 1 Bts ty9 rfl d (q:=1) rfl rfl (by first|omega|(simp only[lZ4]at *;omega))) fun de d5=>Arv (Cm (vs:=[de]) (Bkq hg d5 (by simp only[lZ4]at *;omega) (fun w h=>Sz (I w (Aqw (Aqw h))) (by omega))) Tryz.func144 rfl rfl ⟨rfl,trivial⟩ fun ft bf fx ah=>?_))
    obtain⟨an,ah⟩:=ah
    replace d:=Val.mono an d
    rcases ah with⟨N,⟨ac,al⟩|⟨a0,z,ac,al,b2⟩⟩
    ·replace N:=N.symm;subst N al
     refine Av (.tuple #[nS,bF]) (l_v (Bp nS) (l_v (Bp bF) (Au nS (Au bF (Arx rfl rfl b5 fun dz c8=>Av bF (l_k c8 (Cg rfl rfl (Al (kk b4 ?_)))))))))
     refine w_q rfl rfl fun e0 c9=>Au .nilIface (l_k c9 (Aq (m ⟨Bxn g an,rfl,.inl ⟨u.trans (Bpq (show ¬a.data.toList=Ea from n) (p23_0 y) ac),rfl⟩⟩)))
    replace N:=N.symm;subst N al
    refine Av (.tuple #[z,bT]) (l_v (Bp z) (l_v (Bp bT) (Au z (Au bT (Arx rfl rfl b5 fun e1 ca=>Av bT (l_k ca (Co rfl rfl (w_q rfl rfl fun e2 cb=>l_v (Ah (v:=f) h23_5) ?_))))))))
    obtain⟨j,ad⟩:=Ed (xs:=L.drop 1) (i:=0) (by first|omega|(simp only[lZ4]at *;omega))
    have fb:=I _ (Aqw (Hd ad))
    refine Arw (Ch 0 Bts ty9 rfl d (q:=0) rfl rfl ad) fun fn aw=>?_
    have et:j.data.toList.length<2^60:=At.slen aw
    have f2:=At.slen aw
    refine l_v (Pk ty9 rfl aw) (Av z (l_v (Ah (v:=.string a) h23_4) (l_v (Od (p:=a.data.toList) (q:=bZ1) rfl rfl) ?_)))
    have fk:Val bf (.agg #[.string j,z,.bool (a.data.toList==bZ1)]) (⟨j,a0,a.data.toList==bZ1⟩:FTest):=FTest.shut (x:=(⟨j,a0,a.data.toList==bZ1⟩:FTest)) (show (j).size<2^60 by omega) b2
    refine l_v (Dn (ns:=[1,1,1]) (vs:=[(0,(.string j)),(1,z),(2,(.bool (a.data.toList==bZ1)))]) (zc:=Aag) (cs:=[.string j,z,.bool (a.data.toList==bZ1)]) Bub Ws rfl ⟨⟨_,Ab Bul,rfl⟩,⟨_,Ab Tryz.typeInfo44,rfl⟩,⟨_,Ab Bvj,rfl⟩,trivial⟩ (EvB.map ⟨⟨rfl,rfl⟩,⟨rfl,rfl⟩,⟨rfl,rfl⟩,trivial⟩) ((Be (cs:=[.string j]) rfl rfl nL).trans ((Be (cs:=[z]) (Val.cells_l b2) rfl nL).trans ((Be (cs:=[.bool (a.data.toList==bZ1)]) rfl rfl nL).trans rfl)))) ?_
    have d6:Val bf (.agg #[.string j,z,.bool (a.data.toList==bZ1)]) (⟨(⟨j,a0,a.data.toList==bZ1⟩:FTest)⟩:ETest):=ETest.shut (x:=(⟨(⟨j,a0,a.data.toList==bZ1⟩:FTest)⟩:ETest)) (show (j).size<2^60 by omega) b2
    refine l_v (Dn (ns:=[3]) (vs:=[(0,(.agg #[.string j,z,.bool (a.data.toList==bZ1)]))]) (zc:=Bjn) (cs:=[.string j,z,.bool (a.data.toList==bZ1)]) Bux Age rfl ⟨⟨_,Ab Bwn,rfl⟩,trivial⟩ (EvB.map ⟨⟨rfl,rfl⟩,trivial⟩) ((Be (cs:=[.string j,z,.bool (a.data.toList==bZ1)]) rfl rfl nL).trans rfl)) (l_v (Ge Bux rfl rfl) (Au (.iface 256 (.agg #[.string j,z,.bool (a.data.toList==bZ1)])) (l_k cb (Aq (m ⟨Bxn g an,rfl,.inr ⟨_,_,u.trans (Btg (show ¬a.data.toList=Ea from n) (p23_0 y) ad ac),rfl,⟨_,rfl,d6⟩⟩⟩)))))
   have d0:=lZ0 a5
   refine Al (kk b4 ?_)
   refine w_q rfl rfl fun e3 cc=>Au .nilIface (l_k cc (Aq (m ⟨g,rfl,.inl ⟨u.trans (Bsf (show ¬a.data.toList=Ea from n) (p23_0 y) (by simp only[lZ4]at *;omega)),rfl⟩⟩)))
  refine w_q rfl rfl fun e4 cd=>l_v (Od (p:=a.data.toList) (q:=bZ4) h23_21 rfl) (Au (.bool (a.data.toList==bZ4)) (l_k cd (Bf (t:=a.data.toList==bZ4) rfl (fun a7=>?_) (fun a7=>?_))))
  ·have B:=Jr a7
   refine Asb rfl rfl fun e5 e6 b6 ce=>l_v (Ah (v:=f) h23_5) ?_
   have eu:=Bxo d
   refine l_v (Ci (el:=9) Bts rfl d) (l_v (Gl rfl rfl) (l_k ce (Bf (t:=decide (((((L.drop 1)).length:Nat):Int)>2)) rfl (fun a8=>?_) (fun a8=>?_))))
   ·have d1:=lZ1 a8
    refine w_q rfl rfl fun e7 b7=>l_v (Ah (v:=f) h23_5) (Arw (Ack 2 Bts ty9 rfl d (q:=2) rfl rfl (by first|omega|(simp only[lZ4]at *;omega))) fun df d7=>Arv (Cm (vs:=[df]) (Bet hg d7 (by simp only[lZ4]at *;omega) (fun w h=>Sz (I w (Aqw (Aqw h))) (by omega))) Tryz.func145 rfl rfl ⟨rfl,trivial⟩ fun fu bg fy ai=>?_))
    obtain⟨ao,ai⟩:=ai
    replace d:=Val.mono ao d
    rcases ai with⟨O,⟨W,am⟩|⟨P,T,W,am,bd⟩⟩
    ·replace O:=O.symm;subst O am
     refine Av (.tuple #[nS,bF]) (l_v (Bp nS) (l_v (Bp bF) (Au nS (Au bF (Arx rfl rfl b7 fun e8 cf=>Av bF (l_k cf (Cg rfl rfl (Al (kk b6 ?_)))))))))
     refine w_q rfl rfl fun e9 cg=>Au .nilIface (l_k cg (Aq (m ⟨Bxn g ao,rfl,.inl ⟨u.trans (Bpn (show ¬a.data.toList=Ea from n) (p23_1 y) (show a.data.toList=Ib from B) (by simp only[lZ4]at *;omega) W),rfl⟩⟩)))
    replace O:=O.symm;subst O am
    have fa:0<P.length:=Bdj W (by simp only[lZ4]at *;omega)
    refine Av (.tuple #[T,bT]) (l_v (Bp T) (l_v (Bp bT) (Au T (Au bT (Arx rfl rfl b7 fun ea ch=>Av bT (l_k ch (Co rfl rfl (Ai fun eb ci=>Pr (Bu 0 zZ0 rfl (Ah (v:=f) h23_5) ?_)))))))))
    obtain⟨l,ae⟩:=Ed (xs:=L.drop 1) (i:=0) (by first|omega|(simp only[lZ4]at *;omega))
    have fc:=I _ (Aqw (Hd ae))
    refine De 1 zZ7 rfl (Ch 0 Bts ty9 rfl d (q:=0) rfl rfl ae) fun fo ax=>?_
    have ev:l.data.toList.length<2^60:=At.slen ax
    have f3:=At.slen ax
    refine Bu 2 zZ8 rfl (Pk ty9 rfl ax) (Bu 3 zZ9 rfl (Ah (v:=T) rfl) ?_)
    obtain⟨c,b3⟩:=Ed (xs:=P) (i:=0) (by first|omega|(simp only[lZ4]at *;omega))
    refine De 4 Ajy rfl (Ch 0 Bug Mx rfl bd (q:=0) rfl rfl b3) fun fp d8=>De 5 Ajz rfl (Ax Mx rfl d8) fun be d9=>Bu 6 Aka rfl (Ah (v:=T) rfl) (De 7 Akb rfl (Ack 1 Bug Mx rfl bd (q:=1) rfl rfl (by first|omega|(simp only[lZ4]at *;omega))) fun E ay=>?_)
    obtain⟨bl,⟨fg,fh⟩,⟨fi,fj⟩⟩:=Span.open_ d9
    have bm:be.cells=[iV c.low,iV c.high].toArray:=by rw[bl];rfl
    have fl:Val bg (.agg #[.string l,iV 0,iV c.low,iV c.high,E]) (⟨l,0,⟨c.low,c.high⟩,P.drop 1⟩:FField):=FField.shut (x:=(⟨l,0,⟨c.low,c.high⟩,P.drop 1⟩:FField)) (show (l).size<2^60 by omega) (iC 0) (iC c.low) (iC c.high) ay
    refine Bu 8 Amg rfl (Dn (ns:=[1,1,2,1]) (vs:=[(0,(.string l)),(2,be),(3,E)]) (zc:=Aah) (cs:=[.string l,iV 0,iV c.low,iV c.high,E]) Btx Xu rfl ⟨⟨_,Ab Bul,rfl⟩,⟨_,Ab Btz,rfl⟩,⟨_,Ab Bvw,rfl⟩,⟨_,Ab Tryz.typeInfo49,rfl⟩,trivial⟩ (EvB.map ⟨⟨rfl,rfl⟩,⟨rfl,rfl⟩,⟨rfl,rfl⟩,trivial⟩) ((Be (cs:=[.string l]) rfl rfl nL).trans ((Be (cs:=[iV c.low,iV c.high]) bm rfl nL).trans ((Be (cs:=[E]) (Val.cells_l ay) rfl nL).trans rfl)))) (Cj 9 zZ1 rfl (Ah (v:=f) h23_5) ?_)
    obtain⟨D,ag⟩:=Ed (xs:=L.drop 1) (i:=1) (by first|omega|(simp only[lZ4]at *;omega))
    have fd:=I _ (Aqw (Hd ag))
    refine Ho 10 zZ2 rfl (Ch 1 Bts ty9 rfl d (q:=1) rfl rfl ag) fun fq az=>?_
    have ew:D.data.toList.length<2^60:=At.slen az
    have f4:=At.slen az
    refine Cj 11 zZ3 rfl (Pk ty9 rfl az) ?_
    have da:Val bg (.agg #[.string l,iV 0,iV c.low,iV c.high,E,.string D]) (⟨(⟨l,0,⟨c.low,c.high⟩,P.drop 1⟩:FField),D⟩:EField):=EField.shut (x:=(⟨(⟨l,0,⟨c.low,c.high⟩,P.drop 1⟩:FField),D⟩:EField)) (show (l).size<2^60 by omega) (iC 0) (iC c.low) (iC c.high) ay (show (D).size<2^60 by omega)
    refine Cj 12 zZ4 rfl (Dn (ns:=[5,1]) (vs:=[(0,(.agg #[.string l,iV 0,iV c.low,iV c.high,E])),(1,(.string D))]) (zc:=Bri) (cs:=[.string l,iV 0,iV c.low,iV c.high,E,.string D]) Buy Aru rfl ⟨⟨_,Ab Bvh,rfl⟩,⟨_,Ab Bul,rfl⟩,trivial⟩ (EvB.map ⟨⟨rfl,rfl⟩,⟨rfl,rfl⟩,trivial⟩) ((Be (cs:=[.string l,iV 0,iV c.low,iV c.high,E]) rfl rfl nL).trans ((Be (cs:=[.string D]) rfl rfl nL).trans rfl))) (Cj 13 zZ5 rfl (Ge Buy rfl rfl) (Cj 14 zZ6 rfl (Cp (v:=.iface 258 (.agg #[.string l,iV 0,iV c.low,iV c.high,E,.string D])) rfl) (Ec rfl (kk ci ?_))))
    refine Aq (m ⟨Bxn g ao,rfl,.inr ⟨_,_,u.trans (Btf (show ¬a.data.toList=Ea from n) (p23_1 y) (show a.data.toList=Ib from B) (by simp only[lZ4]at *;omega) ae ag W b3),rfl,⟨_,rfl,da⟩⟩⟩)
   have d1:=lZ0 a8
   refine Al (kk b6 ?_)
   refine w_q rfl rfl fun ec cj=>Au .nilIface (l_k cj (Aq (m ⟨g,rfl,.inl ⟨u.trans (Bsd (show ¬a.data.toList=Ea from n) (p23_1 y) (show a.data.toList=Ib from B) (by simp only[lZ4]at *;omega)),rfl⟩⟩)))
  have B:=Jq a7
  refine Al (kk bz ?_)
  refine Asb rfl rfl fun ed ef ck cl=>l_v (Ah (v:=f) h23_5) ?_
  have ex:=Bxo d
  refine l_v (Ci (el:=9) Bts rfl d) (l_v (Ek rfl rfl) (l_k cl (Bf (t:=((((L.drop 1)).length:Nat):Int)==0) rfl (fun a9=>?_) (fun a9=>?_))))
  ·have d2:=Jr a9
   refine w_q rfl rfl fun eg cm=>Au .nilIface (l_k cm (Aq (m ⟨g,rfl,.inl ⟨u.trans (Bte ⟨show ¬a.data.toList=Ea from n,p23_1 y,show ¬a.data.toList=Ib from B⟩ (by simp only[lZ4]at *;omega)),rfl⟩⟩)))
  have d2:=Jq a9
  refine Al (kk ck ?_)
  refine w_q rfl rfl fun eh cn=>l_v (Ah (v:=f) h23_5) ?_
  obtain⟨b,C⟩:=Ed (xs:=L.drop 1) (i:=0) (by first|omega|(simp only[lZ4]at *;omega))
  have fe:=I _ (Aqw (Hd C))
  refine Arw (Ch 0 Bts ty9 rfl d (q:=0) rfl rfl C) fun fr b0=>?_
  have ey:b.data.toList.length<2^60:=At.slen b0
  have f6:=At.slen b0
  refine l_v (Pk ty9 rfl b0) (Arv (Cm (vs:=[.string b]) (Acy (s:=b.data.toList) (by omega)) Bwm rfl rfl ⟨rfl,trivial⟩ fun fv K fz bo=>?_))
  obtain⟨J,ak,bp⟩:=bo
  replace ak:=ak.symm;subst ak bp
  replace d:=Val.mono J d
  have f8:=Ahk (s:=b.data.toList)
  refine Av (.tuple #[iV (Dp b.data.toList),.bool (Ee b.data.toList)]) (l_v (Bp (iV (Dp b.data.toList))) (l_v (Bp (.bool (Ee b.data.toList))) (Au (iV (Dp b.data.toList)) (Au (.bool (Ee b.data.toList)) (Asa cn fun ei co=>Ao (Ai fun bi cp=>?_))))))
  have b9:∀(sl:Bool) (ee:Env),(ee 4=(.string a))∧(ee 5=f)∧(ee 10=(iV (Dp b.data.toList)))∧(ee 11=(.bool (Ee b.data.toList)))∧(ee 87=(.bool sl))∧(sl=true→a.data.toList=Pc∧Ee b.data.toList=true)∧(sl=false→¬a.data.toList=Pc∨Ee b.data.toList=false)∧True→bi ee [] K σ:=by
   rintro sl e80 ⟨h80_4,h80_5,h80_10,h80_11,h80_87,p80_0,p80_1,_⟩
   apply cp
   refine Bf (t:=sl) h80_87 (fun F=>?_) (fun F=>?_)
   ·refine w_q rfl rfl fun ej cq=>l_v (Ah (v:=iV (Dp b.data.toList)) h80_10) (l_v (Ah (v:=f) h80_5) (Arw (Ack 1 Bts ty9 rfl d (q:=1) rfl rfl (by first|omega|(simp only[lZ4]at *;omega))) fun R bc=>?_))
    have db:Val K (.agg #[iV (Dp b.data.toList),R]) (⟨Dp b.data.toList,((L.drop 1)).drop 1⟩:ESale):=ESale.shut (x:=(⟨Dp b.data.toList,((L.drop 1)).drop 1⟩:ESale)) (iC (Dp b.data.toList)) bc
    refine l_v (Dn (ns:=[1,1]) (vs:=[(0,(iV (Dp b.data.toList))),(1,R)]) (zc:=Bjo) (cs:=[iV (Dp b.data.toList),R]) Bvc Ayx rfl ⟨⟨_,Ab Btz,rfl⟩,⟨_,Ab Bup,rfl⟩,trivial⟩ (EvB.map ⟨⟨rfl,rfl⟩,⟨rfl,rfl⟩,trivial⟩) ((Be (cs:=[iV (Dp b.data.toList)]) rfl rfl nL).trans ((Be (cs:=[R]) (Val.cells_l bc) rfl nL).trans rfl))) (l_v (Ge Bvc rfl rfl) (Au (.iface 260 (.agg #[iV (Dp b.data.toList),R])) (l_k cq (Aq (m ⟨Bxn g J,rfl,.inr ⟨_,_,u.trans (Blj ⟨show ¬a.data.toList=Ea from n,p23_1 y,show ¬a.data.toList=Ib from B⟩ (p80_0 F).1 C (p80_0 F).2),rfl,⟨_,rfl,db⟩⟩⟩)))))
   refine w_q rfl rfl fun ek cr=>l_v (Ah (v:=f) h80_5) ?_
   have ez:=Bxo d
   refine l_v (Ci (el:=9) Bts rfl d) (l_v (Gl rfl rfl) (Au (.bool (decide (((((L.drop 1)).length:Nat):Int)>1))) (l_k cr (Bf (t:=decide (((((L.drop 1)).length:Nat):Int)>1)) rfl (fun aa=>?_) (fun aa=>?_)))))
   ·have d3:=lZ1 aa
    refine w_q rfl rfl fun em ct=>Au .nilIface (l_k ct (Aq (m ⟨Bxn g J,rfl,.inl ⟨u.trans (Blg ⟨show ¬a.data.toList=Ea from n,p23_1 y,show ¬a.data.toList=Ib from B⟩ C (p80_1 F) (by simp only[lZ4]at *;omega)),rfl⟩⟩)))
   have d3:=lZ0 aa
   refine Ai fun bj cu=>?_
   have ba:∀(lb:Bool) (ee:Env),(ee 4=(.string a))∧(ee 5=f)∧(ee 10=(iV (Dp b.data.toList)))∧(ee 102=(.bool lb))∧(lb=true→a.data.toList=Ub∧Ee b.data.toList=true)∧(lb=false→¬a.data.toList=Ub∨Ee b.data.toList=false)∧True→bj ee [] K σ:=by
    rintro lb e89 ⟨h89_4,h89_5,h89_10,h89_102,p89_0,p89_1,_⟩
    apply cu
    refine Bf (t:=lb) h89_102 (fun M=>?_) (fun M=>?_)
    ·refine w_q rfl rfl fun en cv=>l_v (Ah (v:=iV (Dp b.data.toList)) h89_10) ?_
     have dc:Val K (.agg #[iV (Dp b.data.toList)]) (⟨Dp b.data.toList⟩:ELab):=ELab.shut (x:=(⟨Dp b.data.toList⟩:ELab)) (iC (Dp b.data.toList))
     refine l_v (Dn (ns:=[1]) (vs:=[(0,(iV (Dp b.data.toList)))]) (zc:=Bjp) (cs:=[iV (Dp b.data.toList)]) But Zg rfl ⟨⟨_,Ab Btz,rfl⟩,trivial⟩ (EvB.map ⟨⟨rfl,rfl⟩,trivial⟩) ((Be (cs:=[iV (Dp b.data.toList)]) rfl rfl nL).trans rfl)) (l_v (Ge But rfl rfl) (Au (.iface 262 (.agg #[iV (Dp b.data.toList)])) (l_k cv (Aq (m ⟨Bxn g J,rfl,.inr ⟨_,_,u.trans (Bpo ⟨show ¬a.data.toList=Ea from n,p23_1 y,show ¬a.data.toList=Ib from B⟩ C (p80_1 F) (by simp only[lZ4]at *;omega) (p89_0 M).1 (p89_0 M).2),rfl,⟨_,rfl,dc⟩⟩⟩)))))
    refine w_q rfl rfl fun eo cw=>l_v (Ah (v:=.string a) h89_4) (l_v (Od (p:=a.data.toList) (q:=bZ8) rfl rfl) (Au (.bool (a.data.toList==bZ8)) (l_k cw (Bf (t:=a.data.toList==bZ8) rfl (fun ab=>?_) (fun ab=>?_)))))
    ·have Y:=Jr ab
     refine w_q rfl rfl fun ep cx=>l_v (Ah (v:=f) h89_5) (Arw (Ch 0 Bts ty9 rfl d (q:=0) rfl rfl C) fun fs b1=>?_)
     have f0:b.data.toList.length<2^60:=At.slen b1
     have f7:=At.slen b1
     refine l_v (Pk ty9 rfl b1) ?_
     have dd:Val K (.agg #[.string b]) (⟨b⟩:EKind):=EKind.shut (x:=(⟨b⟩:EKind)) (show (b).size<2^60 by omega)
     refine l_v (Dn (ns:=[1]) (vs:=[(0,(.string b))]) (zc:=Bjq) (cs:=[.string b]) Buv Acr rfl ⟨⟨_,Ab Bul,rfl⟩,trivial⟩ (EvB.map ⟨⟨rfl,rfl⟩,trivial⟩) ((Be (cs:=[.string b]) rfl rfl nL).trans rfl)) (l_v (Ge Buv rfl rfl) (Au (.iface 264 (.agg #[.string b])) (l_k cx (Aq (m ⟨Bxn g J,rfl,.inr ⟨_,_,u.trans (Blf ⟨show ¬a.data.toList=Ea from n,p23_1 y,show ¬a.data.toList=Ib from B⟩ C (p80_1 F) (by simp only[lZ4]at *;omega) (p89_1 M) (show a.data.toList=Pp from Y)),rfl,⟨_,rfl,dd⟩⟩⟩)))))
    have Y:=Jq ab
    refine Ai fun bk cy=>?_
    have bb:∀(hm:Bool) (ee:Env),(ee 4=(.string a))∧(ee 5=f)∧(ee 119=(.bool hm))∧(hm=true→a.data.toList=Ic∨a.data.toList=Lp)∧(hm=false→¬(a.data.toList=Ic∨a.data.toList=Lp))∧True→bk ee [] K σ:=by
     rintro hm e99 ⟨h99_4,h99_5,h99_119,p99_0,p99_1,_⟩
     apply cy
     refine Bf (t:=hm) h99_119 (fun a1=>?_) (fun a1=>?_)
     ·refine w_q rfl rfl fun dj br=>l_v (Ah (v:=.string a) h99_4) (l_v (Od (p:=a.data.toList) (q:=bZ3) rfl rfl) (l_v (Ah (v:=f) h99_5) (Arw (Ch 0 Bts ty9 rfl d (q:=0) rfl rfl C) fun fm av=>?_)))
      have eq:b.data.toList.length<2^60:=At.slen av
      have f1:=At.slen av
      refine l_v (Pk ty9 rfl av) ?_
      have d4:Val K (.agg #[.bool (a.data.toList==bZ3),.string b]) (⟨a.data.toList==bZ3,b⟩:EName):=EName.shut (x:=(⟨a.data.toList==bZ3,b⟩:EName)) (show (b).size<2^60 by omega)
      refine l_v (Dn (ns:=[1,1]) (vs:=[(0,(.bool (a.data.toList==bZ3))),(1,(.string b))]) (zc:=Bjr) (cs:=[.bool (a.data.toList==bZ3),.string b]) Buu Aly rfl ⟨⟨_,Ab Bvj,rfl⟩,⟨_,Ab Bul,rfl⟩,trivial⟩ (EvB.map ⟨⟨rfl,rfl⟩,⟨rfl,rfl⟩,trivial⟩) ((Be (cs:=[.bool (a.data.toList==bZ3)]) rfl rfl nL).trans ((Be (cs:=[.string b]) rfl rfl nL).trans rfl))) (l_v (Ge Buu rfl rfl) (Au (.iface 266 (.agg #[.bool (a.data.toList==bZ3),.string b])) (l_k br (Aq (m ⟨Bxn g J,rfl,.inr ⟨_,_,u.trans (Blh ⟨show ¬a.data.toList=Ea from n,p23_1 y,show ¬a.data.toList=Ib from B⟩ C (p80_1 F) (by simp only[lZ4]at *;omega) (p89_1 M) (show ¬a.data.toList=Pp from Y) (p99_0 a1)),rfl,⟨_,rfl,d4⟩⟩⟩)))))
     refine Al (kk co ?_)
     refine w_q rfl rfl fun dk bt=>Au .nilIface (l_k bt (Aq (m ⟨Bxn g J,rfl,.inl ⟨u.trans (Bli ⟨show ¬a.data.toList=Ea from n,p23_1 y,show ¬a.data.toList=Ib from B⟩ C (p80_1 F) (by simp only[lZ4]at *;omega) (p89_1 M) (show ¬a.data.toList=Pp from Y) (p99_1 a1)),rfl⟩⟩)))
    refine w_q rfl rfl fun dl bu=>l_v (Ah (v:=.string a) h89_4) (l_v (Od (p:=a.data.toList) (q:=bZ5) rfl rfl) (Au (.bool (a.data.toList==bZ5)) (l_k bu (Bf (t:=a.data.toList==bZ5) rfl (fun U=>?_) (fun U=>?_)))))
    ·have ap:=Jr U
     refine Al (bb (a.data.toList==bZ5) _ ⟨h89_4,h89_5,rfl,fun _=>.inl (show a.data.toList=Ic from ap),fun h=>absurd (U.symm.trans h) (by decide),trivial⟩)
    have ap:=Jq U
    refine Ag rfl rfl (l_v (Ah (v:=.string a) h89_4) (l_v (Od (p:=a.data.toList) (q:=bZ3) rfl rfl) (Au (.bool (a.data.toList==bZ3)) (Ac ?_))))
    refine bb (a.data.toList==bZ3) _ ⟨h89_4,h89_5,rfl,fun h=>.inr (show a.data.toList=Lp from eq_of_beq h),fun h k=>k.elim (show ¬a.data.toList=Ic from ap) (show ¬a.data.toList=Lp from Jq h),trivial⟩
   refine Ag rfl rfl (l_v (Ah (v:=.string a) h80_4) (l_v (Od (p:=a.data.toList) (q:=Bbg) rfl rfl) (Av (.bool (a.data.toList==Bbg)) (Cn (a.data.toList==Bbg) (fun G=>?_) (fun G=>?_)))))
   ·have aq:=Jr G
    refine Aa (gY rfl G) (Ah (v:=.bool (Ee b.data.toList)) h80_11) (l_v (Bt rfl G (v:=.bool (Ee b.data.toList)) rfl) (Au (.bool (Ee b.data.toList)) (Ac ?_)))
    refine ba (Ee b.data.toList) _ ⟨h80_4,h80_5,h80_10,rfl,fun h=>⟨show a.data.toList=Ub from aq,h⟩,fun h=>.inr h,trivial⟩
   have aq:=Jq G
   refine Ap (gN rfl G) (l_v (Bn rfl G (v:=bF) rfl) (Au bF (Ac ?_)))
   refine ba false _ ⟨h80_4,h80_5,h80_10,rfl,fun h=>absurd h (by decide),fun _=>.inl (show ¬a.data.toList=Ub from aq),trivial⟩
  refine Ag rfl rfl (l_v (Ah (v:=.string a) h23_4) (l_v (Od (p:=a.data.toList) (q:=bZ7) rfl rfl) (Av (.bool (a.data.toList==bZ7)) (Cn (a.data.toList==bZ7) (fun H=>?_) (fun H=>?_)))))
  ·have ar:=Jr H
   refine l_M (.bool (Ee b.data.toList)) (gY rfl H) rfl (l_v (Bt rfl H (v:=.bool (Ee b.data.toList)) rfl) (Au (.bool (Ee b.data.toList)) (Ac ?_)))
   refine b9 (Ee b.data.toList) _ ⟨h23_4,h23_5,rfl,rfl,rfl,fun h=>⟨show a.data.toList=Pc from ar,h⟩,fun h=>.inr h,trivial⟩
  have ar:=Jq H
  refine Ap (gN rfl H) (l_v (Bn rfl H (v:=bF) rfl) (Au bF (Ac ?_)))
  refine b9 false _ ⟨h23_4,h23_5,rfl,rfl,rfl,fun h=>absurd h (by decide),fun _=>.inl (show ¬a.data.toList=Pc from ar),trivial⟩
 refine w_q rfl rfl fun dm bv=>l_v (Od (p:=a.data.toList) (q:=bZ9) rfl rfl) (Au (.bool (a.data.toList==bZ9)) (l_k bv (Bf (t:=a.data.toList==bZ9) rfl (fun V=>?_) (fun V=>?_))))
 ·have au:=Jr V
  refine Al (b8 (a.data.toList==bZ9) _ ⟨rfl,rfl,rfl,rfl,fun _=>.inl (show a.data.toList=Oj from au),fun h=>absurd (V.symm.trans h) (by decide),trivial⟩)
 have au:=Jq V
 refine Ag rfl rfl (l_v (Od (p:=a.data.toList) (q:=bZ1) rfl rfl) (Au (.bool (a.data.toList==bZ1)) (Ac ?_)))
 refine b8 (a.data.toList==bZ1) _ ⟨rfl,rfl,rfl,rfl,fun h=>.inr (show a.data.toList=Nq from eq_of_beq h),fun h k=>k.elim (show ¬a.data.toList=Oj from au) (show ¬a.data.toList=Nq from Jq h),trivial⟩
end
section
open Go
def Act(ρ:Ro)(r:Nat)(p:PSt)(gr:Own):Prop:=∃(vk vt vh vm vf vs:Value) (gk gt gh gm gf gs:Own),gr=(r,Res.obj (.cells #[vk,.int .i64 p.l.most,vt,vh,vm,vf,vs,.int .i64 p.last] 101 (0,0)))::(gk++(gt++(gh++(gm++(gf++gs)))))∧I64 p.l.most∧I64 p.last∧Grow ρ 9 vk p.l.kinds gk∧Grow ρ 46 vt p.l.tests gt∧Grow ρ 9 vh p.m.houses gh∧Grow ρ 9 vm p.m.marks gm∧Grow ρ 51 vf p.m.fields gf∧Grow ρ 54 vs p.m.sales gs
theorem Ams{p:PSt}{x:FField}{h:ByteArray}(hh:findI p.m.houses h<0):Fv p (.field x h) = .inl 6:=by
 simp only[Fv];rw[Ato (x:=h.data.toList) (by rw[Acv];exact hh)]
theorem Avg{p:PSt}{x:FField}{h:ByteArray}(hh:¬findI p.m.houses h<0):Fv p (.field x h) = .inr ⟨p.l,⟨p.m.houses,p.m.marks,p.m.fields++[⟨x.name,findI p.m.houses h,x.grows,x.marks⟩],p.m.sales⟩,p.last⟩:=by
 simp only[Fv];rw[Atp (x:=h.data.toList) (by rw[Acv];exact hh)];rfl
theorem Arj{p:PSt}{n:Int}{l:List ByteArray}{i:Nat}{a:ByteArray}(ha:l[i]?=some a)(hh:findI p.m.houses a<0):Fv p (.sale n l) = .inl 6:=by
 simp only[Fv];rw[Rf (Ve ha) (Ato (x:=a.data.toList) (by rw[Acv];exact hh))]
theorem Ayg{p:PSt}{n:Int}{l:List ByteArray}{i:Nat}{r:List Int}(hi:i=l.length)(h:Gm (Iu p.m) ((wl l).take i)=some r):Fv p (.sale n l) = .inr ⟨p.l,⟨p.m.houses,p.m.marks,p.m.fields,p.m.sales++[⟨n,r⟩]⟩,p.last⟩:=by
 rw[hi,←Afs,Sr]at h
 simp only[Fv];rw[h]
theorem Axf{p:PSt}{l:List ByteArray}{i:Nat}{a:ByteArray}{r:List Int}(h:Gm (Iu p.m) ((wl l).take i)=some r)(ha:l[i]?=some a)(hh:¬findI p.m.houses a<0):Gm (Iu p.m) ((wl l).take (i+1))=some (r++[findI p.m.houses a]) :=
 Zi h (Ve ha) (Atp (x:=a.data.toList) (by rw[Acv];exact hh))
end
section
open Go
variable{mn:Bool}{X:Frame→List Frame→Ro→Own→Cy→Prop}{ρ:Ro}{σ:Own}
theorem Ast{n:Int}{vw:Value}(rw_:Val ρ vw (⟨n⟩:ELab)):CallsH (CX mn X) 242 #[vw] ρ σ (rP ρ σ (iV 0)):=by
 refine Bq 3 [2] Tryz.func242 rfl fun Q b h=>w_q rfl rfl fun f c=>Arv (Eb (v:=vw) rfl fun i=>?_)
 refine Bb (a:=(⟨n⟩:ELab)) rw_ fun k e j=>Au (iV 0) (Arx rfl rfl c fun g d=>Au (iV 0) (l_k d (Aj (Bxj e) (Aq (b (rT (iV 0) ?_))))))
 rfl
theorem Aqe{s:ByteArray}{vw:Value}(rw_:Val ρ vw (⟨s⟩:EKind)):CallsH (CX mn X) 243 #[vw] ρ σ (rP ρ σ (iV 1)):=by
 refine Bq 3 [2] Tryz.func243 rfl fun Q b h=>w_q rfl rfl fun f c=>Arv (Eb (v:=vw) rfl fun i=>?_)
 refine Bb (a:=(⟨s⟩:EKind)) rw_ fun k e j=>Au (iV 0) (Arx rfl rfl c fun g d=>Au (iV 1) (l_k d (Aj (Bxj e) (Aq (b (rT (iV 1) ?_))))))
 rfl
theorem Aqi{t:FTest}{vw:Value}(rw_:Val ρ vw (⟨t⟩:ETest)):CallsH (CX mn X) 239 #[vw] ρ σ (rP ρ σ (iV 2)):=by
 refine Bq 3 [2] Tryz.func239 rfl fun Q b h=>w_q rfl rfl fun f c=>Arv (Eb (v:=vw) rfl fun i=>?_)
 refine Bb (a:=(⟨t⟩:ETest)) rw_ fun k e j=>Au (iV 0) (Arx rfl rfl c fun g d=>Au (iV 2) (l_k d (Aj (Bxj e) (Aq (b (rT (iV 2) ?_))))))
 rfl
theorem Aqf{mk:Bool}{s:ByteArray}{vw:Value}(rw_:Val ρ vw (⟨mk,s⟩:EName)):CallsH (CX mn X) 244 #[vw] ρ σ (rP ρ σ (iV (if mk=true then 5 else 4))):=by
 refine Bq 5 [2] Tryz.func244 rfl fun Q c u=>w_q rfl rfl fun l e=>Arv (Eb (v:=vw) rfl fun w=>?_)
 refine Bb (a:=(⟨mk,s⟩:EName)) rw_ fun y d j=>Au (iV 0) (Ary rfl rfl e fun m n f g=>Arw (Ba EName.f_mark Buu rfl ty4 j) fun x k=>l_v (Nx ty4 rfl k) (l_k g (Bf (t:=mk) rfl (fun b=>?_) (fun b=>?_))))
 ·refine w_q rfl rfl fun p h=>Au (iV 5) (l_k h (Aj (Bxj d) (Aq (c (rT (iV 5) ?_)))))
  rw[b];rfl
 refine Al (kk f ?_)
 refine w_q rfl rfl fun q i=>Au (iV 4) (l_k i (Aj (Bxj d) (Aq (c (rT (iV 4) ?_)))))
 rw[b];rfl
theorem Amb{x:FField}{h:ByteArray}{vw:Value}(rw_:Val ρ vw (⟨x,h⟩:EField)):CallsH (CX mn X) 240 #[vw] ρ σ (rP ρ σ (iV 6)):=by
 refine Bq 3 [2] Tryz.func240 rfl fun Q b i=>w_q rfl rfl fun f c=>Arv (Eb (v:=vw) rfl fun j=>?_)
 refine Bb (a:=(⟨x,h⟩:EField)) rw_ fun l e k=>Au (iV 0) (Arx rfl rfl c fun g d=>Au (iV 6) (l_k d (Aj (Bxj e) (Aq (b (rT (iV 6) ?_))))))
 rfl
theorem Aqh{n:Int}{l:List ByteArray}{vw:Value}(rw_:Val ρ vw (⟨n,l⟩:ESale)):CallsH (CX mn X) 241 #[vw] ρ σ (rP ρ σ (iV 7)):=by
 refine Bq 3 [2] Tryz.func241 rfl fun Q b h=>w_q rfl rfl fun f c=>Arv (Eb (v:=vw) rfl fun i=>?_)
 refine Bb (a:=(⟨n,l⟩:ESale)) rw_ fun k e j=>Au (iV 0) (Arx rfl rfl c fun g d=>Au (iV 7) (l_k d (Aj (Bxj e) (Aq (b (rT (iV 7) ?_))))))
 rfl
theorem Aig  :CallsH (CX mn X) 90 #[.agg #[]] ρ σ (rP ρ σ (iV 3)):=by
 refine Bq 3 [2] Tryz.func90 rfl fun Q a f=>w_q rfl rfl fun d b=>Arv (Eb (v:=.agg #[]) rfl fun g=>?_)
 refine Au (iV 0) (Arx rfl rfl b fun e c=>Au (iV 3) (l_k c (Aj Bxi (Aq (a (rT (iV 3) ?_))))))
 rfl
/-- A method called through an interface. -/
def Brn(C:Ctx)(v:Value)(name:String)(vs:List Value)(ρ:Ro)(σ:Own)(R:Value→Ro→Own→Prop):Prop :=
 ∃(t:TypeId) (w:Value) (f:FuncId) (fn:Func) (v':Value),v = .iface t w∧(∀Q:FuncId×Value→Own→Prop,Q (f,v') σ→wpS C.P ρ (method (C.P.types.size+Made.depth) t w name) σ Q)∧CallsH C f (v'::vs).toArray ρ σ R∧C.P.funcs[f]?=some fn∧(fn.name == "runtime.NumGoroutine")=false∧fn.body.isNone=false
theorem Bsw{C:Ctx}{e:Env}{ds:List Deferred}{ρ:Ro}{σ:Own}{K:Value→List Deferred→Ro→Own→Prop}{rd:Option Nat}{dd:Option Tmp}{ty:TypeId}{pos:String}{af:Array Edge}{g:Option (Nat×Bool)}{x:Operand}{v:Value}{name:String}{args:List Operand}{tys:Array TypeId}{vs:List Value}{R:Value→Ro→Own→Prop}(hi:Brn C v name vs ρ σ R)
  (hx:Af e x=v) (hv:EvL e args vs) (h:∀v ρ' σ',R v ρ' σ'→K v ds ρ' σ'):wpS C.P ρ (execOp (Af e) ⟨dd,.call ⟨.invoke x name,args.toArray,tys⟩,ty,pos,af,g⟩) σ (NextH C K rd ds ρ):=by
 obtain⟨t,w,f,fn,v',rfl,a,b,c,d,i⟩:=hi
 exact Bjc a b c d i hx hv h
theorem Blo{v:Value}{e:Ent}(he:EntV ρ v e):Brn (CX mn X) v "crocus/fake.place" [] ρ σ (rP ρ σ (iV (Ez e))):=by
 cases e with
 | lab n =>
  obtain⟨w,rfl,hw⟩:=he
  exact⟨_,_,_,Tryz.f242,_,rfl,fun Q hQ=>Ig (Ab Bwy) rfl rfl rfl But rfl hQ,Ast hw,Tryz.func242,rfl,rfl⟩
 | kind s =>
  obtain⟨w,rfl,hw⟩:=he
  exact⟨_,_,_,Tryz.f243,_,rfl,fun Q hQ=>Ig (Ab Bwz) rfl rfl rfl Buv rfl hQ,Aqe hw,Tryz.func243,rfl,rfl⟩
 | test t =>
  obtain⟨w,rfl,hw⟩:=he
  exact⟨_,_,_,Tryz.f239,_,rfl,fun Q hQ=>Ig (Ab Bwv) rfl rfl rfl Bux rfl hQ,Aqi hw,Tryz.func239,rfl,rfl⟩
 | name mk s =>
  obtain⟨w,rfl,hw⟩:=he
  exact⟨_,_,_,Tryz.f244,_,rfl,fun Q hQ=>Ig (Ab Bxa) rfl rfl rfl Buu rfl hQ,Aqf hw,Tryz.func244,rfl,rfl⟩
 | field x h =>
  obtain⟨w,rfl,hw⟩:=he
  exact⟨_,_,_,Tryz.f240,_,rfl,fun Q hQ=>Ig (Ab Bww) rfl rfl rfl Buy rfl hQ,Amb hw,Tryz.func240,rfl,rfl⟩
 | sale n l =>
  obtain⟨w,rfl,hw⟩:=he
  exact⟨_,_,_,Tryz.f241,_,rfl,fun Q hQ=>Ig (Ab Bwx) rfl rfl rfl Bvc rfl hQ,Aqh hw,Tryz.func241,rfl,rfl⟩
 | go =>
  obtain rfl:=he
  exact⟨_,_,_,Tryz.f90,_,rfl,fun Q hQ=>Ig (Ab Tryz.typeInfo172) rfl rfl rfl Bwc rfl hQ,Aig,Tryz.func90,rfl,rfl⟩
end
section
open Go
theorem Asr{mn:Bool}{X:Frame→List Frame→Ro→Own→Cy→Prop}{ρ:Ro}{σ:Own}{r:Nat}{hs:List ByteArray}{s:ByteArray}{c0 c1 c2 vh c4 c5 c6 c7:Value}(rh:Val ρ vh hs):CallsH (CX mn X) 147 #[pV r,.string s] ρ ((r,oC #[c0,c1,c2,vh,c4,c5,c6,c7] 101)::σ) (fun w ρ' σ'=>ρ'=ρ∧σ'=(r,oC #[c0,c1,c2,vh,c4,c5,c6,c7] 101)::σ∧w=iV (findI hs s)):=by
 refine Bq 12 [4] Tryz.func147 rfl fun Q a f=>w_q rfl rfl fun d b=>Au (iV 0) (Arx rfl rfl b fun e c=>Av (pV r) (l_v (Ck rfl) (l_v (Ce Buc rfl (Ab Bum)) (l_v (Ce Btt rfl (Ab Bup)) (Arv (Dt (i:=0) (v:=vh) ⟨_,Bts,rfl⟩ rfl rfl rfl ?_))))))
 refine Av (.string s) (Arv (Bw (Ahy rh) Bwt ?_))
 refine Au (iV (findI hs s)) (l_k c (Aq (a ⟨rfl,rfl,rfl⟩)))
theorem Awl{W0:World}{ρ:Ro}{σ:Own}{r:Nat}{p:PSt}{vk vt vh vm vf vs:Value}{gk gt gh gm gf gs:Own}{n:Int}{vw:Value}(rw_:Val ρ vw (⟨n⟩:ELab))(hmo:I64 p.l.most)(hla:I64 p.last)(hB:RdB p 60001)(hk:Grow ρ 9 vk p.l.kinds gk)(ht:Grow ρ 46 vt p.l.tests gt)(hh:Grow ρ 9 vh p.m.houses gh)(hm:Grow ρ 9 vm p.m.marks gm)(hf:Grow ρ 51 vf p.m.fields gf)(hs:Grow ρ 54 vs p.m.sales gs):CallsH (CY W0) 120 #[pV r,.iface 262 vw] ρ ((r,oC #[vk,iV p.l.most,vt,vh,vm,vf,vs,iV p.last] 101)::(gk++(gt++(gh++(gm++(gf++(gs++σ))))))) (fun w ρ' σ'=>Ro.le ρ ρ'∧((∃f:Int,Fv p (.lab n) = .inl f∧f≠0∧w = .int .i64 f∧σ'=σ)∨∃(q:PSt) (gr:Own),Fv p (.lab n) = .inr q∧w=z0∧Act ρ' r q gr∧σ'=gr++σ)):=by
 obtain⟨R,T⟩:=hmo
 obtain⟨O,P⟩:=hla
 obtain⟨I,J,K,L,M,N⟩:=hB
 refine Bq 151 [4] Bvk rfl fun Q g U=>w_q rfl rfl fun z h=>Au (iV 0) (Ary rfl rfl h fun C D k t=>Av (.iface 262 vw) (l_k t (Ao (w_q rfl rfl fun E u=>l_v (To But rfl rfl) (l_v (Bp bT) (l_v (Bp vw) (l_k u (Co rfl rfl (w_q rfl rfl fun F x=>Arv (Ct Zg fun V=>?_))))))))))
 refine Cx rfl (Dv (v:=vw) (a:=(⟨n⟩:ELab)) (c:=Bjp) Bqz rfl rfl rw_ rfl ?_)
 refine Bb (a:=(⟨n⟩:ELab)) rw_ fun X d y=>?_
 replace hk:=Bxl d hk
 replace ht:=Bxl d ht
 replace hh:=Bxl d hh
 replace hm:=Bxl d hm
 replace hf:=Bxl d hf
 replace hs:=Bxl d hs
 refine l_k x (Ag rfl rfl (Av (pV r) (Arw (Ba ELab.f_most But rfl ty3 y) fun W e=>?_)))
 have⟨G,H⟩:=At.rng e
 refine l_v (Bc ty3 rfl e) (l_v (Ck rfl) (l_v (Ce Buc rfl (Ab Buq)) (l_v (Ce Btv rfl (Ab Btz)) (Cx rfl (Cz (j:=0) (v:=iV n) ⟨_,Ab Btz,rfl⟩ rfl rfl rfl rfl nL ?_)))))
 refine Arx rfl rfl k fun B i=>Au (iV 0) (l_k i (Aq (g ⟨d,.inr ⟨(⟨⟨p.l.kinds,n,p.l.tests⟩,⟨p.m.houses,p.m.marks,p.m.fields,p.m.sales⟩,p.last⟩:PSt),_,rfl,rfl,⟨vk,vt,vh,vm,vf,vs,gk,gt,gh,gm,gf,gs,rfl,(by constructor<;>omega),(by constructor<;>omega),hk,ht,hh,hm,hf,hs⟩,Eq.trans (b:=(r,oC #[vk,iV n,vt,vh,vm,vf,vs,iV p.last] 101)::(gk++(gt++(gh++(gm++(gf++(gs++σ))))))) rfl (by simp only[lZ9,Ts,Xl])⟩⟩)))
theorem Asu{W0:World}{ρ:Ro}{σ:Own}{r:Nat}{p:PSt}{vk vt vh vm vf vs:Value}{gk gt gh gm gf gs:Own}{s:ByteArray}{vw:Value}(rw_:Val ρ vw (⟨s⟩:EKind))(hmo:I64 p.l.most)(hla:I64 p.last)(hB:RdB p 60001)(hk:Grow ρ 9 vk p.l.kinds gk)(ht:Grow ρ 46 vt p.l.tests gt)(hh:Grow ρ 9 vh p.m.houses gh)(hm:Grow ρ 9 vm p.m.marks gm)(hf:Grow ρ 51 vf p.m.fields gf)(hs:Grow ρ 54 vs p.m.sales gs):CallsH (CY W0) 120 #[pV r,.iface 264 vw] ρ ((r,oC #[vk,iV p.l.most,vt,vh,vm,vf,vs,iV p.last] 101)::(gk++(gt++(gh++(gm++(gf++(gs++σ))))))) (fun w ρ' σ'=>Ro.le ρ ρ'∧((∃f:Int,Fv p (.kind s) = .inl f∧f≠0∧w = .int .i64 f∧σ'=σ)∨∃(q:PSt) (gr:Own),Fv p (.kind s) = .inr q∧w=z0∧Act ρ' r q gr∧σ'=gr++σ)):=by
 obtain⟨a3,a4⟩:=hmo
 obtain⟨a1,a2⟩:=hla
 obtain⟨V,W,X,Y,Z,a0⟩:=hB
 refine Bq 151 [4] Bvk rfl fun Q y a5=>w_q rfl rfl fun L B=>Au (iV 0) (Ary rfl rfl B fun N O D E=>Av (.iface 264 vw) (l_k E (Ao (w_q rfl rfl fun P F=>l_v (Eo (z:=.agg #[z0]) But rfl Zg (by decide) rfl) (l_v (Bp bF) (l_v (Bp (.agg #[z0])) (l_k F (Cg rfl rfl (w_q rfl rfl fun R G=>l_v (To Buv rfl rfl) (l_v (Bp bT) (l_v (Bp vw) (l_k G (Co rfl rfl (w_q rfl rfl fun T H=>Arv (Ct Acr fun k7=>?_)))))))))))))))
 refine Cx rfl (Dv (v:=vw) (a:=(⟨s⟩:EKind)) (c:=Bjq) Bra rfl rfl rw_ rfl ?_)
 refine Bb (a:=(⟨s⟩:EKind)) rw_ fun K e J=>?_
 replace hk:=Bxl e hk
 replace ht:=Bxl e ht
 replace hh:=Bxl e hh
 replace hm:=Bxl e hm
 replace hf:=Bxl e hf
 replace hs:=Bxl e hs
 refine l_k H (Ox ((r,oC #[vk,iV p.l.most,vt,vh,vm,vf,vs,iV p.last] 101)::[]) [0,1,2,3,4,5,6,7,8,9,12] (by kernel_rfl) rfl rfl (Cu 0 Aob rfl ⟨Bxm,sB⟩ rfl (Yld.o (Ah (v:=pV r) rfl)) (Cu 1 Aoe rfl ⟨Bxm,sB⟩ rfl (Yld.o (Ah (v:=pV r) rfl)) (Cu 2 Aof rfl ⟨Bxm,sB⟩ rfl (Yld.o (Ck rfl)) (Cu 3 Aog rfl ⟨Bxm,sB⟩ rfl (Yld.o (Ce Buc rfl (Ab Buq))) (Cu 4 Aok rfl ⟨Bxm,sB⟩ rfl (Yld.o (Ce Btv rfl (Ab Bup))) (Cu 5 Aol rfl ⟨Bxm,sB⟩ rfl (Fl (v:=vk) ⟨_,Bts,rfl⟩ rfl mC rfl) (Wa 6 Aom rfl ⟨Bxm,sB⟩ rfl (Vo (Ba EKind.f_name Buv rfl ty9 J)) ⟨Bxm,sB⟩ fun v9 n=>?_))))))))
 have U:s.data.toList.length<2^60:=At.slen n
 refine Dz 7 Aon rfl ⟨Bxm,sB⟩ rfl (Yld.o (Pk ty9 rfl n)) ⟨Bxm,sB⟩ (Nd 8 Aqg rfl rfl (Bi (α:=ByteArray) (xs:=[bs s.data.toList]) (vs:=[.string s]) Bts ty9 zr9 rfl (by decide) (Dk (os:=[.tmp 35]) ⟨rfl,trivial⟩) ⟨Nl (l:=s.data.toList) (by first|omega|(simp only[lZ2,lZ3,lZ7,lZ6,lZ4]at *;omega)),trivial⟩ rfl (by decide) fun k x u=>⟨⟨Bxm,sB⟩,?_⟩))
 have t:Grow K 9 (.slice (some ⟨k,0,none⟩) 1 1) ([bs s.data.toList]:List ByteArray) [(k,oC x.toArray 9)]:=Bs u rfl (by decide)
 refine Tj t sB fun a6 d I=>?_
 replace hk:=Bxl d hk
 replace ht:=Bxl d ht
 replace hh:=Bxl d hh
 replace hm:=Bxl d hm
 replace hf:=Bxl d hf
 replace hs:=Bxl d hs
 refine Nc Asc (Nd 9 Aoc rfl rfl (Gc (σ:=(r,oC #[vk,iV p.l.most,vt,vh,vm,vf,vs,iV p.last] 101)::(gt++(gh++(gm++(gf++(gs++σ)))))) (gr:=gk) (xs:=p.l.kinds) (ys:=([bs s.data.toList]:List ByteArray)) Bts Bts (Ab Bul) rfl nL rfl rfl rfl rfl hk I (by simp only[lZ2,lZ3,lZ7]at *;omega) fun g i h=>⟨⟨d,sB⟩,?_⟩))
 refine Dz 10 Aod rfl ⟨d,sB⟩ rfl (Yld.o (Ck rfl)) ⟨Bxm,sB⟩ (Dz 11 Anr rfl ⟨d,sB⟩ rfl (Yld.o (Ce Buc rfl (Ab Buq))) ⟨Bxm,sB⟩ (Dz 12 Ans rfl ⟨d,sB⟩ rfl (Yld.o (Ce Btv rfl (Ab Bup))) ⟨Bxm,sB⟩ (Nc Asd (Tw 13 Ant rfl rfl (Cz (j:=0) (v:=g) ⟨_,Ab Bup,rfl⟩ rfl rfl (Grow.single h) rfl nL ?_)))))
 refine Us rfl (kk D ?_)
 refine w_q rfl rfl fun M C=>Au (iV 0) (l_k C (Aq (y ⟨Bxn e d,.inr ⟨(⟨⟨p.l.kinds++([bs s.data.toList]:List ByteArray),p.l.most,p.l.tests⟩,⟨p.m.houses,p.m.marks,p.m.fields,p.m.sales⟩,p.last⟩:PSt),_,rfl,rfl,⟨g,vt,vh,vm,vf,vs,i,gt,gh,gm,gf,gs,rfl,(by constructor<;>omega),(by constructor<;>omega),h,ht,hh,hm,hf,hs⟩,Eq.trans (b:=(r,oC #[g,iV p.l.most,vt,vh,vm,vf,vs,iV p.last] 101)::(i++(gt++(gh++(gm++(gf++(gs++σ))))))) rfl (by simp only[lZ9,Ts,Xl])⟩⟩)))
theorem Asx{W0:World}{ρ:Ro}{σ:Own}{r:Nat}{p:PSt}{vk vt vh vm vf vs:Value}{gk gt gh gm gf gs:Own}{t:FTest}{vw:Value}(rw_:Val ρ vw (⟨t⟩:ETest))(hmo:I64 p.l.most)(hla:I64 p.last)(hB:RdB p 60001)(hk:Grow ρ 9 vk p.l.kinds gk)(ht:Grow ρ 46 vt p.l.tests gt)(hh:Grow ρ 9 vh p.m.houses gh)(hm:Grow ρ 9 vm p.m.marks gm)(hf:Grow ρ 51 vf p.m.fields gf)(hs:Grow ρ 54 vs p.m.sales gs):CallsH (CY W0) 120 #[pV r,.iface 256 vw] ρ ((r,oC #[vk,iV p.l.most,vt,vh,vm,vf,vs,iV p.last] 101)::(gk++(gt++(gh++(gm++(gf++(gs++σ))))))) (fun w ρ' σ'=>Ro.le ρ ρ'∧((∃f:Int,Fv p (.test t) = .inl f∧f≠0∧w = .int .i64 f∧σ'=σ)∨∃(q:PSt) (gr:Own),Fv p (.test t) = .inr q∧w=z0∧Act ρ' r q gr∧σ'=gr++σ)):=by
 obtain⟨a7,a8⟩:=hmo
 obtain⟨a5,a6⟩:=hla
 obtain⟨Z,a0,a1,a2,a3,a4⟩:=hB
 refine Bq 151 [4] Bvk rfl fun Q y a9=>w_q rfl rfl fun P B=>Au (iV 0) (Ary rfl rfl B fun T U D E=>Av (.iface 256 vw) (l_k E (Ao (w_q rfl rfl fun V F=>l_v (Eo (z:=.agg #[z0]) But rfl Zg (by decide) rfl) (l_v (Bp bF) (l_v (Bp (.agg #[z0])) (l_k F (Cg rfl rfl (w_q rfl rfl fun W G=>l_v (Eo (z:=.agg #[.string (ByteArray.mk #[])]) Buv rfl Acr (by decide) rfl) (l_v (Bp bF) (l_v (Bp (.agg #[.string (ByteArray.mk #[])])) (l_k G (Cg rfl rfl (w_q rfl rfl fun X H=>l_v (To Bux rfl rfl) (l_v (Bp bT) (l_v (Bp vw) (l_k H (Co rfl rfl (w_q rfl rfl fun Y I=>Arv (Ct Age fun k8=>?_))))))))))))))))))))
 refine Cx rfl (Dv (v:=vw) (a:=(⟨t⟩:ETest)) (c:=Bjn) Bqx rfl rfl rw_ rfl ?_)
 refine Bb (a:=(⟨t⟩:ETest)) rw_ fun O e M=>?_
 replace hk:=Bxl e hk
 replace ht:=Bxl e ht
 replace hh:=Bxl e hh
 replace hm:=Bxl e hm
 replace hf:=Bxl e hf
 replace hs:=Bxl e hs
 refine l_k I (Ox ((r,oC #[vk,iV p.l.most,vt,vh,vm,vf,vs,iV p.last] 101)::[]) [0,1,2,3,4,5,6,7,8,9,12] (by kernel_rfl) rfl rfl (Cu 0 Aob rfl ⟨Bxm,sB⟩ rfl (Yld.o (Ah (v:=pV r) rfl)) (Cu 1 Aoe rfl ⟨Bxm,sB⟩ rfl (Yld.o (Ah (v:=pV r) rfl)) (Cu 2 Aof rfl ⟨Bxm,sB⟩ rfl (Yld.o (Ck rfl)) (Cu 3 Aog rfl ⟨Bxm,sB⟩ rfl (Yld.o (Ce Buc rfl (Ab Buq))) (Cu 4 Aok rfl ⟨Bxm,sB⟩ rfl (Yld.o (Ce Btv rfl (Ab Bvn))) (Cu 5 Aol rfl ⟨Bxm,sB⟩ rfl (Fl (v:=vt) ⟨_,Bua,rfl⟩ rfl mC rfl) (Wa 6 Aom rfl ⟨Bxm,sB⟩ rfl (Vo (Ba ETest.f_t Bux rfl Um M)) ⟨Bxm,sB⟩ fun aa J=>Wa 7 Aon rfl ⟨Bxm,sB⟩ rfl (Vo (Ax Um rfl J)) ⟨Bxm,sB⟩ fun N K=>Nd 8 Aqg rfl rfl (Bi (α:=FTest) (xs:=[t]) (vs:=[N]) Bua Um Ws rfl (by decide) (Dk (os:=[.tmp 51]) ⟨rfl,trivial⟩) ⟨K,trivial⟩ rfl (by decide) fun k x u=>⟨⟨Bxm,sB⟩,?_⟩)))))))))
 have n:Grow O 46 (.slice (some ⟨k,0,none⟩) 1 1) ([t]:List FTest) [(k,oC x.toArray 46)]:=Bs u rfl (by decide)
 refine Tj n sB fun ab d L=>?_
 replace hk:=Bxl d hk
 replace ht:=Bxl d ht
 replace hh:=Bxl d hh
 replace hm:=Bxl d hm
 replace hf:=Bxl d hf
 replace hs:=Bxl d hs
 refine Nc (Fc Ase) (Nd 9 Aoc rfl rfl (Gc (σ:=(r,oC #[vk,iV p.l.most,vt,vh,vm,vf,vs,iV p.last] 101)::(gk++(gh++(gm++(gf++(gs++σ)))))) (gr:=gt) (xs:=p.l.tests) (ys:=([t]:List FTest)) Bua Bua (Ab Bwn) rfl nL rfl rfl rfl rfl ht L (by simp only[lZ2,lZ3,lZ7]at *;omega) fun g i h=>⟨⟨d,sB⟩,?_⟩))
 refine Dz 10 Aod rfl ⟨d,sB⟩ rfl (Yld.o (Ck rfl)) ⟨Bxm,sB⟩ (Dz 11 Anr rfl ⟨d,sB⟩ rfl (Yld.o (Ce Buc rfl (Ab Buq))) ⟨Bxm,sB⟩ (Dz 12 Ans rfl ⟨d,sB⟩ rfl (Yld.o (Ce Btv rfl (Ab Bvn))) ⟨Bxm,sB⟩ (Nc Asd (Tw 13 Ant rfl rfl (Cz (j:=0) (v:=g) ⟨_,Ab Bvn,rfl⟩ rfl rfl (Grow.single h) rfl nL ?_)))))
 refine Us rfl (kk D ?_)
 refine w_q rfl rfl fun R C=>Au (iV 0) (l_k C (Aj (Bxk (Fc Ase)) (Aj (Bxk Asd) (Aq (y ⟨Bxn e d,.inr ⟨(⟨⟨p.l.kinds,p.l.most,p.l.tests++([t]:List FTest)⟩,⟨p.m.houses,p.m.marks,p.m.fields,p.m.sales⟩,p.last⟩:PSt),_,rfl,rfl,⟨vk,g,vh,vm,vf,vs,gk,i,gh,gm,gf,gs,rfl,(by constructor<;>omega),(by constructor<;>omega),hk,h,hh,hm,hf,hs⟩,Eq.trans (b:=(r,oC #[vk,iV p.l.most,g,vh,vm,vf,vs,iV p.last] 101)::(gk++(i++(gh++(gm++(gf++(gs++σ))))))) rfl (by simp only[lZ9,Ts,Xl])⟩⟩)))))
theorem Bbw{W0:World}{ρ:Ro}{σ:Own}{r:Nat}{p:PSt}{vk vt vh vm vf vs:Value}{gk gt gh gm gf gs:Own}  (hmo:I64 p.l.most) (hla:I64 p.last) (hB:RdB p 60001) (hk:Grow ρ 9 vk p.l.kinds gk) (ht:Grow ρ 46 vt p.l.tests gt) (hh:Grow ρ 9 vh p.m.houses gh) (hm:Grow ρ 9 vm p.m.marks gm) (hf:Grow ρ 51 vf p.m.fields gf) (hs:Grow ρ 54 vs p.m.sales gs):CallsH (CY W0) 120 #[pV r,.iface 172 (.agg #[])] ρ ((r,oC #[vk,iV p.l.most,vt,vh,vm,vf,vs,iV p.last] 101)::(gk++(gt++(gh++(gm++(gf++(gs++σ))))))) (fun w ρ' σ'=>Ro.le ρ ρ'∧((∃f:Int,Fv p (.go) = .inl f∧f≠0∧w = .int .i64 f∧σ'=σ)∨∃(q:PSt) (gr:Own),Fv p (.go) = .inr q∧w=z0∧Act ρ' r q gr∧σ'=gr++σ)):=by
 obtain⟨P,R⟩:=hmo
 obtain⟨N,O⟩:=hla
 obtain⟨H,I,J,K,L,M⟩:=hB
 refine Bq 151 [4] Bvk rfl fun Q a T=>w_q rfl rfl fun u c=>Au (iV 0) (Ary rfl rfl c fun x y e g=>?_)
 refine Av (.iface 172 (.agg #[])) (l_k g (Ao (w_q rfl rfl fun B h=>l_v (Eo (z:=.agg #[z0]) But rfl Zg (by decide) rfl) (l_v (Bp bF) (l_v (Bp (.agg #[z0])) (l_k h (Cg rfl rfl (w_q rfl rfl fun C i=>l_v (Eo (z:=.agg #[.string (ByteArray.mk #[])]) Buv rfl Acr (by decide) rfl) (l_v (Bp bF) (l_v (Bp (.agg #[.string (ByteArray.mk #[])])) (l_k i (Cg rfl rfl (w_q rfl rfl fun D j=>l_v (Eo (z:=.agg #[.string (ByteArray.mk #[]),nS,bF]) Bux rfl Age (by decide) rfl) (l_v (Bp bF) (l_v (Bp (.agg #[.string (ByteArray.mk #[]),nS,bF])) (l_k j (Cg rfl rfl (w_q rfl rfl fun E k=>l_v (Eo (z:=.agg #[bF,.string (ByteArray.mk #[])]) Buu rfl Aly (by decide) rfl) (l_v (Bp bF) (l_v (Bp (.agg #[bF,.string (ByteArray.mk #[])])) (l_k k (Cg rfl rfl (w_q rfl rfl fun F n=>l_v (Eo (z:=.agg #[.string (ByteArray.mk #[]),z0,z0,z0,nS,.string (ByteArray.mk #[])]) Buy rfl Aru (by decide) rfl) (l_v (Bp bF) (l_v (Bp (.agg #[.string (ByteArray.mk #[]),z0,z0,z0,nS,.string (ByteArray.mk #[])])) (l_k n (Cg rfl rfl (w_q rfl rfl fun G t=>l_v (Eo (z:=.agg #[z0,nS]) Bvc rfl Ayx (by decide) rfl) (l_v (Bp bF) (l_v (Bp (.agg #[z0,nS])) (l_k t (Cg rfl rfl (Al (kk e ?_))))))))))))))))))))))))))))))))))
 refine w_q rfl rfl fun v d=>Au (iV 0) (l_k d (Aq (a ⟨Bxm,.inr ⟨(⟨⟨p.l.kinds,p.l.most,p.l.tests⟩,⟨p.m.houses,p.m.marks,p.m.fields,p.m.sales⟩,p.last⟩:PSt),_,rfl,rfl,⟨vk,vt,vh,vm,vf,vs,gk,gt,gh,gm,gf,gs,rfl,(by constructor<;>omega),(by constructor<;>omega),hk,ht,hh,hm,hf,hs⟩,Eq.trans (b:=(r,oC #[vk,iV p.l.most,vt,vh,vm,vf,vs,iV p.last] 101)::(gk++(gt++(gh++(gm++(gf++(gs++σ))))))) rfl (by simp only[lZ9,Ts,Xl])⟩⟩)))
theorem Asv{W0:World}{ρ:Ro}{σ:Own}{r:Nat}{p:PSt}{vk vt vh vm vf vs:Value}{gk gt gh gm gf gs:Own}{mk:Bool}{s:ByteArray}{vw:Value}(rw_:Val ρ vw (⟨mk,s⟩:EName))(hmo:I64 p.l.most)(hla:I64 p.last)(hB:RdB p 60001)(hk:Grow ρ 9 vk p.l.kinds gk)(ht:Grow ρ 46 vt p.l.tests gt)(hh:Grow ρ 9 vh p.m.houses gh)(hm:Grow ρ 9 vm p.m.marks gm)(hf:Grow ρ 51 vf p.m.fields gf)(hs:Grow ρ 54 vs p.m.sales gs):CallsH (CY W0) 120 #[pV r,.iface 266 vw] ρ ((r,oC #[vk,iV p.l.most,vt,vh,vm,vf,vs,iV p.last] 101)::(gk++(gt++(gh++(gm++(gf++(gs++σ))))))) (fun w ρ' σ'=>Ro.le ρ ρ'∧((∃f:Int,Fv p (.name mk s) = .inl f∧f≠0∧w = .int .i64 f∧σ'=σ)∨∃(q:PSt) (gr:Own),Fv p (.name mk s) = .inr q∧w=z0∧Act ρ' r q gr∧σ'=gr++σ)):=by
 obtain⟨ag,ah⟩:=hmo
 obtain⟨ae,af⟩:=hla
 obtain⟨a8,a9,aa,ab,ac,ad⟩:=hB
 refine Bq 151 [4] Bvk rfl fun Q C ai=>w_q rfl rfl fun K1 P=>Au (iV 0) (Ary rfl rfl P fun K2 K3 E V=>Av (.iface 266 vw) (l_k V (Ao (w_q rfl rfl fun K4 W=>l_v (Eo (z:=.agg #[z0]) But rfl Zg (by decide) rfl) (l_v (Bp bF) (l_v (Bp (.agg #[z0])) (l_k W (Cg rfl rfl (w_q rfl rfl fun K5 X=>l_v (Eo (z:=.agg #[.string (ByteArray.mk #[])]) Buv rfl Acr (by decide) rfl) (l_v (Bp bF) (l_v (Bp (.agg #[.string (ByteArray.mk #[])])) (l_k X (Cg rfl rfl (w_q rfl rfl fun K6 Y=>l_v (Eo (z:=.agg #[.string (ByteArray.mk #[]),nS,bF]) Bux rfl Age (by decide) rfl) (l_v (Bp bF) (l_v (Bp (.agg #[.string (ByteArray.mk #[]),nS,bF])) (l_k Y (Cg rfl rfl (w_q rfl rfl fun K7 Z=>l_v (To Buu rfl rfl) (l_v (Bp bT) (l_v (Bp vw) (l_k Z (Co rfl rfl (w_q rfl rfl fun K8 k8=>Arv (Ct Aly fun k9=>?_)))))))))))))))))))))))))
 refine Cx rfl (Dv (v:=vw) (a:=(⟨mk,s⟩:EName)) (c:=Bjr) Brb rfl rfl rw_ rfl ?_)
 refine Bb (a:=(⟨mk,s⟩:EName)) rw_ fun I g i=>?_
 replace hk:=Bxl g hk
 replace ht:=Bxl g ht
 replace hh:=Bxl g hh
 replace hm:=Bxl g hm
 replace hf:=Bxl g hf
 replace hs:=Bxl g hs
 refine Arx rfl rfl k8 fun a3 R=>Arw (Ba EName.f_mark Buu rfl ty4 i) fun aj a0=>l_v (Nx ty4 rfl a0) (l_k R (Bf (t:=mk) rfl (fun h=>?_) (fun h=>?_)))
 ·refine Ox ((r,oC #[vk,iV p.l.most,vt,vh,vm,vf,vs,iV p.last] 101)::[]) [0,1,2,3,4,5,6,7,8,9,12] (by kernel_rfl) rfl rfl (Cu 0 Aob rfl ⟨Bxm,sB⟩ rfl (Yld.o (Ah (v:=pV r) rfl)) (Cu 1 Aoe rfl ⟨Bxm,sB⟩ rfl (Yld.o (Ah (v:=pV r) rfl)) (Cu 2 Aof rfl ⟨Bxm,sB⟩ rfl (Yld.o (Ck rfl)) (Cu 3 Aog rfl ⟨Bxm,sB⟩ rfl (Yld.o (Ce Buc rfl (Ab Bum))) (Cu 4 Aok rfl ⟨Bxm,sB⟩ rfl (Yld.o (Ce Btt rfl (Ab Bup))) (Cu 5 Aol rfl ⟨Bxm,sB⟩ rfl (Fl (v:=vm) ⟨_,Bts,rfl⟩ rfl mC rfl) (Wa 6 Aom rfl ⟨Bxm,sB⟩ rfl (Vo (Ba EName.f_name Buu rfl ty9 i)) ⟨Bxm,sB⟩ fun ak G=>?_)))))))
  have a6:s.data.toList.length<2^60:=At.slen G
  refine Dz 7 Aon rfl ⟨Bxm,sB⟩ rfl (Yld.o (Pk ty9 rfl G)) ⟨Bxm,sB⟩ (Nd 8 Aqg rfl rfl (Bi (α:=ByteArray) (xs:=[bs s.data.toList]) (vs:=[.string s]) Bts ty9 zr9 rfl (by decide) (Dk (os:=[.tmp 69]) ⟨rfl,trivial⟩) ⟨Nl (l:=s.data.toList) (by first|omega|(simp only[lZ2,lZ3,lZ7,lZ6,lZ4]at *;omega)),trivial⟩ rfl (by decide) fun D N L=>⟨⟨Bxm,sB⟩,?_⟩))
  have J:Grow I 9 (.slice (some ⟨D,0,none⟩) 1 1) ([bs s.data.toList]:List ByteArray) [(D,oC N.toArray 9)]:=Bs L rfl (by decide)
  refine Tj J sB fun am d a1=>?_
  replace hk:=Bxl d hk
  replace ht:=Bxl d ht
  replace hh:=Bxl d hh
  replace hm:=Bxl d hm
  replace hf:=Bxl d hf
  replace hs:=Bxl d hs
  refine Nc (Fc (Df (Df Ase))) (Nd 9 Aoc rfl rfl (Gc (σ:=(r,oC #[vk,iV p.l.most,vt,vh,vm,vf,vs,iV p.last] 101)::(gk++(gt++(gh++(gf++(gs++σ)))))) (gr:=gm) (xs:=p.m.marks) (ys:=([bs s.data.toList]:List ByteArray)) Bts Bts (Ab Bul) rfl nL rfl rfl rfl rfl hm a1 (by simp only[lZ2,lZ3,lZ7]at *;omega) fun k y u=>⟨⟨d,sB⟩,?_⟩))
  refine Dz 10 Aod rfl ⟨d,sB⟩ rfl (Yld.o (Ck rfl)) ⟨Bxm,sB⟩ (Dz 11 Anr rfl ⟨d,sB⟩ rfl (Yld.o (Ce Buc rfl (Ab Bum))) ⟨Bxm,sB⟩ (Dz 12 Ans rfl ⟨d,sB⟩ rfl (Yld.o (Ce Btt rfl (Ab Bup))) ⟨Bxm,sB⟩ (Nc Asd (Tw 13 Ant rfl rfl (Cz (j:=0) (v:=k) ⟨_,Ab Bup,rfl⟩ rfl rfl (Grow.single u) rfl nL ?_)))))
  refine Us rfl (kk E ?_)
  refine w_q rfl rfl fun a4 T=>Au (iV 0) (l_k T (Aj (Bxk (Fc (Df (Df Ase)))) (Aj (Bxk (Df (Fc (Df Ase)))) (Aj (Bxk (Df (Df (Fc Ase)))) (Aj (Bxk (Gk (Gk Asd))) (Aq (C ⟨Bxn g d,.inr ⟨(⟨⟨p.l.kinds,p.l.most,p.l.tests⟩,⟨p.m.houses,p.m.marks++([bs s.data.toList]:List ByteArray),p.m.fields,p.m.sales⟩,p.last⟩:PSt),_,(by simp only[Fv];rw[h];rfl),rfl,⟨vk,vt,vh,k,vf,vs,gk,gt,gh,y,gf,gs,rfl,(by constructor<;>omega),(by constructor<;>omega),hk,ht,hh,u,hf,hs⟩,Eq.trans (b:=(r,oC #[vk,iV p.l.most,vt,vh,k,vf,vs,iV p.last] 101)::(gk++(gt++(gh++(y++(gf++(gs++σ))))))) rfl (by simp only[lZ9,Ts,Xl])⟩⟩)))))))
 refine Ox ((r,oC #[vk,iV p.l.most,vt,vh,vm,vf,vs,iV p.last] 101)::[]) [0,1,2,3,4,5,6,7,8,9,12] (by kernel_rfl) rfl rfl (Cu 0 Aob rfl ⟨Bxm,sB⟩ rfl (Yld.o (Ah (v:=pV r) rfl)) (Cu 1 Aoe rfl ⟨Bxm,sB⟩ rfl (Yld.o (Ah (v:=pV r) rfl)) (Cu 2 Aof rfl ⟨Bxm,sB⟩ rfl (Yld.o (Ck rfl)) (Cu 3 Aog rfl ⟨Bxm,sB⟩ rfl (Yld.o (Ce Buc rfl (Ab Bum))) (Cu 4 Aok rfl ⟨Bxm,sB⟩ rfl (Yld.o (Ce Btt rfl (Ab Bup))) (Cu 5 Aol rfl ⟨Bxm,sB⟩ rfl (Fl (v:=vh) ⟨_,Bts,rfl⟩ rfl mC rfl) (Wa 6 Aom rfl ⟨Bxm,sB⟩ rfl (Vo (Ba EName.f_name Buu rfl ty9 i)) ⟨Bxm,sB⟩ fun al H=>?_)))))))
 have a7:s.data.toList.length<2^60:=At.slen H
 refine Dz 7 Aon rfl ⟨Bxm,sB⟩ rfl (Yld.o (Pk ty9 rfl H)) ⟨Bxm,sB⟩ (Nd 8 Aqg rfl rfl (Bi (α:=ByteArray) (xs:=[bs s.data.toList]) (vs:=[.string s]) Bts ty9 zr9 rfl (by decide) (Dk (os:=[.tmp 82]) ⟨rfl,trivial⟩) ⟨Nl (l:=s.data.toList) (by first|omega|(simp only[lZ2,lZ3,lZ7,lZ6,lZ4]at *;omega)),trivial⟩ rfl (by decide) fun F O M=>⟨⟨Bxm,sB⟩,?_⟩))
 have K:Grow I 9 (.slice (some ⟨F,0,none⟩) 1 1) ([bs s.data.toList]:List ByteArray) [(F,oC O.toArray 9)]:=Bs M rfl (by decide)
 refine Tj K sB fun an e a2=>?_
 replace hk:=Bxl e hk
 replace ht:=Bxl e ht
 replace hh:=Bxl e hh
 replace hm:=Bxl e hm
 replace hf:=Bxl e hf
 replace hs:=Bxl e hs
 refine Nc (Fc (Df Ase)) (Nd 9 Aoc rfl rfl (Gc (σ:=(r,oC #[vk,iV p.l.most,vt,vh,vm,vf,vs,iV p.last] 101)::(gk++(gt++(gm++(gf++(gs++σ)))))) (gr:=gh) (xs:=p.m.houses) (ys:=([bs s.data.toList]:List ByteArray)) Bts Bts (Ab Bul) rfl nL rfl rfl rfl rfl hh a2 (by simp only[lZ2,lZ3,lZ7]at *;omega) fun n B x=>⟨⟨e,sB⟩,?_⟩))
 refine Dz 10 Aod rfl ⟨e,sB⟩ rfl (Yld.o (Ck rfl)) ⟨Bxm,sB⟩ (Dz 11 Anr rfl ⟨e,sB⟩ rfl (Yld.o (Ce Buc rfl (Ab Bum))) ⟨Bxm,sB⟩ (Dz 12 Ans rfl ⟨e,sB⟩ rfl (Yld.o (Ce Btt rfl (Ab Bup))) ⟨Bxm,sB⟩ (Nc Asd (Tw 13 Ant rfl rfl (Cz (j:=0) (v:=n) ⟨_,Ab Bup,rfl⟩ rfl rfl (Grow.single x) rfl nL ?_)))))
 refine Us rfl (kk E ?_)
 refine w_q rfl rfl fun a5 U=>Au (iV 0) (l_k U (Aj (Bxk (Fc (Df Ase))) (Aj (Bxk (Df (Fc Ase))) (Aj (Bxk (Gk Asd)) (Aq (C ⟨Bxn g e,.inr ⟨(⟨⟨p.l.kinds,p.l.most,p.l.tests⟩,⟨p.m.houses++([bs s.data.toList]:List ByteArray),p.m.marks,p.m.fields,p.m.sales⟩,p.last⟩:PSt),_,(by simp only[Fv];rw[h];rfl),rfl,⟨vk,vt,n,vm,vf,vs,gk,gt,B,gm,gf,gs,rfl,(by constructor<;>omega),(by constructor<;>omega),hk,ht,x,hm,hf,hs⟩,Eq.trans (b:=(r,oC #[vk,iV p.l.most,vt,n,vm,vf,vs,iV p.last] 101)::(gk++(gt++(B++(gm++(gf++(gs++σ))))))) rfl (by simp only[lZ9,Ts,Xl])⟩⟩))))))
theorem Aqj{W0:World}{ρ:Ro}{σ:Own}{r:Nat}{p:PSt}{vk vt vh vm vf vs:Value}{gk gt gh gm gf gs:Own}{x:FField}{h:ByteArray}{vw:Value}(rw_:Val ρ vw (⟨x,h⟩:EField))(hmo:I64 p.l.most)(hla:I64 p.last)(hB:RdB p 60001)(hk:Grow ρ 9 vk p.l.kinds gk)(ht:Grow ρ 46 vt p.l.tests gt)(hh:Grow ρ 9 vh p.m.houses gh)(hm:Grow ρ 9 vm p.m.marks gm)(hf:Grow ρ 51 vf p.m.fields gf)(hs:Grow ρ 54 vs p.m.sales gs)(hnr:Jp σ):CallsH (CY W0) 120 #[pV r,.iface 258 vw] ρ ((r,oC #[vk,iV p.l.most,vt,vh,vm,vf,vs,iV p.last] 101)::(gk++(gt++(gh++(gm++(gf++(gs++σ))))))) (fun w ρ' σ'=>Ro.le ρ ρ'∧((∃f:Int,Fv p (.field x h) = .inl f∧f≠0∧w = .int .i64 f∧σ'=σ)∨∃(q:PSt) (gr:Own),Fv p (.field x h) = .inr q∧w=z0∧Act ρ' r q gr∧σ'=gr++σ)):=by
 obtain⟨ap,aq⟩:=hmo
 obtain⟨an,ao⟩:=hla
 obtain⟨ag,ah,ai,aj,ak,al⟩:=hB
 refine Bq 151 [4] Bvk rfl fun Q D ar=>w_q rfl rfl fun K1 O=>Au (iV 0) (Ary rfl rfl O fun K2 K3 V X=>Av (.iface 258 vw) (l_k X (Ao (w_q rfl rfl fun K4 Y=>l_v (Eo (z:=.agg #[z0]) But rfl Zg (by decide) rfl) (l_v (Bp bF) (l_v (Bp (.agg #[z0])) (l_k Y (Cg rfl rfl (w_q rfl rfl fun K5 Z=>l_v (Eo (z:=.agg #[.string (ByteArray.mk #[])]) Buv rfl Acr (by decide) rfl) (l_v (Bp bF) (l_v (Bp (.agg #[.string (ByteArray.mk #[])])) (l_k Z (Cg rfl rfl (w_q rfl rfl fun K6 k6=>l_v (Eo (z:=.agg #[.string (ByteArray.mk #[]),nS,bF]) Bux rfl Age (by decide) rfl) (l_v (Bp bF) (l_v (Bp (.agg #[.string (ByteArray.mk #[]),nS,bF])) (l_k k6 (Cg rfl rfl (w_q rfl rfl fun K7 k7=>l_v (Eo (z:=.agg #[bF,.string (ByteArray.mk #[])]) Buu rfl Aly (by decide) rfl) (l_v (Bp bF) (l_v (Bp (.agg #[bF,.string (ByteArray.mk #[])])) (l_k k7 (Cg rfl rfl (w_q rfl rfl fun K8 k8=>l_v (To Buy rfl rfl) (l_v (Bp bT) (l_v (Bp vw) (l_k k8 (Co rfl rfl (w_q rfl rfl fun K9 k9=>Arv (Ct Aru fun E=>?_))))))))))))))))))))))))))))))
 obtain⟨c,K,au,⟨av,aw⟩,⟨ax,ay⟩,⟨az,b0⟩,e,b1⟩:=EField.open_ rw_
 have L:vw.cells=[.string (((⟨x,h⟩:EField)).x.name),iV (((⟨x,h⟩:EField)).x.house),iV (((⟨x,h⟩:EField)).x.grows.low),iV (((⟨x,h⟩:EField)).x.grows.high),c,.string (((⟨x,h⟩:EField)).house)].toArray:=by rw[K];rfl
 refine Cx rfl (Li (i:=0) (vs:=[.string (((⟨x,h⟩:EField)).x.name),iV (((⟨x,h⟩:EField)).x.house),iV (((⟨x,h⟩:EField)).x.grows.low),iV (((⟨x,h⟩:EField)).x.grows.high),c,.string (((⟨x,h⟩:EField)).house)]) (c':=[.string (((⟨x,h⟩:EField)).x.name),iV (((⟨x,h⟩:EField)).x.house),iV (((⟨x,h⟩:EField)).x.grows.low),iV (((⟨x,h⟩:EField)).x.grows.high),c,.string (((⟨x,h⟩:EField)).house)]) ⟨_,Ab Bww,rfl⟩ rfl rfl L rfl (Zh ⟨rfl,rfl,rfl,rfl,Val.single_l e,rfl,trivial⟩) rfl nL rfl ?_)
 refine Asa k9 fun ab P=>Ai fun ac R=>Aj (Bxk (Fc (Fc (Df Ase)))) ?_
 have aa:=rw_
 have a5:=hk
 have a8:=ht
 have a4:=hh
 have a6:=hm
 have a3:=hf
 have a7:=hs
 have a9:=e
 refine Baw hh fun b3 d a0 H=>?_
 replace hk:=Bxl d hk
 replace ht:=Bxl d ht
 replace hh:=Bxl d hh
 replace hm:=Bxl d hm
 replace hf:=Bxl d hf
 replace hs:=Bxl d hs
 replace e:=Val.mono d e
 refine Ag rfl rfl (Av (pV r) (l_v (Ce Buy rfl (Ab Bul)) (Arv (Dt (i:=0) (v:=.string (((⟨x,h⟩:EField)).house)) ⟨_,Btr,rfl⟩ rfl rfl rfl ?_))))
 refine Bj (Bxk Arz) ?_
 have am:=Azh (l:=p.m.houses) (s:=((⟨x,h⟩:EField)).house)
 refine Arv (Cm (vs:=[pV r,.string (((⟨x,h⟩:EField)).house)]) (Asr (r:=r) (s:=((⟨x,h⟩:EField)).house) (hs:=p.m.houses) a0) Tryz.func147 rfl rfl ⟨rfl,rfl,trivial⟩ fun b2 b4 b6 M=>?_)
 obtain⟨k,n,N⟩:=M
 replace k:=k.symm;replace n:=n.symm;subst k n N
 refine l_v (Ce Buy rfl (Ab Bvh)) (l_v (Ce Btx rfl (Ab Btz)) (Cx rfl (Cz (j:=1) (v:=iV (findI p.m.houses (((⟨x,h⟩:EField)).house))) ⟨_,Ab Btz,rfl⟩ rfl rfl rfl rfl nL ?_)))
 refine Asa R fun ad T=>Bav H (Gb (Gb (Hr hk (Hr ht (Hr hm (Hr hf (Hr hs hnr))))))) ?_
 replace rw_:=aa
 replace hk:=a5
 replace ht:=a8
 replace hh:=a4
 replace hm:=a6
 replace hf:=a3
 replace hs:=a7
 replace e:=a9
 refine Ag rfl rfl (l_v (Ce Buy rfl (Ab Bvh)) (l_v (Ce Btx rfl (Ab Btz)) (Arv (Gu (v:=iV (findI p.m.houses (((⟨x,h⟩:EField)).house))) ⟨_,Bty,rfl⟩ rfl (Po _ (lZ5 _ mC)) rfl ?_))))
 refine l_v (Da rfl rfl) (l_k T (Bf (t:=decide ((findI p.m.houses (((⟨x,h⟩:EField)).house))<0)) rfl (fun g=>?_) (fun g=>?_)))
 ·have u:=lZ1 g
  refine w_q rfl rfl fun ae U=>Au (iV 6) (l_k U (Aj (drops hh.1) (Aj Bxi (Aj Bxi (Aj (drops hk.1) (Aj (drops ht.1) (Aj (drops hm.1) (Aj (drops hf.1) (Aj (drops hs.1) (Aq (D ⟨Bxm,.inl ⟨_,Ams u,by decide,rfl,rfl⟩⟩)))))))))))
 have u:=lZ0 g
 refine Al (kk P ?_)
 refine Ox ((r,oC #[vk,iV p.l.most,vt,vh,vm,vf,vs,iV p.last] 101)::((E,oC #[.string (((⟨x,h⟩:EField)).x.name),iV (findI p.m.houses (((⟨x,h⟩:EField)).house)),iV (((⟨x,h⟩:EField)).x.grows.low),iV (((⟨x,h⟩:EField)).x.grows.high),c,.string (((⟨x,h⟩:EField)).house)] 258)::[])) [0,1,2,3,4,5,6,7,8,9,12] (by kernel_rfl) rfl rfl (Cu 0 Aob rfl ⟨Bxm,sB⟩ rfl (Yld.o (Ah (v:=pV r) rfl)) (Cu 1 Aoe rfl ⟨Bxm,sB⟩ rfl (Yld.o (Ah (v:=pV r) rfl)) (Cu 2 Aof rfl ⟨Bxm,sB⟩ rfl (Yld.o (Ck rfl)) (Cu 3 Aog rfl ⟨Bxm,sB⟩ rfl (Yld.o (Ce Buc rfl (Ab Bum))) (Cu 4 Aok rfl ⟨Bxm,sB⟩ rfl (Yld.o (Ce Btt rfl (Ab Bvo))) (Cu 5 Aol rfl ⟨Bxm,sB⟩ rfl (Fl (v:=vf) ⟨_,Bue,rfl⟩ rfl mC rfl) (Dz 6 Aom rfl ⟨Bxm,sB⟩ rfl (Yld.o (Ce Buy rfl (Ab Bvh))) ⟨Bxm,sB⟩ (Dz 7 Aon rfl ⟨Bxm,sB⟩ rfl (Avx (cs:=[.string (((⟨x,h⟩:EField)).x.name),iV (findI p.m.houses (((⟨x,h⟩:EField)).house)),iV (((⟨x,h⟩:EField)).x.grows.low),iV (((⟨x,h⟩:EField)).x.grows.high),c]) (rs:=[.string (((⟨x,h⟩:EField)).house)]) ⟨_,Btx,rfl⟩ ⟨_,Ab Bvh,rfl⟩ rfl (lZ5 _ mC) rfl rfl) ⟨Bxm,sB⟩ ?_))))))))
 have a1:Val ρ (.agg #[.string (((⟨x,h⟩:EField)).x.name),iV (findI p.m.houses (((⟨x,h⟩:EField)).house)),iV (((⟨x,h⟩:EField)).x.grows.low),iV (((⟨x,h⟩:EField)).x.grows.high),c]) (⟨((⟨x,h⟩:EField)).x.name,findI p.m.houses (((⟨x,h⟩:EField)).house),⟨((⟨x,h⟩:EField)).x.grows.low,((⟨x,h⟩:EField)).x.grows.high⟩,((⟨x,h⟩:EField)).x.marks⟩:FField):=FField.shut (x:=(⟨((⟨x,h⟩:EField)).x.name,findI p.m.houses (((⟨x,h⟩:EField)).house),⟨((⟨x,h⟩:EField)).x.grows.low,((⟨x,h⟩:EField)).x.grows.high⟩,((⟨x,h⟩:EField)).x.marks⟩:FField)) (show (((⟨x,h⟩:EField)).x.name).size<2^60 by omega) (iC (findI p.m.houses (((⟨x,h⟩:EField)).house))) (iC (((⟨x,h⟩:EField)).x.grows.low)) (iC (((⟨x,h⟩:EField)).x.grows.high)) e
 refine Nd 8 Aqg rfl rfl (Bi (α:=FField) (xs:=[(⟨((⟨x,h⟩:EField)).x.name,findI p.m.houses (((⟨x,h⟩:EField)).house),⟨((⟨x,h⟩:EField)).x.grows.low,((⟨x,h⟩:EField)).x.grows.high⟩,((⟨x,h⟩:EField)).x.marks⟩:FField)]) (vs:=[.agg #[.string (((⟨x,h⟩:EField)).x.name),iV (findI p.m.houses (((⟨x,h⟩:EField)).house)),iV (((⟨x,h⟩:EField)).x.grows.low),iV (((⟨x,h⟩:EField)).x.grows.high),c]]) Bue Lo Xu rfl (by decide) (Dk (os:=[.tmp 108]) ⟨rfl,trivial⟩) ⟨a1,trivial⟩ rfl (by decide) fun F J I=>⟨⟨Bxm,sB⟩,?_⟩)
 have G:Grow ρ 51 (.slice (some ⟨F,0,none⟩) 1 1) ([(⟨((⟨x,h⟩:EField)).x.name,findI p.m.houses (((⟨x,h⟩:EField)).house),⟨((⟨x,h⟩:EField)).x.grows.low,((⟨x,h⟩:EField)).x.grows.high⟩,((⟨x,h⟩:EField)).x.marks⟩:FField)]:List FField) [(F,oC J.toArray 51)]:=Bs I rfl (by decide)
 refine Tj G sB fun b5 a a2=>?_
 replace hk:=Bxl a hk
 replace ht:=Bxl a ht
 replace hh:=Bxl a hh
 replace hm:=Bxl a hm
 replace hf:=Bxl a hf
 replace hs:=Bxl a hs
 refine Nc (Df (Fc (Fc (Df (Df Ase))))) (Nd 9 Aoc rfl rfl (Gc (σ:=gh++((r,oC #[vk,iV p.l.most,vt,vh,vm,vf,vs,iV p.last] 101)::((E,oC #[.string (((⟨x,h⟩:EField)).x.name),iV (findI p.m.houses (((⟨x,h⟩:EField)).house)),iV (((⟨x,h⟩:EField)).x.grows.low),iV (((⟨x,h⟩:EField)).x.grows.high),c,.string (((⟨x,h⟩:EField)).house)] 258)::(gk++(gt++(gm++(gs++σ))))))) (gr:=gf) (xs:=p.m.fields) (ys:=([(⟨((⟨x,h⟩:EField)).x.name,findI p.m.houses (((⟨x,h⟩:EField)).house),⟨((⟨x,h⟩:EField)).x.grows.low,((⟨x,h⟩:EField)).x.grows.high⟩,((⟨x,h⟩:EField)).x.marks⟩:FField)]:List FField)) Bue Bue (Ab Bvh) rfl nL rfl rfl rfl rfl hf a2 (by simp only[lZ2,lZ3,lZ7]at *;omega) fun y C B=>⟨⟨a,sB⟩,?_⟩))
 refine Dz 10 Aod rfl ⟨a,sB⟩ rfl (Yld.o (Ck rfl)) ⟨Bxm,sB⟩ (Dz 11 Anr rfl ⟨a,sB⟩ rfl (Yld.o (Ce Buc rfl (Ab Bum))) ⟨Bxm,sB⟩ (Dz 12 Ans rfl ⟨a,sB⟩ rfl (Yld.o (Ce Btt rfl (Ab Bvo))) ⟨Bxm,sB⟩ (Nc (Gk Asd) (Tw 13 Ant rfl rfl (Cz (j:=0) (v:=y) ⟨_,Ab Bvo,rfl⟩ rfl rfl (Grow.single B) rfl nL ?_)))))
 refine Us rfl (kk V ?_)
 refine w_q rfl rfl fun af W=>Au (iV 0) (l_k W (Aj (Bxk (Pm (Gk Asd))) (Aj Bxi (Aj (Bxk (Fc (Df (Df (Df Ase))))) (Aj (Bxk (Df (Fc Ase))) (Aj (Bxk (Df (Df (Fc (Df Ase))))) (Aj (Bxk (Df (Df (Df (Fc Ase))))) (Aj (Bxk (Gk (Gk (Gk Asd)))) (Aq (D ⟨a,.inr ⟨(⟨⟨p.l.kinds,p.l.most,p.l.tests⟩,⟨p.m.houses,p.m.marks,p.m.fields++([(⟨((⟨x,h⟩:EField)).x.name,findI p.m.houses (((⟨x,h⟩:EField)).house),⟨((⟨x,h⟩:EField)).x.grows.low,((⟨x,h⟩:EField)).x.grows.high⟩,((⟨x,h⟩:EField)).x.marks⟩:FField)]:List FField),p.m.sales⟩,p.last⟩:PSt),_,Avg u,rfl,⟨vk,vt,vh,vm,y,vs,gk,gt,gh,gm,C,gs,rfl,(by constructor<;>omega),(by constructor<;>omega),hk,ht,hh,hm,B,hs⟩,Eq.trans (b:=(r,oC #[vk,iV p.l.most,vt,vh,vm,y,vs,iV p.last] 101)::(gk++(gt++(gh++(gm++(C++(gs++σ))))))) rfl (by simp only[lZ9,Ts,Xl])⟩⟩))))))))))
theorem Asw{W0:World}{ρ:Ro}{σ:Own}{r:Nat}{p:PSt}{vk vt vh vm vf vs:Value}{gk gt gh gm gf gs:Own}{n:Int}{l:List ByteArray}{vw:Value}(rw_:Val ρ vw (⟨n,l⟩:ESale))(hmo:I64 p.l.most)(hla:I64 p.last)(hB:RdB p 60001)(hk:Grow ρ 9 vk p.l.kinds gk)(ht:Grow ρ 46 vt p.l.tests gt)(hh:Grow ρ 9 vh p.m.houses gh)(hm:Grow ρ 9 vm p.m.marks gm)(hf:Grow ρ 51 vf p.m.fields gf)(hs:Grow ρ 54 vs p.m.sales gs)(hnr:Jp σ)(hnl:l.length≤60001):CallsH (CY W0) 120 #[pV r,.iface 260 vw] ρ ((r,oC #[vk,iV p.l.most,vt,vh,vm,vf,vs,iV p.last] 101)::(gk++(gt++(gh++(gm++(gf++(gs++σ))))))) (fun w ρ' σ'=>Ro.le ρ ρ'∧((∃f:Int,Fv p (.sale n l) = .inl f∧f≠0∧w = .int .i64 f∧σ'=σ)∨∃(q:PSt) (gr:Own),Fv p (.sale n l) = .inr q∧w=z0∧Act ρ' r q gr∧σ'=gr++σ)):=by
 obtain⟨bu,bv⟩:=hmo
 obtain⟨br,bt⟩:=hla
 obtain⟨bk,bl,bm,bn,bo,bp⟩:=hB
 refine Bq 151 [4] Bvk rfl fun Q M bx=>w_q rfl rfl fun K1 k1=>Au (iV 0) (Ary rfl rfl k1 fun K2 K3 k2 k3=>?_)
 refine Av (.iface 260 vw) (l_k k3 (Ao (w_q rfl rfl fun K4 k4=>l_v (Eo (z:=.agg #[z0]) But rfl Zg (by decide) rfl) (l_v (Bp bF) (l_v (Bp (.agg #[z0])) (l_k k4 (Cg rfl rfl (w_q rfl rfl fun K5 k5=>l_v (Eo (z:=.agg #[.string (ByteArray.mk #[])]) Buv rfl Acr (by decide) rfl) (l_v (Bp bF) (l_v (Bp (.agg #[.string (ByteArray.mk #[])])) (l_k k5 (Cg rfl rfl (w_q rfl rfl fun K6 k6=>l_v (Eo (z:=.agg #[.string (ByteArray.mk #[]),nS,bF]) Bux rfl Age (by decide) rfl) (l_v (Bp bF) (l_v (Bp (.agg #[.string (ByteArray.mk #[]),nS,bF])) (l_k k6 (Cg rfl rfl (w_q rfl rfl fun K7 k7=>l_v (Eo (z:=.agg #[bF,.string (ByteArray.mk #[])]) Buu rfl Aly (by decide) rfl) (l_v (Bp bF) (l_v (Bp (.agg #[bF,.string (ByteArray.mk #[])])) (l_k k7 (Cg rfl rfl (w_q rfl rfl fun K8 k8=>l_v (Eo (z:=.agg #[.string (ByteArray.mk #[]),z0,z0,z0,nS,.string (ByteArray.mk #[])]) Buy rfl Aru (by decide) rfl) (l_v (Bp bF) (l_v (Bp (.agg #[.string (ByteArray.mk #[]),z0,z0,z0,nS,.string (ByteArray.mk #[])])) (l_k k8 (Cg rfl rfl (w_q rfl rfl fun K9 k9=>l_v (To Bvc rfl rfl) (l_v (Bp bT) (l_v (Bp vw) (l_k k9 (Co rfl rfl (w_q rfl rfl fun b3 a7=>Arv (Ct Ayx fun bz=>?_))))))))))))))))))))))))))))))))))
 refine Cx rfl (Dv (v:=vw) (a:=(⟨n,l⟩:ESale)) (c:=Bjo) Bqy rfl rfl rw_ rfl ?_)
 refine Bb (a:=(⟨n,l⟩:ESale)) rw_ fun V h R=>?_
 replace hk:=Bxl h hk
 replace ht:=Bxl h ht
 replace hh:=Bxl h hh
 replace hm:=Bxl h hm
 replace hf:=Bxl h hf
 replace hs:=Bxl h hs
 refine Arx rfl rfl a7 fun b4 a8=>Arw (Ba ESale.f_grams Bvc rfl ty3 R) fun c1 T=>?_
 have⟨bg,bh⟩:=At.rng T
 refine l_v (Bc ty3 rfl T) ?_
 have c0:Val V (.agg #[iV n,nS]) (⟨n,[]⟩:Sale):=Sale.shut (x:=(⟨n,[]⟩:Sale)) (iC n) Gx
 refine l_v (Dn (ns:=[1,1]) (vs:=[(0,(iV n))]) (zc:=Akd) (cs:=[iV n,nS]) Buh Agb rfl ⟨⟨_,Ab Btz,rfl⟩,⟨_,Ab Bvx,rfl⟩,trivial⟩ (EvB.map ⟨⟨rfl,rfl⟩,trivial⟩) ((Be (cs:=[iV n]) rfl rfl nL).trans rfl)) (Arv (Ct Agb fun y=>?_))
 refine Cx rfl (Li (i:=0) (vs:=[iV n,nS]) (c':=[iV n,nS]) ⟨_,Ab Bvy,rfl⟩ rfl rfl rfl rfl (Zh ⟨rfl,rfl,trivial⟩) rfl nL rfl ?_)
 refine Ary rfl rfl a8 fun b5 b6 a9 aa=>Arw (Ba ESale.f_sellers Bvc rfl Hw R) fun c2 al=>Arw (Ax Hw rfl al) fun b2 g=>?_
 have bi:=Bxo g
 refine l_v (Ci (el:=9) Bts rfl g) (Av (iV 0) (l_k aa (Ao (Cc (fun mm ee dd ρ' σ'=>∃(i:Nat) (nv:List Int) (ov23_11c1:Value) (og23_11c1:Own),(l.length-i)=mm∧[]=dd∧Ro.le V ρ'∧(og23_11c1++((y,oC #[iV n,ov23_11c1] 54)::((r,oC #[vk,iV p.l.most,vt,vh,vm,vf,vs,iV p.last] 101)::(gk++(gt++(gh++(gm++(gf++(gs++σ)))))))))=σ'∧ee 0=pV r∧ee 11=pV y∧ee 121=b2∧ee 122=(iV (l.length:Int))∧ee 123=iV i∧(i≤l.length)∧(Gm (Iu p.m) ((wl l).take i)=some nv)∧(nv.length≤i)∧Grow ρ' 3 ov23_11c1 nv og23_11c1∧True) (m:=_) ⟨0,[],nS,[],rfl,rfl,Bxm,rfl,rfl,rfl,rfl,rfl,rfl,Gn _,rfl,Jd _,Hm,trivial⟩ ?_))))
 rintro m23 e23 _ ρ23 _ ⟨i,nv,ov23_11c1,og23_11c1,rfl,rfl,l23,rfl,h23_0,h23_11,h23_121,h23_122,h23_123,p23_0,p23_1,p23_2,OG23_11c1,_⟩
 replace hk:=Bxl l23 hk
 replace ht:=Bxl l23 ht
 replace hh:=Bxl l23 hh
 replace hm:=Bxl l23 hm
 replace hf:=Bxl l23 hf
 replace hs:=Bxl l23 hs
 replace g:=Val.mono l23 g
 refine w_q rfl rfl fun b7 ab=>l_v (Da h23_123 h23_122) (Asa ab fun b8 ac=>Bf (t:=decide ((i:Int)<(l.length:Int))) rfl (fun C=>?_) (fun C=>?_))
 ·have ak:=lZ1 C
  refine Al (kk ac ?_)
  refine Ai fun b9 ad=>Ao (w_q rfl rfl fun ba ae=>?_)
  obtain⟨d,E⟩:=Ed (xs:=l) (i:=i) (by omega)
  refine Arw (Ch i Bts ty9 h23_121 g (q:=(i:Int)) h23_123 rfl E) fun c3 B=>?_
  have bj:d.data.toList.length<2^60:=At.slen B
  refine l_v (Pk ty9 rfl B) (Au (.string d) (Asa ae fun bb af=>Aj (Bxk (Df (Fc (Fc (Df Ase))))) ?_))
  have aw:=hk
  have az:=ht
  have av:=hh
  have ax:=hm
  have au:=hf
  have ay:=hs
  have b0:=g
  have ar:=OG23_11c1
  have b1:=B
  refine Baw hh fun c5 k am Z=>?_
  replace hk:=Bxl k hk
  replace ht:=Bxl k ht
  replace hh:=Bxl k hh
  replace hm:=Bxl k hm
  replace hf:=Bxl k hf
  replace hs:=Bxl k hs
  replace g:=Val.mono k g
  replace OG23_11c1:=Bxl k OG23_11c1
  refine Ag rfl rfl (l_v (Ah (v:=pV r) h23_0) (Av (.string d) (Bj (Bxk (Gk Arz)) ?_)))
  have bq:=Azh (l:=p.m.houses) (s:=d)
  refine Arv (Cm (vs:=[pV r,.string d]) (Asr (r:=r) (s:=d) (hs:=p.m.houses) am) Tryz.func147 rfl rfl ⟨rfl,rfl,trivial⟩ fun c4 c6 c9 a5=>?_)
  obtain⟨F,G,a6⟩:=a5
  replace F:=F.symm;replace G:=G.symm;subst F G a6
  refine Au (iV (findI p.m.houses d)) (Asa af fun bc ag=>Ai fun bd ah=>Bav Z (Gb (Hr OG23_11c1 (Gb (Hr hk (Hr ht (Hr hm (Hr hf (Hr hs hnr)))))))) ?_)
  replace hk:=aw
  replace ht:=az
  replace hh:=av
  replace hm:=ax
  replace hf:=au
  replace hs:=ay
  replace g:=b0
  replace OG23_11c1:=ar
  replace B:=b1
  refine Ag rfl rfl (Av (iV (findI p.m.houses d)) (l_v (Da rfl rfl) (l_k ah (Bf (t:=decide ((findI p.m.houses d)<0)) rfl (fun D=>?_) (fun D=>?_)))))
  ·have H:=lZ1 D
   refine w_q rfl rfl fun be ai=>Au (iV 6) (l_k ai (Aj (drops hh.1) (Aj Bxi (Aj (drops OG23_11c1.1) (Aj Bxi (Aj (drops hk.1) (Aj (drops ht.1) (Aj (drops hm.1) (Aj (drops hf.1) (Aj (drops hs.1) (Aq (M ⟨Bxn h l23,.inl ⟨_,Arj E H,by decide,rfl,rfl⟩⟩))))))))))))
  have H:=lZ0 D
  refine Al (kk ag ?_)
  refine Ag rfl rfl (l_v (Cb Buh rfl rfl ⟨_,Ab Bvx,rfl⟩ (by decide) h23_11 rfl) (Arv (Gu (v:=ov23_11c1) ⟨_,Buk,rfl⟩ rfl (Po _ (lZ5 _ (Po _ mC))) rfl ?_)))
  refine Av (iV (findI p.m.houses d)) (Arv (Bi (α:=Int) (xs:=[findI p.m.houses d]) (vs:=[iV (findI p.m.houses d)]) Buk ty3 zr3 rfl (by decide) (Dk (os:=[.tmp 134]) ⟨rfl,trivial⟩) ⟨Cv.2 ⟨rfl,by constructor<;>omega⟩,trivial⟩ rfl (by decide) fun N a2 a0=>?_))
  have X:Grow ρ23 3 (.slice (some ⟨N,0,none⟩) 1 1) ([findI p.m.houses d]:List Int) [(N,oC a2.toArray 3)]:=Bs a0 rfl (by decide)
  refine Ca X fun c7 P an=>?_
  replace OG23_11c1:=Bxl P OG23_11c1
  refine Bj (Bxk (Df Asc)) (Arv (Gc (σ:=gh++((r,oC #[vk,iV p.l.most,vt,vh,vm,vf,vs,iV p.last] 101)::((y,oC #[iV n,ov23_11c1] 54)::(gk++(gt++(gm++(gf++(gs++σ)))))))) (gr:=og23_11c1) (xs:=nv) (ys:=([findI p.m.houses d]:List Int)) Buk Buk (Ab Btz) rfl nL rfl rfl rfl rfl OG23_11c1 an (by simp only[lZ2,lZ3,lZ7]at *;omega) fun U a4 J=>?_))
  refine l_v (Cb Buh rfl rfl ⟨_,Ab Bvx,rfl⟩ (by decide) h23_11 rfl) (Bj (Bxk (Gk (Gk Arz))) (Cx rfl (Cz (j:=0) (v:=U) ⟨_,Ab Bvx,rfl⟩ rfl rfl (Grow.single J) rfl nL ?_)))
  refine l_k ad (Ag rfl rfl (l_v (Br h23_123 rfl (z:=(((i+1):Nat):Int)) wrE) (Av (iV ((i+1):Nat)) (Bj (Bxk (Fc (Df (Df (Fc Ase))))) (Bj (Bxk (Df (Fc (Df (Df Asc))))) (Bj (Bxk (Gk (Gk (Pm (Gk Asd))))) (Bj (Bxk (Pm (Gk Asd))) (Bj (Bxk (Fc (Fc (Df Ase)))) (Ac ?_)))))))))
  refine⟨_,?_,(i+1),(nv++([findI p.m.houses d]:List Int)),U,a4,rfl,rfl,(Bxn l23 P),rfl,h23_0,h23_11,h23_121,h23_122,rfl,(by omega),(Axf p23_1 E H),(by rw[lZ2];simp only[lZ3,lZ7];omega),(Fy rfl J),trivial⟩
  omega
 have ak:=lZ0 C
 refine Bx (kk a9 ?_)
 refine Hc OG23_11c1 fun W u ao=>?_
 replace hk:=Bxl u hk
 replace ht:=Bxl u ht
 replace hh:=Bxl u hh
 replace hm:=Bxl u hm
 replace hf:=Bxl u hf
 replace hs:=Bxl u hs
 refine Ox ((y,oC #[iV n,ov23_11c1] 54)::((r,oC #[vk,iV p.l.most,vt,vh,vm,vf,vs,iV p.last] 101)::[])) [0,1,2,3,4,5,6,7,8,11] (by kernel_rfl) rfl rfl (Cu 0 (zT 1 12) rfl ⟨Bxm,sB⟩ rfl (Yld.o (Ah (v:=pV r) h23_0)) (Cu 1 (zT 2 11) rfl ⟨Bxm,sB⟩ rfl (Yld.o (Ah (v:=pV r) h23_0)) (Cu 2 (zT 3 10) rfl ⟨Bxm,sB⟩ rfl (Yld.o (Ck rfl)) (Cu 3 (zT 4 9) rfl ⟨Bxm,sB⟩ rfl (Yld.o (Ce Buc rfl (Ab Bum))) (Cu 4 (zT 5 8) rfl ⟨Bxm,sB⟩ rfl (Yld.o (Ce Btt rfl (Ab Bvp))) (Cu 5 (zT 6 7) rfl ⟨Bxm,sB⟩ rfl (Fl (v:=vs) ⟨_,Buf,rfl⟩ rfl (lZ5 _ mC) rfl) (Dz 6 (zT 7 6) rfl ⟨Bxm,sB⟩ rfl (Avx (cs:=[iV n,ov23_11c1]) (rs:=[]) ⟨_,Buh,rfl⟩ ⟨_,Ab Bvy,rfl⟩ h23_11 mC rfl rfl) ⟨Bxm,sB⟩ ?_)))))))
 have ap:Val W (.agg #[iV n,ov23_11c1]) (⟨n,nv⟩:Sale):=Sale.shut (x:=(⟨n,nv⟩:Sale)) (iC n) ao
 refine Nd 7 (zT 8 5) rfl rfl (Bi (α:=Sale) (xs:=[(⟨n,nv⟩:Sale)]) (vs:=[.agg #[iV n,ov23_11c1]]) Buf Up Agb rfl (by decide) (Dk (os:=[.tmp 145]) ⟨rfl,trivial⟩) ⟨ap,trivial⟩ rfl (by decide) fun O a3 a1=>⟨⟨Bxm,sB⟩,?_⟩)
 have Y:Grow W 54 (.slice (some ⟨O,0,none⟩) 1 1) ([(⟨n,nv⟩:Sale)]:List Sale) [(O,oC a3.toArray 54)]:=Bs a1 rfl (by decide)
 refine Tj Y sB fun c8 e aq=>?_
 replace hk:=Bxl e hk
 replace ht:=Bxl e ht
 replace hh:=Bxl e hh
 replace hm:=Bxl e hm
 replace hf:=Bxl e hf
 replace hs:=Bxl e hs
 refine Nc (Fc (Fc (Df (Df (Df (Df Ase)))))) (Nd 8 (zT 9 4) rfl rfl (Gc (σ:=(y,oC #[iV n,ov23_11c1] 54)::((r,oC #[vk,iV p.l.most,vt,vh,vm,vf,vs,iV p.last] 101)::(gk++(gt++(gh++(gm++(gf++σ))))))) (gr:=gs) (xs:=p.m.sales) (ys:=([(⟨n,nv⟩:Sale)]:List Sale)) Buf Buf (Ab Bvy) rfl nL rfl rfl rfl rfl hs aq (by simp only[lZ2,lZ3,lZ7]at *;omega) fun I L K=>⟨⟨e,sB⟩,?_⟩))
 refine Dz 9 (zT 10 3) rfl ⟨e,sB⟩ rfl (Yld.o (Ck rfl)) ⟨Bxm,sB⟩ (Dz 10 (zT 11 2) rfl ⟨e,sB⟩ rfl (Yld.o (Ce Buc rfl (Ab Bum))) ⟨Bxm,sB⟩ (Dz 11 (zT 12 1) rfl ⟨e,sB⟩ rfl (Yld.o (Ce Btt rfl (Ab Bvp))) ⟨Bxm,sB⟩ (Nc (Gk Arz) (Tw 12 (zT 13 0) rfl rfl (Cz (j:=0) (v:=I) ⟨_,Ab Bvp,rfl⟩ rfl rfl (Grow.single K) rfl nL ?_)))))
 refine Us rfl (kk k2 ?_)
 refine w_q rfl rfl fun bf aj=>Au (iV 0) (l_k aj (Aj (Bxk (Pm Asd)) (Aj Bxi (Aj (Bxk (Fc (Df (Df (Df (Df Ase)))))) (Aj (Bxk (Df (Fc (Df (Df (Df Ase)))))) (Aj (Bxk (Df (Df (Fc (Df (Df Ase)))))) (Aj (Bxk (Df (Df (Df (Fc (Df Ase)))))) (Aj (Bxk (Df (Df (Df (Df (Fc Ase)))))) (Aj (Bxk (Gk (Gk (Gk (Gk Asd))))) (Aq (M ⟨Bxn (Bxn (Bxn h l23) u) e,.inr ⟨(⟨⟨p.l.kinds,p.l.most,p.l.tests⟩,⟨p.m.houses,p.m.marks,p.m.fields,p.m.sales++([(⟨n,nv⟩:Sale)]:List Sale)⟩,p.last⟩:PSt),_,Ayg (by omega) p23_1,rfl,⟨vk,vt,vh,vm,vf,I,gk,gt,gh,gm,gf,L,rfl,(by constructor<;>omega),(by constructor<;>omega),hk,ht,hh,hm,hf,K⟩,Eq.trans (b:=(r,oC #[vk,iV p.l.most,vt,vh,vm,vf,I,iV p.last] 101)::(gk++(gt++(gh++(gm++(gf++(L++σ))))))) rfl (by simp only[lZ9,Ts,Xl])⟩⟩)))))))))))
theorem Aov{e:Ent}:0≤Ez e∧Ez e≤7:=by
 cases e<;>simp only[Ez]<;>first|omega|(split<;>omega)
theorem Baf{a b:Int}{v:Bool}(h:((a==1) != (b==0))=v):(a=1↔b=0)↔v=false:=by
 subst h
 by_cases h1:a=1
 ·by_cases h2:b=0<;>simp[h1,h2]
 ·by_cases h2:b=0
  ·simp[h1,h2]
  ·have c:(a==1)=false:=beq_false_of_ne h1
   have d:(b==0)=false:=beq_false_of_ne h2
   simp[c,d,h1,h2]
theorem Bsj{a b:Int}(h:((a==1) != (b==0))=false):a=1↔b=0:=(Baf h).2 rfl
theorem Bsk{a b:Int}(h:((a==1) != (b==0))=true):¬(a=1↔b=0):=fun hh=>by cases (Baf h).1 hh
theorem Bdm{p:PSt}{e:Ent}{f:Int}(h:Fv p e = .inl f):f=6:=by
 cases e with
 | name mk s=>simp only[Fv]at h;split at h<;>cases h
 | field x hh=>simp only[Fv]at h;cases hk:Iu p.m hh.data.toList<;>rw[hk]at h<;>cases h;rfl
 | sale m l=>simp only[Fv]at h;cases hk:Gm (Iu p.m) (wl l)<;>rw[hk]at h<;>cases h;rfl
 | _=>cases h
theorem Adq{i:Nat}{last p:Int}:Nu i last p=true↔last≤p∧(i=0↔p=0)∧(p=3→last<3)∧(3<p→3≤last):=by
 unfold Nu
 rw[Rb,Rb,Rb,Azy,Azy]
 simp only[decide_eq_true_eq]
 have e:(decide (i=0)==decide (p=0))=true↔(i=0↔p=0):=by
  by_cases a:i=0<;>by_cases b:p=0<;>simp[a,b]
 rw[e]
 constructor
 ·rintro⟨⟨⟨a,b⟩,c⟩,d⟩;exact⟨a,b,by omega,by omega⟩
 ·rintro⟨a,b,c,d⟩;exact⟨⟨⟨a,b⟩,by omega⟩,by omega⟩
theorem Akq{i:Nat}{last p:Int}(h:¬(last≤p∧(i=0↔p=0)∧(p=3→last<3)∧(3<p→3≤last))):Nu i last p=false:=by
 rw[←Bool.not_eq_true,Adq];exact h
theorem takeE_last{p:PSt}{e:Ent}{k:Int}:Fv ⟨p.l,p.m,k⟩ e=(match Fv p e with | .inl f=>.inl f | .inr q=>.inr ⟨q.l,q.m,k⟩):=by
 cases e with
 | name mk s=>cases mk<;>rfl
 | field x h=>simp only[Fv];cases Iu p.m h.data.toList<;>rfl
 | sale n l=>simp only[Fv];cases Gm (Iu p.m) (wl l)<;>rfl
 | _=>rfl
theorem Bil{i:Nat}{p:PSt}{s:List UInt8}{e:Ent}(h:Abc s=some e)(ho:Nu i p.last (Ez e)=false):Mm i p s = .inl 3:=by
 rw[Alb h,if_neg (by rw[ho];simp)]
theorem Bmp{i:Nat}{p:PSt}{s:List UInt8}{e:Ent}(h:Abc s=some e)(ho:Nu i p.last (Ez e)=true):Mm i p s=Fv ⟨p.l,p.m,Ez e⟩ e:=by
 rw[Alb h,if_pos ho];exact takeE_last.symm
theorem Bld{s:List UInt8}{n:Int}{l:List ByteArray}(h:Abc s=some (.sale n l)):l.length≤s.length:=by
 unfold Abc at h
 split at h
 ·cases h
 ·cases hs:Es s with
  | nil=>exact absurd hs Wi
  | cons u f =>
   rw[hs]at h
   have hf:f.length≤s.length:=by
    have:=(Zt (s:=s) (acc:=[])).1
    have e:Ma 32 [] s=u::f:=hs
    rw[e]at this
    simp only[lZ3]at this;omega
   simp only at h
   unfold Oq at h
   split at h
   ·split at h<;>cases h
   ·split at h
    ·cases h0:(bw f)[0]?<;>rw[h0]at h
     ·cases h
     ·cases h1:Gm Pb (wl ((bw f).drop 1))<;>rw[h1]at h<;>cases h
    ·split at h
     ·split at h
      ·cases h
      ·cases h0:(bw f)[0]?<;>rw[h0]at h
       ·cases h
       ·cases h1:(bw f)[1]?<;>rw[h1]at h
        ·cases h
        ·cases h2:Gm Mi (wl ((bw f).drop 2))<;>rw[h2]at h
         ·cases h
         ·simp only at h;split at h<;>cases h
     ·cases h0:(bw f)[0]?<;>rw[h0]at h
      ·cases h
      ·simp only at h
       split at h
       ·cases h
        rw[lZ4]
        have:(bw f).length=f.length:=by unfold bw;simp
        omega
       ·split at h
        ·cases h
        ·split at h
         ·cases h
         ·split at h
          ·cases h
          ·split at h<;>cases h
theorem Bdl{p q:PSt}{e:Ent}{n:Nat}(h:Fv p e = .inr q)(hb:RdB p n):RdB q (n+1):=by
 obtain⟨a,b,c,d,f,g⟩:=hb
 cases e with
 | name mk s =>
  simp only[Fv]at h
  split at h<;>cases h<;>(refine⟨?_,?_,?_,?_,?_,?_⟩<;>simp only[lZ2,lZ3,lZ7]<;>omega)
 | field x hh =>
  simp only[Fv]at h
  cases hk:Iu p.m hh.data.toList<;>rw[hk]at h<;>cases h
  refine⟨?_,?_,?_,?_,?_,?_⟩<;>simp only[lZ2,lZ3,lZ7]<;>omega
 | sale m l =>
  simp only[Fv]at h
  cases hk:Gm (Iu p.m) (wl l)<;>rw[hk]at h<;>cases h
  refine⟨?_,?_,?_,?_,?_,?_⟩<;>simp only[lZ2,lZ3,lZ7]<;>omega
 | go=>cases h;exact⟨by omega,by omega,by omega,by omega,by omega,by omega⟩
 | _ =>
  cases h
  refine⟨?_,?_,?_,?_,?_,?_⟩<;>simp only[lZ2,lZ3,lZ7]<;>omega
theorem Afn{i:Nat}{p q:PSt}{s:List UInt8}{n:Nat}(h:Mm i p s = .inr q)(hb:RdB p n)(h0:0≤p.last):RdB q (n+1)∧0≤q.last∧q.last≤7:=by
 cases he:Abc s with
 | none=>rw[Ape h0 he]at h;cases h
 | some e =>
  rw[Alb he]at h
  split at h
  ·cases ht:Fv p e with
   | inl f=>rw[ht]at h;cases h
   | inr q' =>
    rw[ht]at h
    cases h
    have hr:=Bdl ht hb;exact⟨hr,Aov⟩
  ·cases h
theorem Bpc{W0:World}{ρ:Ro}{σ:Own}{r:Nat}{p:PSt}{vk vt vh vm vf vs:Value}{gk gt gh gm gf gs:Own}{v:Value}{e:Ent}(he:EntV ρ v e)(hnl:∀n l,e = .sale n l→l.length≤60001)(hmo:I64 p.l.most)(hla:I64 p.last)(hB:RdB p 60001)(hk:Grow ρ 9 vk p.l.kinds gk)(ht:Grow ρ 46 vt p.l.tests gt)(hh:Grow ρ 9 vh p.m.houses gh)(hm:Grow ρ 9 vm p.m.marks gm)(hf:Grow ρ 51 vf p.m.fields gf)(hs:Grow ρ 54 vs p.m.sales gs)(hnr:Jp σ):CallsH (CY W0) 120 #[pV r,v] ρ ((r,oC #[vk,.int .i64 p.l.most,vt,vh,vm,vf,vs,.int .i64 p.last] 101)::(gk++(gt++(gh++(gm++(gf++(gs++σ))))))) (fun w ρ' σ'=>Ro.le ρ ρ'∧((∃f:Int,Fv p e = .inl f∧f≠0∧w = .int .i64 f∧σ'=σ)∨∃(q:PSt) (gr:Own),Fv p e = .inr q∧w=z0∧Act ρ' r q gr∧σ'=gr++σ)):=by
 cases e with
 | lab n =>
  obtain⟨w,rfl,hw⟩:=he
  exact Awl hw hmo hla hB hk ht hh hm hf hs
 | kind s =>
  obtain⟨w,rfl,hw⟩:=he
  exact Asu hw hmo hla hB hk ht hh hm hf hs
 | test t =>
  obtain⟨w,rfl,hw⟩:=he
  exact Asx hw hmo hla hB hk ht hh hm hf hs
 | name mk s =>
  obtain⟨w,rfl,hw⟩:=he
  exact Asv hw hmo hla hB hk ht hh hm hf hs
 | field x h =>
  obtain⟨w,rfl,hw⟩:=he
  exact Aqj hw hmo hla hB hk ht hh hm hf hs hnr
 | sale n l =>
  obtain⟨w,rfl,hw⟩:=he
  exact Asw hw hmo hla hB hk ht hh hm hf hs hnr (hnl _ _ rfl)
 | go =>
  obtain rfl:=he
  exact Bbw hmo hla hB hk ht hh hm hf hs
theorem Bpa{W0:World}{ρ:Ro}{σ:Own}{r:Nat}{p:PSt}{vk vt vh vm vf vs:Value}{gk gt gh gm gf gs:Own}{i:Nat}{s:List UInt8}(hg:GlobE ρ)(hmo:I64 p.l.most)(hla:I64 p.last)(hB:RdB p 60001)(hk:Grow ρ 9 vk p.l.kinds gk)(ht:Grow ρ 46 vt p.l.tests gt)(hh:Grow ρ 9 vh p.m.houses gh)(hm:Grow ρ 9 vm p.m.marks gm)(hf:Grow ρ 51 vf p.m.fields gf)(hs:Grow ρ 54 vs p.m.sales gs)(hp0:0≤p.last)(hi:i≤60001)(hb:s.length≤60000)(hnr:Jp σ):CallsH (CY W0) 88 #[pV r,iV ((i+1):Nat),.string (bs s)] ρ ((r,oC #[vk,iV p.l.most,vt,vh,vm,vf,vs,iV p.last] 101)::(gk++(gt++(gh++(gm++(gf++(gs++σ))))))) (fun w ρ' σ'=>Ro.le ρ ρ'∧((∃(f:Int) (ve:Value),Mm i p s = .inl f∧f≠0∧I64 f∧w = .iface 102 ve∧At ρ' ve (⟨((i+1:Nat):Int),f⟩:Wrg)∧σ'=σ)∨∃(q:PSt) (gr:Own),Mm i p s = .inr q∧w = .nilIface∧Act ρ' r q gr∧σ'=gr++σ)):=by
 obtain⟨c5,c6⟩:=hmo
 obtain⟨bz,c0⟩:=hla
 refine Bq 73 [6] Tryz.func88 rfl fun Q N c7=>w_q rfl rfl fun K1 k1=>Au .nilIface (Arx rfl rfl k1 fun K2 k2=>Av (.string (bs s)) (Arv (Cm (vs:=[.string (bs s)]) (Bbu (s:=s) hg hb) Tryz.func119 rfl rfl ⟨rfl,trivial⟩ fun w3 a0 ci R=>?_)))
 obtain⟨D,R⟩:=R
 replace hk:=Bxl D hk
 replace ht:=Bxl D ht
 replace hh:=Bxl D hh
 replace hm:=Bxl D hm
 replace hf:=Bxl D hf
 replace hs:=Bxl D hs
 rcases R with⟨J,⟨L,Y⟩|⟨c,v3,L,Y,T⟩⟩
 ·replace J:=J.symm;subst J Y
  refine Au .nilIface (Ary rfl rfl k2 fun K4 K5 k4 k5=>Av .nilIface (l_v (Wm (w:=.nilIface) (b:=true) Tryz.underlying214 (.inl ⟨rfl,rfl⟩) rfl) (l_k k5 (Co rfl rfl (Ai fun K6 k6=>?_)))))
  have K:=Ape (i:=i) hp0 L
  refine Ag rfl rfl (Av (iV ((i+1):Nat)) ?_)
  have r7:Val a0 (.agg #[iV ((i+1):Nat),iV 3]) (⟨(((i+1):Nat):Int),3⟩:Wrg):=Wrg.shut (x:=(⟨(((i+1):Nat):Int),3⟩:Wrg)) (iC (((i+1):Nat):Int)) (iC 3)
  refine l_v (Dn (ns:=[1,1]) (vs:=[(0,(iV ((i+1):Nat))),(1,(iV 3))]) (zc:=Aga) (cs:=[iV ((i+1):Nat),iV 3]) Bvb Agc rfl ⟨⟨_,Ab Btz,rfl⟩,⟨_,Ab Bvg,rfl⟩,trivial⟩ (EvB.map ⟨⟨rfl,rfl⟩,⟨rfl,rfl⟩,trivial⟩) ((Be (cs:=[iV ((i+1):Nat)]) rfl rfl nL).trans ((Be (cs:=[iV 3]) rfl rfl nL).trans rfl))) (Arv (Eb (v:=.agg #[iV ((i+1):Nat),iV 3]) rfl fun k8=>?_))
  refine Bb (a:=(⟨(((i+1):Nat):Int),3⟩:Wrg)) r7 fun cf G r8=>?_
  replace hk:=Bxl G hk
  replace ht:=Bxl G ht
  replace hh:=Bxl G hh
  replace hm:=Bxl G hm
  replace hf:=Bxl G hf
  replace hs:=Bxl G hs
  refine l_v (Ge Bva rfl rfl) (Au (.iface 102 (pV k8)) (l_k k6 (Aj Bxi (Aj (drops hk.1) (Aj (drops ht.1) (Aj (drops hh.1) (Aj (drops hm.1) (Aj (drops hf.1) (Aj (drops hs.1) (Aq (N ⟨Bxn D G,.inl ⟨_,_,K,by decide,(by constructor<;>omega),rfl,r8,rfl⟩⟩)))))))))))
 replace J:=J.symm;subst J Y
 obtain⟨H,I,aq⟩:=T.ifc;subst aq
 have c8:=Aov (e:=c)
 refine Au (.iface H I) (Ary rfl rfl k2 fun K9 bk k9 au=>Av (.iface H I) (l_v (Wm (w:=.iface H I) (b:=false) Tryz.underlying214 (.inr ⟨_,_,rfl,rfl⟩) rfl) (l_k au (Cg rfl rfl (Al (kk k9 ?_))))))
 refine w_q rfl rfl fun bl av=>Av (.iface H I) (Arv (Bsw (Blo T) rfl trivial fun ca cc cg ah=>?_))
 obtain⟨V,W,ar⟩:=ah
 replace V:=V.symm;replace W:=W.symm;subst V W ar
 refine Au (iV (Ez c)) (Asa av fun bm aw=>Ai fun ag ax=>?_)
 have E:∀(bd:Bool) (ee:Env),(ee 0=pV r)∧(ee 1=(iV ((i+1):Nat)))∧(ee 7=(.iface H I))∧(ee 8=(iV (Ez c)))∧(ee 54=(.bool bd))∧(bd=true→Nu i p.last (Ez c)=false)∧(bd=false→Nu i p.last (Ez c)=true)∧True→ag ee [] a0 (((r,oC #[vk,iV p.l.most,vt,vh,vm,vf,vs,iV p.last] 101)::(gk++(gt++(gh++(gm++(gf++(gs++σ)))))))):=by
  rintro bd e14 ⟨h14_0,h14_1,h14_7,h14_8,h14_54,p14_0,p14_1,_⟩
  apply ax
  refine Bf (t:=bd) h14_54 (fun O=>?_) (fun O=>?_)
  ·refine Ai fun bn ay=>?_
   have U:=p14_0 O
   have K:=Bil L U
   refine Ag rfl rfl (l_v (Ah (v:=iV ((i+1):Nat)) h14_1) ?_)
   have bf:Val a0 (.agg #[iV ((i+1):Nat),iV 3]) (⟨(((i+1):Nat):Int),3⟩:Wrg):=Wrg.shut (x:=(⟨(((i+1):Nat):Int),3⟩:Wrg)) (iC (((i+1):Nat):Int)) (iC 3)
   refine l_v (Dn (ns:=[1,1]) (vs:=[(0,(iV ((i+1):Nat))),(1,(iV 3))]) (zc:=Aga) (cs:=[iV ((i+1):Nat),iV 3]) Bvb Agc rfl ⟨⟨_,Ab Btz,rfl⟩,⟨_,Ab Bvg,rfl⟩,trivial⟩ (EvB.map ⟨⟨rfl,rfl⟩,⟨rfl,rfl⟩,trivial⟩) ((Be (cs:=[iV ((i+1):Nat)]) rfl rfl nL).trans ((Be (cs:=[iV 3]) rfl rfl nL).trans rfl))) (Arv (Eb (v:=.agg #[iV ((i+1):Nat),iV 3]) rfl fun az=>?_))
   refine Bb (a:=(⟨(((i+1):Nat):Int),3⟩:Wrg)) bf fun cd F bg=>?_
   replace hk:=Bxl F hk
   replace ht:=Bxl F ht
   replace hh:=Bxl F hh
   replace hm:=Bxl F hm
   replace hf:=Bxl F hf
   replace hs:=Bxl F hs
   refine l_v (Ge Bva rfl rfl) (Au (.iface 102 (pV az)) (l_k ay (Aj Bxi (Aj (drops hk.1) (Aj (drops ht.1) (Aj (drops hh.1) (Aj (drops hm.1) (Aj (drops hf.1) (Aj (drops hs.1) (Aq (N ⟨Bxn D F,.inl ⟨_,_,K,by decide,(by constructor<;>omega),rfl,bg,rfl⟩⟩)))))))))))
  refine Al (kk aw ?_)
  refine Ai fun bo b0=>?_
  have U:=p14_1 O
  have K:=Bmp L U
  refine Ag rfl rfl (l_v (Ah (v:=pV r) h14_0) (l_v (Ah (v:=iV (Ez c)) h14_8) (l_v (Ck rfl) (l_v (Ce Buc rfl (Ab Btz)) (Cx rfl (Cz (j:=0) (v:=iV (Ez c)) ⟨_,Ab Btz,rfl⟩ rfl rfl rfl rfl nL ?_))))))
  refine Ary rfl rfl b0 fun bp bq b1 a8=>l_v (Ah (v:=pV r) h14_0) (l_v (Ah (v:=.iface H I) h14_7) (Bj (Bxk (Fc (Df (Df (Df (Df Ase)))))) (Bj (Bxk (Df (Fc (Df (Df (Df Ase)))))) (Bj (Bxk (Df (Df (Fc (Df (Df Ase)))))) (Bj (Bxk (Df (Df (Df (Fc (Df Ase)))))) (Bj (Bxk (Df (Df (Df (Df (Fc Ase)))))) (Bj (Bxk (Df (Df (Df (Df (Df Asc)))))) (Bj (Bxk (Gk (Gk (Gk (Gk (Gk Asd)))))) (Arv (Cm (vs:=[pV r,.iface H I]) (Bpc (r:=r) (p:=(⟨⟨p.l.kinds,p.l.most,p.l.tests⟩,⟨p.m.houses,p.m.marks,p.m.fields,p.m.sales⟩,Ez c⟩:PSt)) T (fun n l h=>by subst h;have:=Bld L;omega) (iC p.l.most) (iC (Ez c)) hB hk ht hh hm hf hs hnr) Bvk rfl rfl ⟨rfl,rfl,trivial⟩ fun cb bj ch P=>?_))))))))))
  obtain⟨a9,P⟩:=P
  rcases P with⟨B,M,a7,X,C⟩|⟨Z,bx,M,X,⟨ac,af,ab,ad,aa,ae,a3,a6,a2,a4,a1,a5,aj,ao,am,al,ap,ak,an,ai,C⟩,C⟩
  ·replace C:=C.symm;subst C X
   have c9:=Bdm M
   refine Au (iV B) (Arx rfl rfl a8 fun br b2=>Av (iV B) (l_v (Dg rfl rfl) (l_k b2 (Co rfl (bne_iff_ne.2 a7) (w_q rfl rfl fun bt b3=>l_v (Ah (v:=iV ((i+1):Nat)) h14_1) (Av (iV B) ?_))))))
   have bh:Val bj (.agg #[iV ((i+1):Nat),iV B]) (⟨(((i+1):Nat):Int),B⟩:Wrg):=Wrg.shut (x:=(⟨(((i+1):Nat):Int),B⟩:Wrg)) (iC (((i+1):Nat):Int)) (iC B)
   refine l_v (Dn (ns:=[1,1]) (vs:=[(0,(iV ((i+1):Nat))),(1,(iV B))]) (zc:=Aga) (cs:=[iV ((i+1):Nat),iV B]) Bvb Agc rfl ⟨⟨_,Ab Btz,rfl⟩,⟨_,Ab Bvg,rfl⟩,trivial⟩ (EvB.map ⟨⟨rfl,rfl⟩,⟨rfl,rfl⟩,trivial⟩) ((Be (cs:=[iV ((i+1):Nat)]) rfl rfl nL).trans ((Be (cs:=[iV B]) rfl rfl nL).trans rfl))) (Arv (Eb (v:=.agg #[iV ((i+1):Nat),iV B]) rfl fun b4=>?_))
   refine Bb (a:=(⟨(((i+1):Nat):Int),B⟩:Wrg)) bh fun ce b7 bi=>l_v (Ge Bva rfl rfl) (Au (.iface 102 (pV b4)) (l_k b3 (Aq (N ⟨Bxn (Bxn D a9) b7,.inl ⟨_,_,K.trans M,a7,(by constructor<;>omega),rfl,bi,rfl⟩⟩))))
  subst aj X
  simp only[lZ9,Ts]at C
  replace C:=C.symm;subst C
  obtain⟨c3,c4⟩:=ao;obtain⟨c1,c2⟩:=am
  refine Au (iV 0) (Arx rfl rfl a8 fun bu b5=>Av (iV 0) (l_v (Dg rfl rfl) (l_k b5 (Cg rfl rfl (Al (kk b1 ?_))))))
  refine w_q rfl rfl fun bv b6=>Au .nilIface (l_k b6 (Aq (N ⟨Bxn D a9,.inr ⟨Z,_,K.trans M,rfl,⟨ac,af,ab,ad,aa,ae,a3,a6,a2,a4,a1,a5,rfl,(by constructor<;>omega),(by constructor<;>omega),al,ap,ak,an,ai,C⟩,Eq.trans (b:=(r,oC #[ac,iV Z.l.most,af,ab,ad,aa,ae,iV Z.last] 101)::(a3++(a6++(a2++(a4++(a1++(a5++σ))))))) rfl (by simp only[lZ9,Ts,Xl])⟩⟩)))
 refine Ag rfl rfl (Av (iV (Ez c)) (Av (pV r) (l_v (Ck rfl) (l_v (Ce Buc rfl (Ab Btz)) (Arv (Dt (i:=0) (v:=iV p.last) ⟨_,Bty,rfl⟩ rfl rfl rfl ?_))))))
 refine l_v (Da rfl rfl) (Av (.bool (decide ((Ez c)<p.last))) (Cn (decide ((Ez c)<p.last)) (fun g=>?_) (fun g=>?_)))
 ·have b8:=lZ1 g
  refine Ap (gN rfl g) (Ap (gN rfl g) (Ap (gN rfl g) (Ap (gN rfl g) (Ap (gN rfl g) (l_v (Bt rfl g (v:=bT) rfl) (Av bT (Ap (gN rfl rfl) (Ap (gN rfl rfl) (Ap (gN rfl rfl) (Ap (Jf rfl rfl rfl) (Ap (Jf rfl rfl rfl) (Ap (Jf rfl rfl rfl) (Ap (Jf rfl rfl rfl) (Ap (Jf rfl rfl rfl) (Ap (gN rfl rfl) (l_v (Bt rfl rfl (v:=bT) rfl) (Av bT (Ap (gN rfl rfl) (Ap (gN rfl rfl) (Ap (gN rfl rfl) (Ap (Jf rfl rfl rfl) (Ap (Jf rfl rfl rfl) (Ap (Jf rfl rfl rfl) (Ap (Jf rfl rfl rfl) (Ap (Jf rfl rfl rfl) (Ap (gN rfl rfl) (l_v (Bt rfl rfl (v:=bT) rfl) (Ac ?_))))))))))))))))))))))))))))
  refine E true _ ⟨rfl,rfl,rfl,rfl,rfl,fun _=>Akq (by omega),fun h=>absurd h (by decide),trivial⟩
 have b8:=lZ0 g
 refine l_M (iV ((i+1):Nat)) (gY rfl g) rfl (Aa (gY rfl g) (Ek rfl rfl) (l_M (iV (Ez c)) (gY rfl g) rfl (Aa (gY rfl g) (Ek rfl rfl) (Aa (gY rfl g) (Bjm Bvm (p:=(((i+1):Nat):Int)==1) (q:=(Ez c)==0) rfl rfl) (l_v (Bn rfl g (v:=.bool (((((i+1):Nat):Int)==1) != ((Ez c)==0))) rfl) (Av (.bool (((((i+1):Nat):Int)==1) != ((Ez c)==0))) (Cn (((((i+1):Nat):Int)==1) != ((Ez c)==0)) (fun d=>?_) (fun d=>?_))))))))
 ·have hnq:=Bsk d
  have b9:=Ls d
  refine Ap (gN rfl d) (Ap (gN rfl d) (Ap (gN rfl d) (Ap (Jf rfl rfl rfl) (Ap (Jf rfl rfl rfl) (Ap (Jf rfl rfl rfl) (Ap (Jf rfl rfl rfl) (Ap (Jf rfl rfl rfl) (Ap (gN rfl d) (l_v (Bt rfl d (v:=bT) rfl) (Av bT (Ap (gN rfl rfl) (Ap (gN rfl rfl) (Ap (gN rfl rfl) (Ap (Jf rfl rfl rfl) (Ap (Jf rfl rfl rfl) (Ap (Jf rfl rfl rfl) (Ap (Jf rfl rfl rfl) (Ap (Jf rfl rfl rfl) (Ap (gN rfl rfl) (l_v (Bt rfl rfl (v:=bT) rfl) (Ac ?_)))))))))))))))))))))
  refine E true _ ⟨rfl,rfl,rfl,rfl,rfl,fun _=>Akq (by omega),fun h=>absurd h (by decide),trivial⟩
 have hnq:=Bsj d
 have b9:=Jh d
 refine l_M (iV (Ez c)) (gY rfl d) rfl (Aa (gY rfl d) (Ek rfl rfl) (l_M (.bool ((Ez c)==3)) (gY rfl d) rfl (Cn ((Ez c)==3) (fun k=>?_) (fun k=>?_))))
 ·have ba:=Jr k
  refine l_M (pV r) (gY rfl k) rfl (Aa (gY rfl k) (Ck rfl) (Aa (gY rfl k) (Ce Buc rfl (Ab Btz)) (Ae (gY rfl k) (Dt (i:=0) (v:=iV p.last) ⟨_,Bty,rfl⟩ rfl rfl rfl ?_))))
  refine Aa (gY rfl k) (Ek rfl rfl) (Aa (gY rfl d) (Bt rfl k (v:=.bool (p.last==3)) rfl) (l_v (Bn rfl d (v:=.bool (p.last==3)) rfl) (Av (.bool (p.last==3)) (Cn (p.last==3) (fun u=>?_) (fun u=>?_)))))
  ·have bb:=Jr u
   refine Ap (gN rfl u) (Ap (gN rfl u) (Ap (gN rfl u) (Ap (Jf rfl rfl rfl) (Ap (Jf rfl rfl rfl) (Ap (Jf rfl rfl rfl) (Ap (Jf rfl rfl rfl) (Ap (Jf rfl rfl rfl) (Ap (gN rfl u) (l_v (Bt rfl u (v:=bT) rfl) (Ac ?_))))))))))
   refine E true _ ⟨rfl,rfl,rfl,rfl,rfl,fun _=>Akq (by omega),fun h=>absurd h (by decide),trivial⟩
  have bb:=Jq u
  refine l_M (iV (Ez c)) (gY rfl u) rfl (Aa (gY rfl u) (Gl rfl rfl) (l_M (.bool (decide ((Ez c)>3))) (gY rfl u) rfl (Cn (decide ((Ez c)>3)) (fun y=>?_) (fun y=>?_))))
  ·have bc:=lZ1 y
   refine l_M (pV r) (gY rfl y) rfl (Aa (gY rfl y) (Ck rfl) (Aa (gY rfl y) (Ce Buc rfl (Ab Btz)) (Ae (gY rfl y) (Dt (i:=0) (v:=iV p.last) ⟨_,Bty,rfl⟩ rfl rfl rfl ?_))))
   refine Aa (gY rfl y) (Da rfl rfl) (Aa (gY rfl u) (Bt rfl y (v:=.bool (decide (p.last<3))) rfl) (l_v (Bn rfl u (v:=.bool (decide (p.last<3))) rfl) (Ac ?_)))
   refine E (decide (p.last<3)) _ ⟨rfl,rfl,rfl,rfl,rfl,(fun h=>by have:=lZ1 h;exact Akq (by omega)),(fun h=>by have:=lZ0 h;exact Adq.2 (by omega)),trivial⟩
  have bc:=lZ0 y
  refine Ap (gN rfl y) (Ap (gN rfl y) (Ap (gN rfl y) (Ap (gN rfl y) (Ap (gN rfl y) (Aa (gY rfl u) (Bn rfl y (v:=bF) rfl) (l_v (Bn rfl u (v:=bF) rfl) (Ac ?_)))))))
  refine E false _ ⟨rfl,rfl,rfl,rfl,rfl,fun h=>absurd h (by decide),fun _=>Adq.2 (by omega),trivial⟩
 have ba:=Jq k
 refine Ap (gN rfl k) (Ap (gN rfl k) (Ap (gN rfl k) (Ap (gN rfl k) (Ap (gN rfl k) (Aa (gY rfl d) (Bn rfl k (v:=bF) rfl) (l_v (Bn rfl d (v:=bF) rfl) (Av bF (l_M (iV (Ez c)) (gY rfl rfl) rfl (Aa (gY rfl rfl) (Gl rfl rfl) (l_M (.bool (decide ((Ez c)>3))) (gY rfl rfl) rfl (Cn (decide ((Ez c)>3)) (fun z=>?_) (fun z=>?_))))))))))))
 ·have be:=lZ1 z
  refine l_M (pV r) (gY rfl z) rfl (Aa (gY rfl z) (Ck rfl) (Aa (gY rfl z) (Ce Buc rfl (Ab Btz)) (Ae (gY rfl z) (Dt (i:=0) (v:=iV p.last) ⟨_,Bty,rfl⟩ rfl rfl rfl ?_))))
  refine Aa (gY rfl z) (Da rfl rfl) (Aa (gY rfl rfl) (Bt rfl z (v:=.bool (decide (p.last<3))) rfl) (l_v (Bn rfl rfl (v:=.bool (decide (p.last<3))) rfl) (Ac ?_)))
  refine E (decide (p.last<3)) _ ⟨rfl,rfl,rfl,rfl,rfl,(fun h=>by have:=lZ1 h;exact Akq (by omega)),(fun h=>by have:=lZ0 h;exact Adq.2 (by omega)),trivial⟩
 have be:=lZ0 z
 refine Ap (gN rfl z) (Ap (gN rfl z) (Ap (gN rfl z) (Ap (gN rfl z) (Ap (gN rfl z) (Aa (gY rfl rfl) (Bn rfl z (v:=bF) rfl) (l_v (Bn rfl rfl (v:=bF) rfl) (Ac ?_)))))))
 refine E false _ ⟨rfl,rfl,rfl,rfl,rfl,fun h=>absurd h (by decide),fun _=>Adq.2 (by omega),trivial⟩
end
section
open Go
def ObjsO(τ:Own):Prop:=∀x∈τ,∃r o,x=(r,Res.obj o)
theorem Bag{r:Nat}{o:Obj}:ObjsO [(r,Res.obj o)]:=fun x hx=>by rw[Qp.1 hx];exact⟨_,_,rfl⟩
theorem ObjsO.add{τ:Own}{a b:Nat}{o o':Obj}(h:ObjsO τ):ObjsO (τ++[(a,Res.obj o),(b,Res.obj o')]):=fun x hx=>by
 rcases Hs.1 hx with h1|h1
 ·exact h x h1
 ·rcases Gw.1 h1 with rfl|h2
  ·exact⟨_,_,rfl⟩
  ·rw[Qp.1 h2];exact⟨_,_,rfl⟩
theorem Auq{τ σ:Own}(h:ObjsO τ)(hn:Jp σ):Jp (τ++σ):=by
 induction τ with
 | nil=>exact hn
 | cons x τ ih =>
  obtain⟨r,o,rfl⟩:=h x mC
  exact Gb (ih fun y hy=>h y (lZ5 _ hy))
/-- A function value that hands these values over,one after the other,as long as the function that it gets yields true;O is its own memory. -/
def Bnn(f:Value)(ρ₀:Ro)(O:Own)(ys:List Value):Prop :=
 ∃(k:FuncId) (fn:Func) (caps:List Value),f = .func (.func k) #[] caps.toArray∧Tryz.prog.funcs[k]?=some fn∧(fn.name == "runtime.NumGoroutine")=false∧fn.body.isNone=false ∧
  ∀(mn:Bool) (X:Frame→List Frame→Ro→Own→Cy→Prop) (l:Nat) (I:List Value→Ro→Own→Prop) (S:Ro→Own→Prop) (ρ:Ro) (σ:Own),Ro.le ρ₀ ρ→(∀pre ρ ρ' σ,Ro.le ρ ρ'→I pre ρ σ→I pre ρ' σ)→I [] ρ σ →
   (∀pre x post ρ' σ' pfx,ObjsO pfx→ys=pre++x::post→Ro.le ρ ρ'→I pre ρ' σ'→Acp (CX mn X) l x ρ' (pfx++σ') (fun v ρ'' σ''=>∃τ,σ''=pfx++τ∧Ro.le ρ' ρ''∧((v = .bool true∧I (pre++[x]) ρ'' τ)∨(v = .bool false∧S ρ'' τ)))) →
   CallsH (CX mn X) k (.func (.yield l) #[] #[]::caps).toArray ρ (O++σ) (fun _ ρ' σ'=>Ro.le ρ ρ'∧(I ys ρ' σ'∨S ρ' σ'))
theorem Awc{pfx τ:Own}{a b:Nat×Res}:(pfx++[a,b]++τ)[pfx.length]?=some a:=by simp
theorem Bal{pfx τ:Own}{a b a':Nat×Res}:(pfx++[a,b]++τ).set pfx.length a'=pfx++[a',b]++τ:=by
 rw[lZ9,List.set_append_right _ _ (Jd _),Aoo,lZ9];rfl
theorem Ayz{pfx τ:Own}{a b:Nat×Res}:pfx++a::b::τ=pfx++[a,b]++τ:=by simp
section
variable{mn:Bool}{X:Frame→List Frame→Ro→Own→Cy→Prop}{b:FB}{n:Nat}{e:Env}{ds:List Deferred}{ρ:Ro}{σ:Own}
theorem Amx{f:Operand}{q:Nat}{assign body:Code}{Q:Hu}{fv:Value}{O:Own}{ys:List Value}(J:List Value→Ro→Own→Prop)(S:Ro→Own→Prop)(hr:b.round=none)(hk:b.kind = .normal)(hq:q<n)(hf:Af e f=fv)(hF:Bnn fv ρ O ys)
  (hJm:∀pre ρ ρ' σ,Ro.le ρ ρ'→J pre ρ σ→J pre ρ' σ) (hJ:J [] ρ σ)
  (hbody:∀l pre x post ρ' τ,ys=pre++x::post→Ro.le ρ ρ'→J pre ρ' τ→∀pfx:Own,ObjsO pfx →
   WpC (CX mn X) ⟨b.fn,.normal,some l⟩ n assign (fun ex e1 ds1 ρ1 σ1=>ex = .normal∧ds1=[]∧Ro.le ρ' ρ1∧∃τ1,σ1=pfx++τ1 ∧
    ∀pfx2:Own,ObjsO pfx2→WpC (CX mn X) ⟨b.fn,.normal,some l⟩ n body (fun ex _ _ ρ2 σ2=>Ro.le ρ1 ρ2∧∃τ2,σ2=pfx2++τ2∧((ex = .normal∧J (pre++[x]) ρ2 τ2)∨(ex = .ret∧S ρ2 τ2))) e1 [] ρ1 (pfx2++τ1)) (upd e q x) [] ρ' (pfx++τ))
  (hend:∀r ρ' τ,Ro.le ρ ρ'→J ys ρ' τ→Q .normal e ({target:=.collected r,args:=#[]}::ds) ρ' ((r,.obj (.deferred (some [])))::τ))
  (hstop:∀r ρ' τ,Ro.le ρ ρ'→S ρ' τ→Q .ret e ({target:=.collected r,args:=#[]}::ds) ρ' ((r,.obj (.deferred (some [])))::τ)) :
  WpC (CX mn X) b n (.rangeFunc f #[q] assign body) Q e ds ρ (O++σ):=by
 intro tm k cs ht
 obtain⟨kk,fn,g,rfl,h,m,p,u⟩:=hF
 have C:(b.kind==CallKind.early)=false:=by rw[hk];rfl
 have hev:(Fr b tm ds (.code (.rangeFunc f #[q] assign body)::k)).eval f = .func (.func kk) #[] g.toArray:=by rw[ht.eval];exact hf
 refine Lw (s:=Instr.enterLoop b.fn tm #[q] assign body none)
  (f:=fun lm=>(Frame.enter Tryz.prog kk (Value.func (.yield lm.1) #[] #[]::g).toArray .normal,Fr b tm (lm.2++ds) (.inRangeFunc lm.1::k)::cs))
  (Q:=fun lm σ'=>∃r,lm.2=[{target:=.collected r,args:=#[]}]∧σ'=(lm.1,Res.obj (.loop {state:=.ready,pending:=none,fn:=b.fn,tmps:=tm,params:=#[q],assign,body,defers:=r}))::(r,.obj (.deferred (some [])))::(O++σ))
  (fun W lm W' es c=>?_) (Vj fun r l=>⟨r,rfl,rfl⟩) ?_
 ·exact Abv hr hk (by rw[ht.eval];exact hf) (P:=Tryz.prog) h m p c
 rintro⟨l,D⟩ σ' ⟨r,hm,rfl⟩
 simp only at hm
 subst hm
 let L:Loop:={state:=.ready,pending:=none,fn:=b.fn,tmps:=tm,params:=#[q],assign,body,defers:=r}
 let L':Loop:={L with state:=.done,pending:=some .ret}
 have z:=u mn X l (fun pre ρ' σ'=>∃τ,σ'=(l,Res.obj (.loop L))::(r,.obj (.deferred (some [])))::τ∧J pre ρ' τ) (fun ρ' σ'=>∃τ,σ'=(l,Res.obj (.loop L'))::(r,.obj (.deferred (some [])))::τ∧S ρ' τ) ρ ((l,Res.obj (.loop L))::(r,.obj (.deferred (some [])))::σ) .refl
  (fun pre ρ1 ρ2 σ1 hle ⟨τ,e1,d⟩=>⟨τ,e1,hJm _ _ _ _ hle d⟩) ⟨σ,rfl,hJ⟩ (fun pre x post ρ' σ' pfx hpo hys hle ⟨τ,e1,d⟩ rd ds'=>?_)
 ·refine .ghost (Bxk (σ':=O++((l,Res.obj (.loop L))::(r,.obj (.deferred (some [])))::σ)) ?_) ?_
  ·have B:(([(l,Res.obj (.loop L)),(r,.obj (.deferred (some [])))]:Own)++(O++σ)).Perm (O++([(l,Res.obj (.loop L)),(r,.obj (.deferred (some [])))]++σ)):=Bha _ _ _
   exact B
  refine(z (Fr b tm ([{target:=.collected r,args:=#[]}]++ds) (.inRangeFunc l::k)) cs).bind ?_
  rintro _ cs' ρ' σ' ⟨v,rfl,hcs,hle,hJS⟩
  subst hcs
  have e1:(Fr b tm ([{target:=.collected r,args:=#[]}]++ds) (.inRangeFunc l::k)).finish v=Fr b tm ([{target:=.collected r,args:=#[]}]++ds) (.endRangeFunc l::k):=rfl
  rw[e1]
  rcases hJS with⟨τ,rfl,hJ'⟩|⟨τ,rfl,hS'⟩
  ·refine Lw (s:=Instr.endLoop l) (f:=fun j=>(Fr b tm ([{target:=.collected r,args:=#[]}]++ds) ((j.map Item.code).toList++k),cs')) (Q:=fun j σ''=>j=none∧σ''=(l,Res.obj (.loop {L with state:=.exhausted}))::(r,.obj (.deferred (some [])))::τ) (fun W j W' es c=>?_) (Zz rfl ⟨rfl,rfl⟩) ?_
   ·exact⟨seen Tryz.prog b.fn es ++ #[],by simp[Conc.G,stepG,stepG.exec,Fr,-Sem.runT_eq,c,GStep.after],fun ev he=>Lh (by simpa using he)⟩
   ·rintro j σ'' ⟨rfl,rfl⟩
    exact .ghost Bxi (.stop ⟨rfl,.normal,tm,e,_,k,ht,hend r ρ' τ hle hJ',rfl,rfl⟩)
  ·refine Lw (s:=Instr.endLoop l) (f:=fun j=>(Fr b tm ([{target:=.collected r,args:=#[]}]++ds) ((j.map Item.code).toList++k),cs')) (Q:=fun j σ''=>j=some .ret∧σ''=(l,Res.obj (.loop {L' with state:=.exhausted}))::(r,.obj (.deferred (some [])))::τ) (fun W j W' es c=>?_) (Zz rfl ⟨rfl,rfl⟩) ?_
   ·exact⟨seen Tryz.prog b.fn es ++ #[],by simp[Conc.G,stepG,stepG.exec,Fr,-Sem.runT_eq,c,GStep.after],fun ev he=>Lh (by simpa using he)⟩
   ·rintro j σ'' ⟨rfl,rfl⟩
    exact .ghost Bxi (Aq (hstop r ρ' τ hle hS') tm k cs' ht)
 ·subst e1
  rw[Ayz]
  refine Afw (i:=pfx.length) Awc (by simp[L]) ?_
  show RoundH (CX mn X) l b.fn _ assign body ρ' _ _
  have etm:((L.params.zip #[x]).foldl (fun tmps (t,a)=>tmps.setIfInBounds t a) L.tmps)=tm.setIfInBounds q x:=by simp[L]
  rw[etm]
  refine Abr (ht.put hq x) ?_
  refine Adw (hbody l pre x post ρ' τ hys hle d (pfx++[(l,Res.obj (.loop L)),(r,.obj (.deferred (some [])))]) hpo.add) ?_
  rintro ex e1 ds1 ρ1 σ1 ⟨rfl,rfl,hl1,τ1,rfl,hb⟩
  refine⟨rfl,rfl,pfx.length,L,Awc,rfl,?_⟩
  rw[Bal]
  refine Adw (hb (pfx++[(l,Res.obj (.loop {L with state:=.busy})),(r,.obj (.deferred (some [])))]) hpo.add) ?_
  rintro ex d ds2 ρ2 σ2 ⟨hl2,τ2,rfl,hJS⟩
  refine⟨pfx.length,{L with state:=.busy},Awc,rfl,?_⟩
  rw[Bal,←Ayz]
  refine⟨_,rfl,hl1.trans hl2,?_⟩
  rcases hJS with⟨rfl,w⟩|⟨rfl,y⟩
  ·exact .inl ⟨rfl,τ2,rfl,w⟩
  ·exact .inr ⟨rfl,τ2,rfl,y⟩
end
/-- A call by its body,with results in variables,which leaves one mark of a range over a function. -/
theorem Awn{C:Ctx}{f:FuncId}{fn:Func}{c:Code}{n:Nat}{args:List Value}{ρ:Ro}{σ:Own}{R:Value→Ro→Own→Prop}(rs:List ResultVar)(hf:C.P.funcs[f]?=some fn)(hc:fn.body=some c)(hn:fn.ntmps=n)(ha:Nat.ble args.length n=true)(hr:fn.results=rs.toArray)
  (h:∀Q:Hu,(∀e ρ' σ' ρ'' σ'' r vs,Agf C.P ρ' ((r,.obj (.deferred none))::σ') e rs vs→Ghost ρ' ((r,.obj (.deferred none))::σ') ρ'' σ''→R (Adi vs) ρ'' σ''→Q .ret e [{target:=.collected r,args:=#[]}] ρ' ((r,.obj (.deferred (some [])))::σ'))→WpC C ⟨f,.normal,none⟩ n c Q (Pn args) [] ρ σ):CallsH C f args.toArray ρ σ R:=by
 have a:CallsH C f args.toArray ρ σ (fun v ρ' σ'=>∃ρ'' σ'',Ghost ρ' σ' ρ'' σ''∧R v ρ'' σ''):=by
  refine Oy hf hc hn (Pj ha) (h _ (fun e ρ' σ' ρ'' σ'' r vs hl hg hR=>⟨fun id h=>(by cases h),?_⟩))
  refine⟨r,0,rfl,rfl,?_⟩
  exact Vf (Q:=fun v σ'=>∃ρ'' σ'',Ghost ρ' σ' ρ'' σ''∧R v ρ'' σ'') hr hl ⟨ρ'',σ'',hg,hR⟩
 intro c' cs
 refine(a c' cs).bind ?_
 rintro _ _ ρ' σ' ⟨v,rfl,rfl,ρ'',σ'',hg,hR⟩
 exact .ghost hg (.stop ⟨v,rfl,rfl,hR⟩)
def Ga(acc:List UInt8):List UInt8→List (List UInt8)
 | []=>if acc=[] then [] else [acc]
 | x::r=>if x=10 then (acc++[10])::Ga [] r else Ga (acc++[x]) r
theorem Bew{acc:List UInt8}:Sa (acc++[10])=acc:=by
 unfold Sa
 have e:(acc++[10]).drop ((acc++[10]).length-1)=[10]:=by simp
 rw[e];simp
theorem Bkv{acc:List UInt8}(h:∀x∈acc,x≠10):Sa acc=acc:=by
 unfold Sa
 rw[if_neg]
 intro hh
 have e:=eq_of_beq hh
 have:(10:UInt8)∈acc:=Aqw (i:=acc.length-1) (by rw[e];simp)
 exact h 10 this rfl
theorem Aay:∀{s acc:List UInt8},(∀x∈acc,x≠10)→(Ga acc s).map Sa=Nr acc s
 | [],acc,h=>by
  unfold Ga Nr
  split
  ·rfl
  ·rw[Oa,Bkv h];rfl
 | x::r,acc,h=>by
  unfold Ga Nr
  split
  ·rw[Oa,Bew,Aay (fun _ h=>by cases h)]
  ·next hx =>
   exact Aay fun y hy=>by
    rcases Hs.1 hy with h1|h1
    ·exact h y h1
    ·rw[Qp.1 h1];exact hx
theorem Asz{s:List UInt8}:(Ga [] s).map Sa=Lz s:=Aay (fun _ h=>by cases h)
theorem Aoq:∀{s acc:List UInt8},(∀x∈s,x≠10)→Ga acc s=if acc++s=[] then [] else [acc++s]
 | [],acc,_=>by unfold Ga;rw[Un]
 | x::r,acc,h=>by
  unfold Ga
  rw[if_neg (h x mC),Aoq fun y hy=>h y (lZ5 _ hy)]
  simp
theorem Aop:∀{m:Nat} {s acc:List UInt8},s[m]?=some 10→(∀j,j<m→s[j]?≠some 10)→Ga acc s=(acc++s.take (m+1))::Ga [] (s.drop (m+1))
 | _,[],_,h,_=>by cases h
 | 0,x::r,acc,h,_=>by
  obtain rfl:x=10:=by simpa using h
  conv=>lhs;unfold Ga
  rw[if_pos rfl];rfl
 | m+1,x::r,acc,h,hj=>by
  have hx:x≠10:=fun e=>hj 0 (by omega) (by rw[e];rfl)
  conv=>lhs;unfold Ga
  rw[if_neg hx,Aop (m:=m) (s:=r) (by simpa using h) (fun j hjm=>by have:=hj (j+1) (by omega);simpa using this)]
  simp
theorem Aul{s:List UInt8}{m:Nat}(h:s[m]?=some 10)(hj:∀j,j<m→s[j]?≠some 10):Ga [] s=((s.take (m+1)).drop 0)::Ga [] ((s.take s.length).drop (m+1)):=by
 rw[Aop h hj,Sr,Xl,Afb]
theorem Auk{s:List UInt8}(h:∀x∈s,x≠10)(hs:0<s.length):Ga [] s=[s]:=by
 rw[Aoq h,Xl,if_neg]
 intro e;rw[e]at hs;cases hs
theorem Bku{p:List UInt8}:(Sa p).length≤p.length:=by
 unfold Sa;split
 ·rw[lZ6];omega
 ·exact Jd _
theorem Afd:∀{s acc:List UInt8},∀w∈Ga acc s,w.length≤acc.length+s.length
 | [],acc,w,hw=>by
  unfold Ga at hw
  split at hw
  ·cases hw
  ·rw[Qp.1 hw];simp
 | x::r,acc,w,hw=>by
  unfold Ga at hw
  split at hw
  ·rcases Gw.1 hw with rfl|h1
   ·simp
   ·have:=Afd w h1;simp only[lZ7,lZ3]at *;omega
  ·have:=Afd w hw;simp only[lZ2,lZ3,lZ7]at *;omega
theorem Bhd{t a:List UInt8}{l1 l2:List (List UInt8)}{i:Nat}(h:Ga [] t=l1++a::l2)(hi:i=l1.length):(Lz t)[i]?=some (Sa a)∧i+1≤t.length∧(Sa a).length≤t.length∧a.length≤t.length:=by
 have hc:=Asz (s:=t)
 have hn:=Blv (t:=t)
 rw[←hc,h,Xe,lZ2,lZ3]at hn
 have hb:=Afd (s:=t) (acc:=[]) a (by rw[h];simp)
 have hcl:=Bku (p:=a)
 refine⟨?_,by omega,by simp only[lZ7]at hb;omega,by simp only[lZ7]at hb;omega⟩
 rw[←hc,h,Ny,Oa,hi,List.getElem?_append_right (by simp)]
 simp
theorem Axm{t:List UInt8}{i:Nat}(hi:i=(Ga [] t).length):i=(bw (Lz t)).length:=by
 rw[←Asz];simp[bw,hi]
end
section
open Go
theorem Bcv{s:List UInt8}(h:decide (Ps 10 s≥0)=true):∃m:Nat,Ps 10 s=(m:Int)∧m<s.length∧Ga [] s=((s.take (m+1)).drop 0)::Ga [] ((s.take s.length).drop (m+1)):=by
 rcases Tf (c:=10) (p:=s) with⟨m,a,b,d,e⟩|⟨a,_⟩
 ·exact⟨m,a,b,Aul d e⟩
 ·have:=lZ1 h;omega
theorem Bcu{s:List UInt8}(h:decide (Ps 10 s≥0)=false)(hs:0<s.length):Ga [] s=[s]:=by
 rcases Tf (c:=10) (p:=s) with⟨m,a,b,d,e⟩|⟨_,a⟩
 ·have:=lZ0 h;omega
 ·exact Auk a hs
theorem Beq{mn:Bool}{X:Frame→List Frame→Ro→Own→Cy→Prop}{ρ:Ro}{σ:Own}{t:List UInt8} :CallsH (CX mn X) 87 #[.string (bs t)] ρ σ (fun w ρ' σ'=>ρ'=ρ∧∃k:Nat,w = .func (.func 117) #[] #[pV k]∧σ'=(k,oC #[.string (bs t)] 9)::σ):=by
 refine Bq 4 [2] Tryz.func87 rfl fun Q b g=>w_q rfl rfl fun e c=>Arv (Eb (v:=.string (bs t)) rfl fun a=>?_)
 refine Au .nilFunc (Arx rfl rfl c fun f d=>l_v (Il (fn:=.func 117) (caps:=[.tmp 1]) (vs:=[pV a]) ⟨rfl,trivial⟩) (Au (.func (.func 117) #[] #[pV a]) (l_k d (Aq (b ⟨rfl,_,rfl,rfl⟩)))))
theorem Bgd{t:List UInt8}{k:Nat}{ρ₀:Ro}(hb:t.length≤60000):Bnn (.func (.func 117) #[] #[pV k]) ρ₀ [(k,oC #[.string (bs t)] 9)] ((Ga [] t).map (fun l:List UInt8=>Value.string (bs l))):=by
 refine⟨_,_,[pV k],rfl,Tryz.func117,rfl,rfl,?_⟩
 intro mn X l I S ρ σ hle a1 hI hy
 refine Bq 25 [] Tryz.func117 rfl fun Q u G=>Ao (Cc (fun mm ee dd ρ' σ'=>∃(s:List UInt8) (pre:List (List UInt8)) (σb1:Own),(s.length)=mm∧[]=dd∧Ro.le ρ ρ'∧((k,oC #[.string (bs s)] 9)::σb1)=σ'∧ee 0=(.func (.yield l) #[] #[])∧ee 1=pV k∧(Ga [] t=pre++Ga [] s)∧(s.length≤60000)∧I (pre.map (fun l:List UInt8=>Value.string (bs l))) ρ' σb1∧True) (m:=_) ⟨t,[],σ,rfl,rfl,Bxm,rfl,rfl,rfl,rfl,hb,hI,trivial⟩ ?_)
 rintro m1 e1 _ ρ1 _ ⟨s,pre,σb1,rfl,rfl,l1,rfl,h1_0,h1_1,p1_0,p1_1,IB1,_⟩
 refine Asb rfl rfl fun Z K3 L M=>Arv (Dt (i:=0) (v:=.string (bs s)) ⟨_,Btr,rfl⟩ h1_1 rfl rfl ?_)
 refine l_v (Dy Btr (p:=s) rfl) (l_v (Gl rfl rfl) (l_k M (Bf (t:=decide ((s.length:Int)>0)) rfl (fun d=>?_) (fun d=>?_))))
 ·have R:=lZ1 d
  refine Al (kk L ?_)
  refine Ao (w_q rfl rfl fun K5 N=>Au (.string (ByteArray.mk #[])) (Ary rfl rfl N fun K6 K7 y O=>Arv (Dt (i:=0) (v:=.string (bs s)) ⟨_,Btr,rfl⟩ h1_1 rfl rfl ?_)))
  refine Arv (Bw (Bbr (p:=s) (c:=(10:UInt8))) Tryz.func118 ?_)
  refine Au (iV (Ps (10:UInt8) s)) (Arx rfl rfl O fun K8 P=>Av (iV (Ps (10:UInt8) s)) (l_v (Uy rfl rfl) (l_k P (Bf (t:=decide ((Ps (10:UInt8) s)≥0)) rfl (fun a=>?_) (fun a=>?_)))))
  ·obtain⟨m,q,a0,b⟩:=Bcv a
   have T:=lZ1 a
   refine Ox ((k,oC #[.string (bs s)] 9)::[]) [0,1,2,3,4,5,6,7,8] (by kernel_rfl) rfl rfl (Cu 0 (zT 1 9) rfl ⟨Bxm,sB⟩ rfl (Fl (v:=.string (bs s)) ⟨_,Btr,rfl⟩ h1_1 mC rfl) (Cu 1 (zT 2 8) rfl ⟨Bxm,sB⟩ rfl (Yld.o (Ah (v:=iV m) (congrArg (Value.int .i64) q))) (Cu 2 (zT 3 7) rfl ⟨Bxm,sB⟩ rfl (Yld.o (Cw (((m+1):Nat):Int))) (Cu 3 (zT 4 6) rfl ⟨Bxm,sB⟩ rfl (Yld.o (Ui (p:=s) (l:=0) (h:=m+1) Btr rfl (.inl ⟨rfl,rfl⟩) (.inr ⟨_,rfl,rfl⟩) (by first|omega|(simp only[lZ6,lZ4]at *;omega)) (by first|omega|(simp only[lZ6,lZ4]at *;omega)))) (Cu 4 (zT 5 5) rfl ⟨Bxm,sB⟩ rfl (Fl (v:=.string (bs s)) ⟨_,Btr,rfl⟩ h1_1 mC rfl) (Cu 5 (zT 6 4) rfl ⟨Bxm,sB⟩ rfl (Yld.o (Ah (v:=iV m) (congrArg (Value.int .i64) q))) (Cu 6 (zT 7 3) rfl ⟨Bxm,sB⟩ rfl (Yld.o (Cw (((m+1):Nat):Int))) (Cu 7 (zT 8 2) rfl ⟨Bxm,sB⟩ rfl (Yld.o (Ui (p:=s) (l:=m+1) (h:=s.length) Btr rfl (.inr ⟨_,rfl,rfl⟩) (.inl ⟨rfl,rfl⟩) (by first|omega|(simp only[lZ6,lZ4]at *;omega)) (by first|omega|(simp only[lZ6,lZ4]at *;omega)))) (Dz 8 (zT 9 1) rfl ⟨Bxm,sB⟩ rfl (Yld.o (Cp (v:=.string (bs ((s.take (m+1)).drop 0))) rfl)) ⟨Bxm,sB⟩ (Tw 9 (zT 10 0) rfl rfl (Cz (j:=0) (v:=.string (bs ((s.take s.length).drop (m+1)))) ⟨_,Ab Bul,rfl⟩ h1_1 rfl rfl rfl nL ?_)))))))))))
   refine Us rfl (kk y ?_)
   refine w_q rfl rfl fun W w=>l_v (Ah (v:=.func (.yield l) #[] #[]) h1_0) (Av (.string (bs ((s.take (m+1)).drop 0))) (Arv (Xr (v:=.string (bs ((s.take (m+1)).drop 0))) rfl rfl (hy (pre.map (fun l:List UInt8=>Value.string (bs l))) (.string (bs ((s.take (m+1)).drop 0))) ((Ga [] ((s.take s.length).drop (m+1))).map (fun l:List UInt8=>Value.string (bs l))) _ _ [(k,oC #[.string (bs ((s.take s.length).drop (m+1)))] 9)] Bag (by rw[p1_0,b,Ny,Oa]) l1 IB1) fun a2 a4 a6 e=>?_)))
   obtain⟨U,J,z,e⟩:=e
   subst J
   rcases e with⟨g,C⟩|⟨g,E⟩
   ·subst g
    refine l_v (Iy rfl) (l_k w (Cg rfl (not_t rfl) (Al ⟨_,?_,(s.take s.length).drop (m+1),pre++[(s.take (m+1)).drop 0],U,rfl,rfl,Bxn l1 z,rfl,h1_0,h1_1,(by rw[p1_0,b,lZ9];rfl),(by simp only[lZ6,lZ4,lZ7]at *;omega),Yp (by rw[Ny];rfl) C,trivial⟩)))
    simp only[lZ6,lZ4,lZ7]at *;omega
   subst g
   refine l_v (Iy rfl) (l_k w (Co rfl (not_f rfl) (Aj Bxi (Aq (u ⟨Bxn l1 z,.inr E⟩)))))
  have b:=Bcu a (by omega)
  have T:=lZ0 a
  refine Ag rfl rfl (Arv (Dt (i:=0) (v:=.string (bs s)) ⟨_,Btr,rfl⟩ h1_1 rfl rfl ?_))
  refine Au (.string (bs s)) (Cx rfl (Cz (j:=0) (v:=.string (ByteArray.mk #[])) ⟨_,Ab Bul,rfl⟩ h1_1 rfl rfl rfl nL ?_))
  refine Arx rfl rfl y fun Y x=>l_v (Ah (v:=.func (.yield l) #[] #[]) h1_0) (Av (.string (bs s)) (Arv (Xr (v:=.string (bs s)) rfl rfl (hy (pre.map (fun l:List UInt8=>Value.string (bs l))) (.string (bs s)) ((Ga [] ([]:List UInt8)).map (fun l:List UInt8=>Value.string (bs l))) _ _ [(k,oC #[.string (ByteArray.mk #[])] 9)] Bag (by rw[p1_0,b,Ny,Oa];rfl) l1 IB1) fun a3 a5 a7 f=>?_)))
  obtain⟨V,K,B,f⟩:=f
  subst K
  rcases f with⟨n,D⟩|⟨n,F⟩
  ·subst n
   refine l_v (Iy rfl) (l_k x (Cg rfl (not_t rfl) (Al ⟨_,?_,([]:List UInt8),pre++[s],V,rfl,rfl,Bxn l1 B,rfl,h1_0,h1_1,(by rw[p1_0,b,lZ9];rfl),(by simp only[lZ6,lZ4,lZ7]at *;omega),Yp (by rw[Ny];rfl) D,trivial⟩)))
   simp only[lZ6,lZ4,lZ7]at *;omega
  subst n
  refine l_v (Iy rfl) (l_k x (Co rfl (not_f rfl) (Aj Bxi (Aq (u ⟨Bxn l1 B,.inr F⟩)))))
 have R:=lZ0 d
 refine Aj Bxi (Bx (G ?_))
 have H:s=[]:=Aqu (by omega)
 refine⟨l1,.inl ?_⟩
 rw[p1_0,H,show Ga [] ([]:List UInt8)=[] from rfl,Un];exact IB1
theorem Brj:Fw Tryz.prog 85 .nilIface:=⟨_,Ab Bvi,rfl⟩
theorem Brl:Fw Tryz.prog 102 (.pointer none):=⟨_,Ab Bvr,rfl⟩
/-- A small number. -/
def SmF(x:Int):Prop:=0≤x∧x≤20
theorem SmF.or{a b:Int}(ha:SmF a)(hb:SmF b):SmF (orF a b):=by unfold orF;split<;>assumption
theorem SmF.first{n:Nat}{f:Nat→Int}(h:∀i,SmF (f i)):SmF (Hl n f):=by
 unfold Hl;split
 ·exact h _
 ·exact⟨by omega,by omega⟩
theorem SmF.ite{c:Prop}[Decidable c]{a b:Int}(ha:SmF a)(hb:SmF b):SmF (if c then a else b):=by split<;>assumption
theorem fb0:SmF 0:=⟨by decide,by decide⟩
theorem fb1:SmF 1:=⟨by decide,by decide⟩
theorem fb2:SmF 2:=⟨by decide,by decide⟩
theorem fb4:SmF 4:=⟨by decide,by decide⟩
theorem fb5:SmF 5:=⟨by decide,by decide⟩
theorem fb6:SmF 6:=⟨by decide,by decide⟩
theorem Aiv{l:List ByteArray}{n:Int}:SmF (Dd l n):=by
 unfold Dd
 refine SmF.ite fb2 (SmF.first fun i=>?_)
 unfold Nh;split
 ·exact SmF.ite (SmF.ite fb5 fb0) fb4
 ·exact fb0
theorem Bfp{l:List Span}{n:Int}:SmF (Fm l n):=by
 unfold Fm
 refine SmF.ite (SmF.first fun i=>?_) fb2
 unfold Nn;split
 ·exact SmF.ite fb0 fb1
 ·exact fb0
theorem Bbz{m:Market}:SmF (Cf m):=by
 unfold Cf
 refine SmF.or Aiv (SmF.or Aiv (SmF.or ?_ ?_))
 ·unfold Ew
  refine SmF.ite fb2 (SmF.first fun i=>?_)
  unfold fieldAt;split
  ·exact fb0
  ·exact SmF.ite (SmF.ite fb5 (SmF.ite (SmF.ite Bfp fb1) fb6)) fb4
 ·unfold Jc
  refine SmF.ite fb2 (SmF.first fun i=>?_)
  unfold Jb;split
  ·exact fb0
  ·refine SmF.ite (SmF.ite fb2 (SmF.first fun k=>?_)) fb1
   unfold Gt;split
   ·exact fb0
   ·refine SmF.ite ?_ fb6
    generalize (if 0<k then _ else none:Option Int)=z
    cases z with
    | none=>exact fb0
    | some h'=>exact SmF.ite ⟨by decide,by decide⟩ fb0
theorem Bpt{l:Lab}:SmF (Gh l):=by
 unfold Gh
 refine SmF.or Aiv ?_
 unfold Jy
 refine SmF.ite (SmF.ite fb2 (SmF.first fun i=>?_)) fb1
 unfold Hb;split
 ·exact fb0
 ·refine SmF.ite (SmF.ite fb5 (SmF.ite (SmF.first fun k=>?_) fb2)) fb4
  unfold Nk;split
  ·exact SmF.ite fb1 fb0
  ·exact fb0
theorem Azc:∀a b:List UInt8,Value.string (bs a)=Value.string (bs b)→a=b:=fun a b h=>Bom (by injection h)
theorem Bru{W0:World}{ρ:Ro}{σ:Own}{r:Nat}{t:List UInt8}(hg:GlobE ρ)(hb:t.length≤60000)(hnr:Jp σ):CallsH (CY W0) 43 #[pV r,.string (bs t)] ρ ((r,oC #[nS,iV 0,nS,nS,nS,nS,nS,iV 0] 101)::σ) (fun w ρ' σ'=>Ro.le ρ ρ'∧((∃(f n:Int) (ve:Value),Cr t=(emL,emM,n,f)∧w = .iface 102 ve∧At ρ' ve (⟨n,f⟩:Wrg)∧σ'=σ)∨∃q:PSt,Cr t=(q.l,q.m,0,0)∧w = .nilIface∧At ρ' (pV r) (⟨q.l,q.m,q.last⟩:Rdg)∧σ'=σ)):=by
 refine Awn (n:=56) (args:=[pV r,.string (bs t)]) [.cell 4 85] Tryz.func43 rfl rfl rfl rfl fun Q X=>w_q rfl rfl fun K1 k1=>Arv (Eb (v:=pV r) rfl fun d=>?_)
 refine Arv (Ct Brj fun c=>?_)
 refine Arx rfl rfl k1 fun K4 k4=>Arv (Ct zr3 fun e=>?_)
 refine Cx rfl (Cz (j:=0) (v:=iV 0) ⟨_,Ab Btz,rfl⟩ rfl rfl rfl rfl nL ?_)
 refine Ary rfl rfl k4 fun K6 K7 k6 k7=>Av (.string (bs t)) (Arv (Cm (vs:=[.string (bs t)]) (Beq (t:=t)) Tryz.func87 rfl rfl ⟨rfl,trivial⟩ fun w8 fa fc be=>?_))
 obtain⟨al,k8,bx,am⟩:=be
 replace al:=al.symm;replace am:=am.symm;subst al am bx
 refine l_k k7 (Ao (Amx (ys:=(Ga [] t).map (fun l:List UInt8=>Value.string (bs l))) (O:=[(k8,oC #[.string (bs t)] 9)]) (fun pre ρ' τ=>∃(l1:List (List UInt8)) (i:Nat) (p:PSt) (ov9_0c0:Value) (og9_0c0:Own) (ov9_0c2:Value) (og9_0c2:Own) (ov9_0c3:Value) (og9_0c3:Own) (ov9_0c4:Value) (og9_0c4:Own) (ov9_0c5:Value) (og9_0c5:Own) (ov9_0c6:Value) (og9_0c6:Own),pre=l1.map (fun l:List UInt8=>Value.string (bs l))∧(og9_0c0++(og9_0c2++(og9_0c3++(og9_0c4++(og9_0c5++(og9_0c6++((e,oC #[iV i] 3)::((c,oC #[.nilIface] 85)::((d,oC #[pV r] 99)::((r,oC #[ov9_0c0,iV p.l.most,ov9_0c2,ov9_0c3,ov9_0c4,ov9_0c5,ov9_0c6,iV p.last] 101)::σ))))))))))=τ∧(i=l1.length)∧(Pz 0 p0 ((Lz t).take i) = .inr p)∧(RdB p i)∧(0≤p.last∧p.last≤7∧-9223372036854775808≤p.l.most∧p.l.most<9223372036854775808)∧Grow ρ' 9 ov9_0c0 p.l.kinds og9_0c0∧Grow ρ' 46 ov9_0c2 p.l.tests og9_0c2∧Grow ρ' 9 ov9_0c3 p.m.houses og9_0c3∧Grow ρ' 9 ov9_0c4 p.m.marks og9_0c4∧Grow ρ' 51 ov9_0c5 p.m.fields og9_0c5∧Grow ρ' 54 ov9_0c6 p.m.sales og9_0c6∧True) (fun ρ' τ=>∃(f:Int) (i:Nat) (ve:Value),((c,oC #[.iface 102 ve] 85)::σ)=τ∧Cr t=(emL,emM,((i+1:Nat):Int),f)∧At ρ' ve (⟨((i+1:Nat):Int),f⟩:Wrg)) rfl rfl nL rfl (Bgd (by omega)) ?_ ?_ ?_ ?_ ?_))
 ·rintro pre ρa ρb σa hle ⟨l1,i,p,ov9_0c0,og9_0c0,ov9_0c2,og9_0c2,ov9_0c3,og9_0c3,ov9_0c4,og9_0c4,ov9_0c5,og9_0c5,ov9_0c6,og9_0c6,h1,h2,p9_0,p9_1,p9_2,p9_3,OG9_0c0,OG9_0c2,OG9_0c3,OG9_0c4,OG9_0c5,OG9_0c6,_⟩;exact⟨l1,i,p,ov9_0c0,og9_0c0,ov9_0c2,og9_0c2,ov9_0c3,og9_0c3,ov9_0c4,og9_0c4,ov9_0c5,og9_0c5,ov9_0c6,og9_0c6,h1,h2,p9_0,p9_1,p9_2,p9_3,OG9_0c0.mono hle,OG9_0c2.mono hle,OG9_0c3.mono hle,OG9_0c4.mono hle,OG9_0c5.mono hle,OG9_0c6.mono hle,trivial⟩
 ·exact⟨[],0,p0,nS,[],nS,[],nS,[],nS,[],nS,[],nS,[],rfl,rfl,rfl,rfl,Bsp,⟨by decide,by decide,by decide,by decide⟩,Hm,Hm,Hm,Hm,Hm,Hm,trivial⟩
 ·rintro l9_ _ x9 post9 ρ9 _ hys9 l9 ⟨l1,i,p,ov9_0c0,og9_0c0,ov9_0c2,og9_0c2,ov9_0c3,og9_0c3,ov9_0c4,og9_0c4,ov9_0c5,og9_0c5,ov9_0c6,og9_0c6,rfl,rfl,p9_0,p9_1,p9_2,p9_3,OG9_0c0,OG9_0c2,OG9_0c3,OG9_0c4,OG9_0c5,OG9_0c6,_⟩ pfx9 hpx9
  obtain⟨U,ed,bm,rfl⟩:=Ly Azc hys9
  replace hg:=GlobE.mono l9 hg
  refine Aj (σ':=og9_0c0++(og9_0c2++(og9_0c3++(og9_0c4++(og9_0c5++(og9_0c6++((e,Res.obj (Obj.cells #[iV i] 3 (0,0)))::((c,Res.obj (Obj.cells #[.nilIface] 85 (0,0)))::((d,Res.obj (Obj.cells #[pV r] 99 (0,0)))::((r,Res.obj (Obj.cells #[ov9_0c0,iV p.l.most,ov9_0c2,ov9_0c3,ov9_0c4,ov9_0c5,ov9_0c6,iV p.last] 101 (0,0)))::(pfx9++σ))))))))))) (Bxk (by first|exact Fe pfx9 (og9_0c0++(og9_0c2++(og9_0c3++(og9_0c4++(og9_0c5++(og9_0c6++[(e,Res.obj (Obj.cells #[iV i] 3 (0,0))),(c,Res.obj (Obj.cells #[.nilIface] 85 (0,0))),(d,Res.obj (Obj.cells #[pV r] 99 (0,0))),(r,Res.obj (Obj.cells #[ov9_0c0,iV p.l.most,ov9_0c2,ov9_0c3,ov9_0c4,ov9_0c5,ov9_0c6,iV p.last] 101 (0,0)))])))))) σ|simpa only[lZ9,Ts,Xl,Bcr]using Fe pfx9 (og9_0c0++(og9_0c2++(og9_0c3++(og9_0c4++(og9_0c5++(og9_0c6++[(e,Res.obj (Obj.cells #[iV i] 3 (0,0))),(c,Res.obj (Obj.cells #[.nilIface] 85 (0,0))),(d,Res.obj (Obj.cells #[pV r] 99 (0,0))),(r,Res.obj (Obj.cells #[ov9_0c0,iV p.l.most,ov9_0c2,ov9_0c3,ov9_0c4,ov9_0c5,ov9_0c6,iV p.last] 101 (0,0)))])))))) σ)) ?_
  have ak:=Bhd bm p9_0
  obtain⟨e5,e6,e7,e8⟩:=id ak
  obtain⟨bp,bq,br,bt⟩:=p9_3
  refine Ag rfl rfl (Au (.string (bs U)) (Bj (σ':=pfx9++(og9_0c0++(og9_0c2++(og9_0c3++(og9_0c4++(og9_0c5++(og9_0c6++((e,Res.obj (Obj.cells #[iV i] 3 (0,0)))::((c,Res.obj (Obj.cells #[.nilIface] 85 (0,0)))::((d,Res.obj (Obj.cells #[pV r] 99 (0,0)))::((r,Res.obj (Obj.cells #[ov9_0c0,iV p.l.most,ov9_0c2,ov9_0c3,ov9_0c4,ov9_0c5,ov9_0c6,iV p.last] 101 (0,0)))::σ))))))))))) (Bxk (by first|exact Fe (og9_0c0++(og9_0c2++(og9_0c3++(og9_0c4++(og9_0c5++(og9_0c6++[(e,Res.obj (Obj.cells #[iV i] 3 (0,0))),(c,Res.obj (Obj.cells #[.nilIface] 85 (0,0))),(d,Res.obj (Obj.cells #[pV r] 99 (0,0))),(r,Res.obj (Obj.cells #[ov9_0c0,iV p.l.most,ov9_0c2,ov9_0c3,ov9_0c4,ov9_0c5,ov9_0c6,iV p.last] 101 (0,0)))])))))) pfx9 σ|simpa only[lZ9,Ts,Xl,Bcr]using Fe (og9_0c0++(og9_0c2++(og9_0c3++(og9_0c4++(og9_0c5++(og9_0c6++[(e,Res.obj (Obj.cells #[iV i] 3 (0,0))),(c,Res.obj (Obj.cells #[.nilIface] 85 (0,0))),(d,Res.obj (Obj.cells #[pV r] 99 (0,0))),(r,Res.obj (Obj.cells #[ov9_0c0,iV p.l.most,ov9_0c2,ov9_0c3,ov9_0c4,ov9_0c5,ov9_0c6,iV p.last] 101 (0,0)))])))))) pfx9 σ)) (Ac ?_)))
  refine⟨rfl,rfl,Bxm,_,rfl,?_⟩
  intro z bu
  refine Aj (σ':=og9_0c0++(og9_0c2++(og9_0c3++(og9_0c4++(og9_0c5++(og9_0c6++((e,Res.obj (Obj.cells #[iV i] 3 (0,0)))::((c,Res.obj (Obj.cells #[.nilIface] 85 (0,0)))::((d,Res.obj (Obj.cells #[pV r] 99 (0,0)))::((r,Res.obj (Obj.cells #[ov9_0c0,iV p.l.most,ov9_0c2,ov9_0c3,ov9_0c4,ov9_0c5,ov9_0c6,iV p.last] 101 (0,0)))::(z++σ))))))))))) (Bxk (by first|exact Fe z (og9_0c0++(og9_0c2++(og9_0c3++(og9_0c4++(og9_0c5++(og9_0c6++[(e,Res.obj (Obj.cells #[iV i] 3 (0,0))),(c,Res.obj (Obj.cells #[.nilIface] 85 (0,0))),(d,Res.obj (Obj.cells #[pV r] 99 (0,0))),(r,Res.obj (Obj.cells #[ov9_0c0,iV p.l.most,ov9_0c2,ov9_0c3,ov9_0c4,ov9_0c5,ov9_0c6,iV p.last] 101 (0,0)))])))))) σ|simpa only[lZ9,Ts,Xl,Bcr]using Fe z (og9_0c0++(og9_0c2++(og9_0c3++(og9_0c4++(og9_0c5++(og9_0c6++[(e,Res.obj (Obj.cells #[iV i] 3 (0,0))),(c,Res.obj (Obj.cells #[.nilIface] 85 (0,0))),(d,Res.obj (Obj.cells #[pV r] 99 (0,0))),(r,Res.obj (Obj.cells #[ov9_0c0,iV p.l.most,ov9_0c2,ov9_0c3,ov9_0c4,ov9_0c5,ov9_0c6,iV p.last] 101 (0,0)))])))))) σ)) (Ao (w_q rfl rfl fun d0 bz=>Arv (Gu (v:=iV i) ⟨_,Bty,rfl⟩ rfl (Po _ (Po _ (Po _ (Po _ (Po _ (Po _ mC)))))) rfl ?_)))
  refine l_v (Cw (((i+1):Nat):Int)) (Bj (Bxk (Gk (Gk (Gk (Gk (Gk Asd)))))) (Cx rfl (Cz (j:=0) (v:=iV ((i+1):Nat)) ⟨_,Ab Btz,rfl⟩ rfl rfl rfl rfl nL ?_)))
  refine Asa bz fun d1 aw=>Ox ((e,oC #[iV ((i+1):Nat)] 3)::((d,oC #[pV r] 99)::[])) [0,1,2,3,4,5] (by kernel_rfl) rfl rfl (Cu 0 (zT 1 5) rfl ⟨Bxm,sB⟩ rfl (Fl (v:=pV r) ⟨_,Bwi,rfl⟩ rfl (lZ5 _ mC) rfl) (Cu 1 (zT 2 4) rfl ⟨Bxm,sB⟩ rfl (Fl (v:=iV ((i+1):Nat)) ⟨_,Bty,rfl⟩ rfl mC rfl) (Dz 2 (zT 3 3) rfl ⟨Bxm,sB⟩ rfl (Yld.o (Ah (v:=.string (bs U)) rfl)) ⟨Bxm,sB⟩ (Nd 3 (zT 4 2) rfl rfl (Bm (Aqa (p:=U) (by omega)) Tryz.func89 rfl rfl ⟨rfl,rfl,trivial⟩ ⟨⟨Bxm,sB⟩,?_⟩)))))
  refine Nc (Fc (Df (Df (Df (Df Ase))))) (Nc (Df (Fc (Df (Df (Df Ase))))) (Nc (Df (Df (Fc (Df (Df Ase))))) (Nc (Df (Df (Df (Fc (Df Ase))))) (Nc (Df (Df (Df (Df (Fc Ase))))) (Nc (Df (Df (Df (Df (Df Asc))))) (Nc (Gk (Gk (Gk (Gk (Gk (Gk (Pm (Pm Arz)))))))) (Nd 4 (zT 5 1) rfl rfl (Cm (vs:=[pV r,iV ((i+1):Nat),.string (bs (Sa U))]) (Bpa (r:=r) (p:=p) (i:=i) hg (show I64 p.l.most from by constructor<;>omega) (show I64 p.last from by constructor<;>omega) (Bid p9_2 (by omega)) OG9_0c0 OG9_0c2 OG9_0c3 OG9_0c4 OG9_0c5 OG9_0c6 (by omega) (by omega) (by omega) (Gb (Gb (Gb (Auq bu hnr))))) Tryz.func88 rfl rfl ⟨rfl,rfl,rfl,trivial⟩ fun er es fb ai=>?_))))))))
  obtain⟨R,ai⟩:=ai
  rcases ai with⟨bb,C,P,eb,bd,an,bc,y⟩|⟨L,dw,P,an,⟨ab,ae,aa,ac,a8,ad,a2,a5,a1,a3,a0,a4,bi,bo,bl,bk,bv,bj,bn,bh,y⟩,y⟩
  ·replace y:=y.symm;subst y an
   obtain⟨dx,dy⟩:=bd
   refine⟨⟨R,sB⟩,?_⟩
   refine Dz 5 (zT 6 0) rfl ⟨R,sB⟩ rfl (Yld.o (Cp (v:=.iface 102 C) rfl)) ⟨Bxm,sB⟩ (Us rfl (kk aw ?_))
   refine w_q rfl rfl fun d2 c0=>Av (.iface 102 C) (l_v (Afx (w:=.iface 102 C) (b:=false) Buz (.inr ⟨_,_,rfl,rfl⟩) rfl) (l_k c0 (Co rfl rfl (w_q rfl rfl fun d3 c1=>Av (.iface 102 C) (Cx rfl (Cz (j:=1) (v:=.iface 102 C) ⟨_,Ab Bvi,rfl⟩ rfl rfl rfl rfl nL ?_))))))
   refine l_k c1 (Aj Bxi (Aj (Bxk Arz) (Aj Bxi (Aj (σ':=z++((c,Res.obj (Obj.cells #[.iface 102 C] 85 (0,0)))::σ)) (Bxk (by first|exact Fe [(c,Res.obj (Obj.cells #[.iface 102 C] 85 (0,0)))] z σ|simpa only[lZ9,Ts,Xl,Bcr]using Fe [(c,Res.obj (Obj.cells #[.iface 102 C] 85 (0,0)))] z σ)) (Aq ⟨R,_,rfl,.inr ⟨rfl,bb,i,C,rfl,Axv (by omega) p9_1 ak.1 P,bc⟩⟩)))))
  subst bi an
  simp only[lZ9,Ts]at y
  replace y:=y.symm;subst y
  obtain⟨e9,ea⟩:=bo;obtain⟨e3,e4⟩:=bl
  refine⟨⟨R,sB⟩,?_⟩
  refine Dz 5 (zT 6 0) rfl ⟨R,sB⟩ rfl (Yld.o (Cp (v:=.nilIface) rfl)) ⟨Bxm,sB⟩ (Us rfl (kk aw ?_))
  refine w_q rfl rfl fun d4 c2=>Av .nilIface (l_v (Afx (w:=.nilIface) (b:=true) Buz (.inl ⟨rfl,rfl⟩) rfl) (l_k c2 (Cg rfl rfl (Aj (Bxk (Pm (Gk (Gk (Gk (Gk (Gk (Gk (Pm Arz))))))))) (Aj (Bxk (Pm (Pm (Gk (Gk (Gk (Gk (Gk (Gk Arz))))))))) (Aj (Bxk (Pm (Pm (Pm (Gk (Gk (Gk (Gk (Gk Asd))))))))) (Aj (Bxk (Fc (Fc (Fc (Fc (Df (Df (Df (Df Ase))))))))) (Aj (Bxk (Df (Fc (Fc (Fc (Fc (Df (Df (Df Ase))))))))) (Aj (Bxk (Df (Df (Fc (Fc (Fc (Fc (Df (Df Ase))))))))) (Aj (Bxk (Df (Df (Df (Fc (Fc (Fc (Fc (Df Ase))))))))) (Aj (Bxk (Df (Df (Df (Df (Fc (Fc (Fc (Fc Ase))))))))) (Aj (Bxk (Df (Df (Df (Df (Df (Fc (Fc (Fc Asc))))))))) (Aj (σ':=z++(a2++(a5++(a1++(a3++(a0++(a4++((e,Res.obj (Obj.cells #[iV ((i+1):Nat)] 3 (0,0)))::((c,Res.obj (Obj.cells #[.nilIface] 85 (0,0)))::((d,Res.obj (Obj.cells #[pV r] 99 (0,0)))::((r,Res.obj (Obj.cells #[ab,iV L.l.most,ae,aa,ac,a8,ad,iV L.last] 101 (0,0)))::σ))))))))))) (Bxk (by first|exact Fe (a2++(a5++(a1++(a3++(a0++(a4++[(e,Res.obj (Obj.cells #[iV ((i+1):Nat)] 3 (0,0))),(c,Res.obj (Obj.cells #[.nilIface] 85 (0,0))),(d,Res.obj (Obj.cells #[pV r] 99 (0,0))),(r,Res.obj (Obj.cells #[ab,iV L.l.most,ae,aa,ac,a8,ad,iV L.last] 101 (0,0)))])))))) z σ|simpa only[lZ9,Ts,Xl,Bcr]using Fe (a2++(a5++(a1++(a3++(a0++(a4++[(e,Res.obj (Obj.cells #[iV ((i+1):Nat)] 3 (0,0))),(c,Res.obj (Obj.cells #[.nilIface] 85 (0,0))),(d,Res.obj (Obj.cells #[pV r] 99 (0,0))),(r,Res.obj (Obj.cells #[ab,iV L.l.most,ae,aa,ac,a8,ad,iV L.last] 101 (0,0)))])))))) z σ)) (Al ⟨R,_,rfl,.inl ⟨rfl,l1++[U],i+1,L,ab,a2,ae,a5,aa,a1,ac,a3,a8,a0,ad,a4,(by simp),rfl,(by rw[lZ2,p9_0];rfl),Big p9_1 ak.1 P,(Afn P p9_2 (by omega)).1,⟨(Afn P p9_2 (by omega)).2.1,(Afn P p9_2 (by omega)).2.2,by omega,by omega⟩,Fy (rfl) bk,Fy (rfl) bv,Fy (rfl) bj,Fy (rfl) bn,Fy (rfl) bh,Fy (rfl) y,trivial⟩⟩))))))))))))))
 ·rintro k16 ρ16 _ l16 ⟨l1,i,p,ov9_0c0,og9_0c0,ov9_0c2,og9_0c2,ov9_0c3,og9_0c3,ov9_0c4,og9_0c4,ov9_0c5,og9_0c5,ov9_0c6,og9_0c6,hpre16,rfl,p9_0,p9_1,p9_2,p9_3,OG9_0c0,OG9_0c2,OG9_0c3,OG9_0c4,OG9_0c5,OG9_0c6,_⟩
  obtain rfl:=Nf Azc hpre16
  apply k6
  refine Ai fun d5 c3=>Ai fun d6 c4=>?_
  obtain⟨bp,bq,br,bt⟩:=p9_3
  have a6:=Bmi p9_1 (Axm p9_0)
  refine Ox ((e,oC #[iV i] 3)::((c,oC #[.nilIface] 85)::((d,oC #[pV r] 99)::((r,oC #[ov9_0c0,iV p.l.most,ov9_0c2,ov9_0c3,ov9_0c4,ov9_0c5,ov9_0c6,iV p.last] 101)::[])))) [0,1,2,3,4,5,6] (by kernel_rfl) rfl rfl (Cu 0 (zT 1 6) rfl ⟨Bxm,sB⟩ rfl (Fl (v:=pV r) ⟨_,Bwi,rfl⟩ rfl (lZ5 _ (lZ5 _ mC)) rfl) (Cu 1 (zT 2 5) rfl ⟨Bxm,sB⟩ rfl (Yld.o (Ck rfl)) (Cu 2 (zT 3 4) rfl ⟨Bxm,sB⟩ rfl (Yld.o (Ce Buc rfl (Ab Btz))) (Cu 3 (zT 4 3) rfl ⟨Bxm,sB⟩ rfl (Fl (v:=iV p.last) ⟨_,Bty,rfl⟩ rfl (lZ5 _ (lZ5 _ (lZ5 _ mC))) rfl) (Dz 4 (zT 5 2) rfl ⟨Bxm,sB⟩ rfl (Yld.o (Dn (ns:=[]) (vs:=[]) (zc:=[]) (cs:=[]) Bwc Bjt rfl trivial (EvB.map trivial) rfl)) ⟨Bxm,sB⟩ (Nd 5 (zT 6 1) rfl rfl (Bm Aig Tryz.func90 rfl rfl ⟨rfl,trivial⟩ ⟨⟨Bxm,sB⟩,?_⟩)))))))
  refine Dz 6 (zT 7 0) rfl ⟨Bxm,sB⟩ rfl (Yld.o (Da rfl rfl)) ⟨Bxm,sB⟩ (Us rfl (kk c4 ?_))
  refine Bf (t:=decide (p.last<3)) rfl (fun af=>?_) (fun af=>?_)
  ·have cm:=lZ1 af
   refine Ai fun d7 c5=>?_
   have hP:=Axw (by omega) a6 (by omega)
   refine Ag rfl rfl ?_
   have cp:Val ρ16 (.agg #[iV 0,iV 3]) (⟨0,3⟩:Wrg):=Wrg.shut (x:=(⟨0,3⟩:Wrg)) (iC 0) (iC 3)
   refine l_v (Dn (ns:=[1,1]) (vs:=[(0,(iV 0)),(1,(iV 3))]) (zc:=Aga) (cs:=[iV 0,iV 3]) Bvb Agc rfl ⟨⟨_,Ab Btz,rfl⟩,⟨_,Ab Bvg,rfl⟩,trivial⟩ (EvB.map ⟨⟨rfl,rfl⟩,⟨rfl,rfl⟩,trivial⟩) ((Be (cs:=[iV 0]) rfl rfl nL).trans ((Be (cs:=[iV 3]) rfl rfl nL).trans rfl))) (Arv (Eb (v:=.agg #[iV 0,iV 3]) rfl fun ax=>?_))
   refine Bb (a:=(⟨0,3⟩:Wrg)) cp fun et J k=>?_
   replace OG9_0c0:=Bxl J OG9_0c0
   replace OG9_0c2:=Bxl J OG9_0c2
   replace OG9_0c3:=Bxl J OG9_0c3
   replace OG9_0c4:=Bxl J OG9_0c4
   replace OG9_0c5:=Bxl J OG9_0c5
   replace OG9_0c6:=Bxl J OG9_0c6
   refine l_v (Ge Bva rfl rfl) (Bj (Bxk (Pm (Gk (Gk (Gk (Gk (Gk (Gk Arz)))))))) (Cx rfl (Cz (j:=0) (v:=.iface 102 (pV ax)) ⟨_,Ab Bvi,rfl⟩ rfl rfl rfl rfl nL ?_)))
   refine l_k c5 (Aj (Bxk (Fc Asc)) (Hc OG9_0c0 fun eu K ee=>?_))
   replace OG9_0c2:=Bxl K OG9_0c2
   replace OG9_0c3:=Bxl K OG9_0c3
   replace OG9_0c4:=Bxl K OG9_0c4
   replace OG9_0c5:=Bxl K OG9_0c5
   replace OG9_0c6:=Bxl K OG9_0c6
   replace k:=At.mono K k
   refine Aj (Bxk (Fc Asc)) (Hc OG9_0c2 fun ev T ef=>?_)
   replace OG9_0c3:=Bxl T OG9_0c3
   replace OG9_0c4:=Bxl T OG9_0c4
   replace OG9_0c5:=Bxl T OG9_0c5
   replace OG9_0c6:=Bxl T OG9_0c6
   replace k:=At.mono T k
   refine Aj (Bxk (Fc Asc)) (Hc OG9_0c3 fun ew Y eg=>?_)
   replace OG9_0c4:=Bxl Y OG9_0c4
   replace OG9_0c5:=Bxl Y OG9_0c5
   replace OG9_0c6:=Bxl Y OG9_0c6
   replace k:=At.mono Y k
   refine Aj (Bxk (Fc Asc)) (Hc OG9_0c4 fun ex a7 eh=>?_)
   replace OG9_0c5:=Bxl a7 OG9_0c5
   replace OG9_0c6:=Bxl a7 OG9_0c6
   replace k:=At.mono a7 k
   refine Aj (Bxk (Fc Asc)) (Hc OG9_0c5 fun ey ao ei=>?_)
   replace OG9_0c6:=Bxl ao OG9_0c6
   replace k:=At.mono ao k
   refine Aj (Bxk (Fc Asc)) (Hc OG9_0c6 fun ez b1 ej=>?_)
   replace k:=At.mono b1 k
   refine Aj (Bxk (Pm Arz)) (Aj Bxi (Aj (Bxk (Pm Arz)) (Aj Bxi (Aj (Bxk (Pm Arz)) (Aj Bxi (Aj (Bxk Arz) (Aq (X _ _ _ _ _ _ [.iface 102 (pV ax)] ⟨Rj ⟨_,Buz,rfl⟩ rfl (i:=1) rfl rfl,trivial⟩ (Ghost.drop.trans Bxi) ⟨Bxn (Bxn (Bxn (Bxn (Bxn (Bxn (Bxn l16 J) K) T) Y) a7) ao) b1,.inl ⟨_,_,_,hP,rfl,k,rfl⟩⟩))))))))
  have cm:=lZ0 af
  refine Al (kk c3 ?_)
  refine Ai fun d8 c6=>Ai fun d9 c7=>?_
  have aj:¬p.last<3:=by omega
  obtain⟨dz,e0⟩:=Bpt (l:=p.l);obtain⟨e1,e2⟩:=Bbz (m:=p.m)
  refine Aj (Bxk Asc) (Hc OG9_0c0 fun f0 D u=>?_)
  replace OG9_0c2:=Bxl D OG9_0c2
  replace OG9_0c3:=Bxl D OG9_0c3
  replace OG9_0c4:=Bxl D OG9_0c4
  replace OG9_0c5:=Bxl D OG9_0c5
  replace OG9_0c6:=Bxl D OG9_0c6
  refine Aj (Bxk Asc) (Hc OG9_0c2 fun f1 E B=>?_)
  replace OG9_0c3:=Bxl E OG9_0c3
  replace OG9_0c4:=Bxl E OG9_0c4
  replace OG9_0c5:=Bxl E OG9_0c5
  replace OG9_0c6:=Bxl E OG9_0c6
  replace u:=Val.mono E u
  refine Aj (Bxk Asc) (Hc OG9_0c3 fun f2 F M=>?_)
  replace OG9_0c4:=Bxl F OG9_0c4
  replace OG9_0c5:=Bxl F OG9_0c5
  replace OG9_0c6:=Bxl F OG9_0c6
  replace u:=Val.mono F u
  replace B:=Val.mono F B
  refine Aj (Bxk Asc) (Hc OG9_0c4 fun f3 G Z=>?_)
  replace OG9_0c5:=Bxl G OG9_0c5
  replace OG9_0c6:=Bxl G OG9_0c6
  replace u:=Val.mono G u
  replace B:=Val.mono G B
  replace M:=Val.mono G M
  refine Aj (Bxk Asc) (Hc OG9_0c5 fun f4 H aq=>?_)
  replace OG9_0c6:=Bxl H OG9_0c6
  replace u:=Val.mono H u
  replace B:=Val.mono H B
  replace M:=Val.mono H M
  replace Z:=Val.mono H Z
  refine Aj (Bxk Asc) (Hc OG9_0c6 fun cz I cq=>?_)
  replace u:=Val.mono I u
  replace B:=Val.mono I B
  replace M:=Val.mono I M
  replace Z:=Val.mono I Z
  replace aq:=Val.mono I aq
  have cr:Val cz (.agg #[ov9_0c0,iV p.l.most,ov9_0c2,ov9_0c3,ov9_0c4,ov9_0c5,ov9_0c6,iV p.last]) (⟨(⟨p.l.kinds,p.l.most,p.l.tests⟩:Lab),(⟨p.m.houses,p.m.marks,p.m.fields,p.m.sales⟩:Market),p.last⟩:Rdg):=Rdg.shut (x:=(⟨(⟨p.l.kinds,p.l.most,p.l.tests⟩:Lab),(⟨p.m.houses,p.m.marks,p.m.fields,p.m.sales⟩:Market),p.last⟩:Rdg)) u (iC p.l.most) B M Z aq cq (iC p.last)
  refine Aj (Bxk (Pm (Pm (Pm Arz)))) (Nt (a:=(⟨p.l,p.m,p.last⟩:Rdg)) (v:=.agg #[ov9_0c0,iV p.l.most,ov9_0c2,ov9_0c3,ov9_0c4,ov9_0c5,ov9_0c6,iV p.last]) cr fun av ap N=>Ox ((e,oC #[iV i] 3)::((c,oC #[.nilIface] 85)::((d,oC #[pV r] 99)::[]))) [0,1,2,3,4,5,6,7,8,9,10,11,12] (by kernel_rfl) rfl rfl (Cu 0 (zT 1 12) rfl ⟨Bxm,sB⟩ rfl (Fl (v:=pV r) ⟨_,Bwi,rfl⟩ rfl (lZ5 _ (lZ5 _ mC)) rfl) (Cu 1 (zT 2 11) rfl ⟨Bxm,sB⟩ rfl (Yld.o (Hj rfl N)) (Ahn 2 (zT 3 10) rfl ⟨Bxm,sB⟩ rfl (Vo (Ba Rdg.f_l Buc rfl Zu N)) fun en ct=>Ahn 3 (zT 4 9) rfl ⟨Bxm,sB⟩ rfl (Vo (Ax Zu rfl ct)) fun eo cu=>Cu 5 [o1,o1,o1,o1,o0,o1,o0,o0,o0,o0,o0,o0,o0] rfl ⟨Bxm,sB⟩ rfl (Fl (v:=pV r) ⟨_,Bwi,rfl⟩ rfl (lZ5 _ (lZ5 _ mC)) rfl) (Cu 6 [o1,o1,o1,o1,o0,o1,o1,o0,o0,o0,o0,o0,o0] rfl ⟨Bxm,sB⟩ rfl (Yld.o (Hj rfl N)) (Ahn 7 [o1,o1,o1,o1,o0,o1,o1,o1,o0,o0,o0,o0,o0] rfl ⟨Bxm,sB⟩ rfl (Vo (Ba Rdg.f_m Buc rfl Ln N)) fun ep cv=>Ahn 8 [o1,o1,o1,o1,o0,o1,o1,o1,o1,o0,o0,o0,o0] rfl ⟨Bxm,sB⟩ rfl (Vo (Ax Ln rfl cv)) fun eq cw=>Cu 12 [o1,o1,o1,o1,o0,o1,o1,o1,o1,o0,o0,o0,o1] rfl ⟨Bxm,sB⟩ rfl (Yld.o (Ah (v:=iV 0) rfl)) (Nd 4 [o1,o1,o1,o1,o1,o1,o1,o1,o1,o0,o0,o0,o1] rfl rfl (Bm (Aaz cu) Tryz.func28 rfl rfl ⟨rfl,trivial⟩ ⟨⟨Bxm,sB⟩,?_⟩))))))))
  refine Nd 9 [o1,o1,o1,o1,o1,o1,o1,o1,o1,o1,o0,o0,o1] rfl rfl (Bm (Js cw) Tryz.func29 rfl rfl ⟨rfl,trivial⟩ ⟨⟨Bxm,sB⟩,?_⟩)
  refine Nd 10 [o1,o1,o1,o1,o1,o1,o1,o1,o1,o1,o1,o0,o1] rfl rfl (Bi (α:=Int) (xs:=[Gh p.l,Cf p.m]) (vs:=[iV (Gh p.l),iV (Cf p.m)]) Bwd ty31 Btq rfl (by decide) (Dk (os:=[.tmp 37,.tmp 42]) ⟨rfl,rfl,trivial⟩) ⟨Cv.2 ⟨rfl,by constructor<;>omega⟩,Cv.2 ⟨rfl,by constructor<;>omega⟩,trivial⟩ rfl (by decide) fun ay ba b7=>⟨⟨Bxm,sB⟩,?_⟩)
  have g:Grow av 33 (.slice (some ⟨ay,0,none⟩) 2 2) ([Gh p.l,Cf p.m]:List Int) [(ay,oC ba.toArray 33)]:=Bs b7 rfl (by decide)
  have dr:=Grow.len g
  refine Dz 11 (zT 13 0) rfl ⟨Bxm,sB⟩ rfl (Yld.o (Ajw (el':=33) Bwd rfl g)) ⟨Bxm,sB⟩ (Us rfl (kk c7 ?_))
  refine Ao (Wl (Im (w_q rfl rfl fun da c8=>l_v (Da rfl rfl) (Asa c8 fun db c9=>Co rfl (Hx (by simp only[lZ3,lZ7];omega)) (Al (kk c9 ?_))))))
  refine Ai fun dc ca=>Ao (w_q rfl rfl fun dd cb=>l_v (Nw 0 Bwd ty31.info rfl g (q:=0) rfl rfl (by first|omega|(simp only[lZ3,lZ7];omega)) rfl) ?_)
  obtain⟨b8,ag⟩:=Ed (xs:=([Gh p.l,Cf p.m]:List Int)) (i:=0) (by first|omega|(simp only[lZ3,lZ7];omega))
  have bf:b8=Gh p.l:=Option.some.inj ag.symm
  subst bf
  have⟨ds,dt⟩:=Atm g ag
  refine Abm ⟨Bxm,fun _ h=>h⟩ rfl (Avw g (fun p hp=>Sf _ hp) ag ⟨_,Bwq,rfl⟩ rfl rfl) (Au (iV (Gh p.l)) (Arx rfl rfl cb fun de cc=>Av (iV (Gh p.l)) (l_v (Dg rfl rfl) (l_k cc (Bf (t:=Gh p.l != 0) rfl (fun V=>?_) (fun V=>?_))))))
  ·have hlf:Gh p.l≠0:=Ls V
   have cn:=Ls V
   refine Ai fun df cd=>?_
   have hP:=Bdc (by omega) a6 aj hlf
   refine Ag rfl rfl (Av (iV (Gh p.l)) ?_)
   have cx:Val av (.agg #[iV 0,iV (Gh p.l)]) (⟨0,Gh p.l⟩:Wrg):=Wrg.shut (x:=(⟨0,Gh p.l⟩:Wrg)) (iC 0) (iC (Gh p.l))
   refine l_v (Dn (ns:=[1,1]) (vs:=[(0,(iV 0)),(1,(iV (Gh p.l)))]) (zc:=Aga) (cs:=[iV 0,iV (Gh p.l)]) Bvb Agc rfl ⟨⟨_,Ab Btz,rfl⟩,⟨_,Ab Bvg,rfl⟩,trivial⟩ (EvB.map ⟨⟨rfl,rfl⟩,⟨rfl,rfl⟩,trivial⟩) ((Be (cs:=[iV 0]) rfl rfl nL).trans ((Be (cs:=[iV (Gh p.l)]) rfl rfl nL).trans rfl))) (Arv (Eb (v:=.agg #[iV 0,iV (Gh p.l)]) rfl fun az=>?_))
   refine Bb (a:=(⟨0,Gh p.l⟩:Wrg)) cx fun f5 b2 ar=>?_
   replace g:=Bxl b2 g
   refine l_v (Ge Bva rfl rfl) (Bj (Bxk (Pm (Pm Arz))) (Cx rfl (Cz (j:=0) (v:=.iface 102 (pV az)) ⟨_,Ab Bvi,rfl⟩ rfl rfl rfl rfl nL ?_)))
   refine l_k cd (Aj (Bxk Arz) (Hc g fun f6 b3 ek=>?_))
   replace ar:=At.mono b3 ar
   refine Aj (Bxk (Pm Arz)) (Aj Bxi (Aj (Bxk (Pm Arz)) (Aj Bxi (Aj (Bxk Arz) (Aq (X _ _ _ _ _ _ [.iface 102 (pV az)] ⟨Rj ⟨_,Buz,rfl⟩ rfl (i:=1) rfl rfl,trivial⟩ (Ghost.drop.trans Bxi) ⟨Bxn (Bxn (Bxn (Bxn (Bxn (Bxn (Bxn (Bxn (Bxn l16 D) E) F) G) H) I) ap) b2) b3,.inl ⟨_,_,_,hP,rfl,ar,rfl⟩⟩))))))
  have hlf:Gh p.l=0:=Jh V
  have cn:=Jh V
  refine Al (kk ca ?_)
  refine Ag rfl rfl (l_v (Cw 1) (Av (iV 1) (Ac ?_)))
  refine Im (w_q rfl rfl fun dh ce=>l_v (Da rfl rfl) (Asa ce fun di cf=>Co rfl (Hx (by simp only[lZ3,lZ7];omega)) (Al (kk cf ?_))))
  refine Ai fun dj cg=>Ao (w_q rfl rfl fun dk ch=>l_v (Nw 1 Bwd ty31.info rfl g (q:=1) rfl rfl (by first|omega|(simp only[lZ3,lZ7];omega)) rfl) ?_)
  obtain⟨b9,ah⟩:=Ed (xs:=([Gh p.l,Cf p.m]:List Int)) (i:=1) (by first|omega|(simp only[lZ3,lZ7];omega))
  have bg:b9=Cf p.m:=Option.some.inj ah.symm
  subst bg
  have⟨du,dv⟩:=Atm g ah
  refine Abm ⟨Bxm,fun _ h=>h⟩ rfl (Avw g (fun p hp=>Sf _ hp) ah ⟨_,Bwq,rfl⟩ rfl rfl) (Au (iV (Cf p.m)) (Arx rfl rfl ch fun dl ci=>Av (iV (Cf p.m)) (l_v (Dg rfl rfl) (l_k ci (Bf (t:=Cf p.m != 0) rfl (fun W=>?_) (fun W=>?_))))))
  ·have hmf:Cf p.m≠0:=Ls W
   have co:=Ls W
   refine Ai fun dm cj=>?_
   have hP:=Arg (by omega) a6 aj hlf hmf
   refine Ag rfl rfl (Av (iV (Cf p.m)) ?_)
   have cy:Val av (.agg #[iV 0,iV (Cf p.m)]) (⟨0,Cf p.m⟩:Wrg):=Wrg.shut (x:=(⟨0,Cf p.m⟩:Wrg)) (iC 0) (iC (Cf p.m))
   refine l_v (Dn (ns:=[1,1]) (vs:=[(0,(iV 0)),(1,(iV (Cf p.m)))]) (zc:=Aga) (cs:=[iV 0,iV (Cf p.m)]) Bvb Agc rfl ⟨⟨_,Ab Btz,rfl⟩,⟨_,Ab Bvg,rfl⟩,trivial⟩ (EvB.map ⟨⟨rfl,rfl⟩,⟨rfl,rfl⟩,trivial⟩) ((Be (cs:=[iV 0]) rfl rfl nL).trans ((Be (cs:=[iV (Cf p.m)]) rfl rfl nL).trans rfl))) (Arv (Eb (v:=.agg #[iV 0,iV (Cf p.m)]) rfl fun b0=>?_))
   refine Bb (a:=(⟨0,Cf p.m⟩:Wrg)) cy fun f7 b4 au=>?_
   replace g:=Bxl b4 g
   refine l_v (Ge Bva rfl rfl) (Bj (Bxk (Pm (Pm Arz))) (Cx rfl (Cz (j:=0) (v:=.iface 102 (pV b0)) ⟨_,Ab Bvi,rfl⟩ rfl rfl rfl rfl nL ?_)))
   refine l_k cj (Aj (Bxk Arz) (Hc g fun f8 b5 el=>?_))
   replace au:=At.mono b5 au
   refine Aj (Bxk (Pm Arz)) (Aj Bxi (Aj (Bxk (Pm Arz)) (Aj Bxi (Aj (Bxk Arz) (Aq (X _ _ _ _ _ _ [.iface 102 (pV b0)] ⟨Rj ⟨_,Buz,rfl⟩ rfl (i:=1) rfl rfl,trivial⟩ (Ghost.drop.trans Bxi) ⟨Bxn (Bxn (Bxn (Bxn (Bxn (Bxn (Bxn (Bxn (Bxn l16 D) E) F) G) H) I) ap) b4) b5,.inl ⟨_,_,_,hP,rfl,au,rfl⟩⟩))))))
  have hmf:Cf p.m=0:=Jh W
  have co:=Jh W
  refine Al (kk cg ?_)
  refine Ag rfl rfl (l_v (Cw 2) (Av (iV 2) (Ac ?_)))
  refine Im (w_q rfl rfl fun dn ck=>l_v (Da rfl rfl) (Asa ck fun dp ec=>Cg rfl (Hn (by simp only[lZ3,lZ7];omega)) (Bx (kk c6 ?_))))
  refine Ai fun dq cl=>?_
  have hP:=Axx (by omega) a6 aj hlf hmf
  refine Ag rfl rfl (Bj (Bxk (Pm (Pm Arz))) (Cx rfl (Cz (j:=0) (v:=.nilIface) ⟨_,Ab Bvi,rfl⟩ rfl rfl rfl rfl nL ?_)))
  refine l_k cl (Aj (Bxk Arz) (Hc g fun f9 b6 em=>?_))
  replace N:=At.mono b6 N
  refine Aj (Bxk (Pm Arz)) (Aj Bxi (Aj (Bxk (Pm Arz)) (Aj Bxi (Aj (Bxk Arz) (Aq (X _ _ _ _ _ _ [.nilIface] ⟨Rj ⟨_,Buz,rfl⟩ rfl (i:=1) rfl rfl,trivial⟩ (Ghost.drop.trans Bxi) ⟨Bxn (Bxn (Bxn (Bxn (Bxn (Bxn (Bxn (Bxn l16 D) E) F) G) H) I) ap) b6,.inr ⟨p,hP,rfl,N,rfl⟩⟩))))))
 ·rintro k73 ρ73 _ l73 ⟨f73,i73,ve73,rfl,hP73,hA73⟩
  refine X _ _ _ _ _ _ [.iface 102 ve73] ⟨Rj ⟨_,Buz,rfl⟩ rfl (i:=1) rfl rfl,trivial⟩ (Ghost.drop.trans Bxi) ⟨l73,.inl ⟨_,_,_,hP73,rfl,hA73,rfl⟩⟩
end
section
open Go Go.Extern Go.Extern.Rtype
theorem pk1:Tryz.prog.packed 1244=false:=by kernel_rfl
theorem pk2:Tryz.prog.packed 1241=false:=by kernel_rfl
theorem pk3:Tryz.prog.packed 1226=false:=by kernel_rfl
theorem mp1:Tryz.prog.methodsOfAPack Tryz.prog.depth 102=false:=by kernel_rfl
theorem mp2:Tryz.prog.methodsOfAPack Tryz.prog.depth 85=false:=by kernel_rfl
theorem ct1:∃n,Tryz.prog.cutTypes.find? (·.1 == "internal/reflectlite.rtype")=some (n,218):=⟨ "internal/reflectlite.rtype",by kernel_rfl⟩
theorem ki1:∃i,Tryz.prog.info? 105=some i∧i.desc = .pointer 102:=⟨_,Ab Tryz.typeInfo105,rfl⟩
theorem ki2:∃i,Tryz.prog.info? 102=some i∧i.desc = .pointer 107:=⟨_,Ab Bvr,rfl⟩
section
variable{P:Program}{ρ:Ro}{σ:Own}{t:TypeId}{v:Value}
theorem Alp{Q:Value→Own→Prop}(h:Q (typeHandle P t) σ):wpS P ρ (handle t) σ Q:=by
 show wpS P ρ ((program).bind _) σ Q
 rw[Ad];exact h
theorem Tc{Q:TypeId→Own→Prop}(h:Q t σ):wpS P ρ (ofHandle (typeHandle P t)) σ Q:=by
 show wpS P ρ ((program).bind _) σ Q
 rw[Ad]
 show wpS P ρ (match handleType P (typeHandle P t) with|some t=>_|none=>_) σ Q
 have e:handleType P (typeHandle P t)=some t:=by simp[handleType,typeHandle]
 rw[e];exact h
theorem Ue{w:String}{Q:Unit→Own→Prop}(hp:P.packed t=false)(h:Q () σ):wpS P ρ (noPack w t) σ Q:=by
 show wpS P ρ ((program).bind _) σ Q
 rw[Ad]
 show wpS P ρ (if P.packed t=true then _ else _) σ Q
 rw[hp];exact h
theorem Si{w:String}{Q:Unit→Own→Prop}(hp:P.methodsOfAPack P.depth t=false)(h:Q () σ):wpS P ρ (noPackMethods w t) σ Q:=by
 show wpS P ρ ((program).bind _) σ Q
 rw[Ad]
 show wpS P ρ ((program).bind _) σ _
 rw[Ad]
 show wpS P ρ (if P.methodsOfAPack P.depth t=true then _ else _) σ Q
 rw[hp];exact h
theorem Uf{e:TypeId}{Q:TypeId×TypeInfo→Own→Prop}(hi:∃i,P.info? t=some i∧i.desc = .pointer e)(h:∀i:TypeInfo,i.desc = .pointer e→Q (t,i) σ):wpS P ρ (under t) σ Q:=by
 obtain⟨i,b,a⟩:=hi
 show wpS P ρ ((typeInfo t).bind _) σ Q
 rw[Ad]
 refine Gj b ?_
 show wpS P ρ (match i.desc with | .named _ u=>_|_=>_) σ Q
 rw[a];exact h i a
theorem Apr{e:TypeId}{Q:Nat→Own→Prop}(hi:∃i,P.info? t=some i∧i.desc = .pointer e)(h:Q 22 σ):wpS P ρ (kind t) σ Q:=by
 show wpS P ρ ((under t).bind _) σ Q
 rw[Ad]
 refine Uf hi fun i hd=>?_
 show wpS P ρ (match i.desc with|_=>_) σ Q
 simp only[hd];exact h
theorem App{e:TypeId}{Q:Option TypeId→Own→Prop}(hi:∃i,P.info? t=some i∧i.desc = .pointer e)(h:Q (some e) σ):wpS P ρ (elem? t) σ Q:=by
 show wpS P ρ ((under t).bind _) σ Q
 rw[Ad]
 refine Uf hi fun i hd=>?_
 show wpS P ρ (match i.desc with | .array _ e | .chan _ e | .map _ e | .pointer e | .slice e=>_|_=>_) σ Q
 simp only[hd];exact h
theorem Acj{rt:TypeId}{Q:Value→Own→Prop}(hc:∃n,P.cutTypes.find? (·.1 == "internal/reflectlite.rtype")=some (n,rt))(h:Q (.iface rt (.agg #[typeHandle P t])) σ):wpS P ρ (ReflectliteType.toType t) σ Q:=by
 obtain⟨n,hn⟩:=hc
 show wpS P ρ ((cutType "internal/reflectlite.rtype").bind _) σ Q
 rw[Ad]
 show wpS P ρ ((program).bind _) σ _
 rw[Ad]
 show wpS P ρ (match P.cutTypes.find? (·.1 == "internal/reflectlite.rtype") with|some (_,t)=>_|none=>_) σ _
 rw[hn]
 show wpS P ρ ((handle t).bind _) σ Q
 rw[Ad]
 exact Alp h
/-- A reflectlite.Value of a pointer's type. -/
def Qw(P:Program)(t:TypeId)(a:Addr)(k:Int):Value:=.agg #[typeHandle P t,.pointer (some a),.int .u64 k]
theorem Bjg{e:TypeId}{a:Addr}{Q:Value→Own→Prop}(fl:Nat)(k:Int)(hi:∃i,P.info? t=some i∧i.desc = .pointer e)(hk:Int.ofNat (22+128+fl)=k)(h:Q (Qw P t a k) σ):wpS P ρ (ReflectliteValue.mk t a fl) σ Q:=by
 show wpS P ρ ((handle t).bind _) σ Q
 rw[Ad]
 refine Alp ?_
 show wpS P ρ ((kind t).bind _) σ Q
 rw[Ad]
 subst hk
 exact Apr hi h
theorem Alv{e:TypeId}{p:Option Addr}{Q:Value→Own→Prop}(hi:∃i,P.info? t=some i∧i.desc = .pointer e)(h:∀r,Q (Qw P t ⟨r,0,none⟩ 150) ((r,.obj (.cells #[.pointer p] t (0,0)))::σ)):wpS P ρ (ReflectliteValue.unpack (.iface t (.pointer p))) σ Q:=by
 show wpS P ρ ((newVar t (.pointer p)).bind _) σ Q
 rw[Ad]
 exact Ik fun r=>Bjg 0 150 hi rfl (h r)
theorem Bau{a:Addr}{Q:Option (TypeId×Addr×Nat)→Own→Prop}(h:Q (some (t,a,150)) σ):wpS P ρ (ReflectliteValue.partsAny (Qw P t a 150)) σ Q:=by
 show wpS P ρ ((ofHandle (typeHandle P t)).bind _) σ Q
 rw[Ad]
 exact Tc h
theorem Bng{a:Addr}{Q:Option (TypeId×Addr×Nat)→Own→Prop}(h:Q (some (t,a,406)) σ):wpS P ρ (ReflectliteValue.partsAny (Qw P t a 406)) σ Q:=by
 show wpS P ρ ((ofHandle (typeHandle P t)).bind _) σ Q
 rw[Ad]
 exact Tc h
theorem Ach{a:Addr}{Q:Option (TypeId×Addr×Nat)→Own→Prop}(hp:P.packed t=false)(h:Q (some (t,a,150)) σ):wpS P ρ (ReflectliteValue.parts (Qw P t a 150)) σ Q:=by
 show wpS P ρ ((ReflectliteValue.partsAny (Qw P t a 150)).bind _) σ Q
 rw[Ad]
 refine Bau ?_
 show wpS P ρ ((noPack _ t).bind _) σ Q
 rw[Ad]
 exact Ue hp h
theorem Ayr{a:Addr}{Q:Option (TypeId×Addr×Nat)→Own→Prop}(hp:P.packed t=false)(h:Q (some (t,a,406)) σ):wpS P ρ (ReflectliteValue.parts (Qw P t a 406)) σ Q:=by
 show wpS P ρ ((ReflectliteValue.partsAny (Qw P t a 406)).bind _) σ Q
 rw[Ad]
 refine Bng ?_
 show wpS P ρ ((noPack _ t).bind _) σ Q
 rw[Ad]
 exact Ue hp h
/-- A pointer in a variable,owned or only read. -/
theorem Afu{e r:TypeId}{p:Option Addr}{Q:Value→Own→Prop}(hT:P.underlying t=some (.pointer e))(hh:Has ρ σ r (.cells #[.pointer p] t (0,0)))(h:Q (.pointer p) σ):wpS P ρ (loadVar t ⟨r,0,none⟩) σ Q:=by
 show wpS P ρ ((isAgg t).bind _) σ Q
 rw[Ad]
 refine Hi (a:=false) ⟨_,hT,rfl⟩ ?_
 exact⟨rfl,rfl,_,_,hh,rfl,h⟩
theorem Bji{rt:TypeId}{a:Addr}{z:Sem Value}{Q:Value→Own→Prop}(hc:∃n,P.cutTypes.find? (·.1 == "internal/reflectlite.rtype")=some (n,rt))(h:Q (.iface rt (.agg #[typeHandle P t])) σ) :
  wpS P ρ (ReflectliteValue.methodAny z (fun t _ _ _=>ReflectliteType.toType t) #[Qw P t a 150]) σ Q:=by
 show wpS P ρ ((ReflectliteValue.partsAny (Qw P t a 150)).bind _) σ Q
 rw[Ad]
 refine Bau ?_
 exact Acj hc h
theorem Bdx{e r:TypeId}{p:Addr}{z:Sem Value}{Q:Value→Own→Prop}(hp:P.packed t=false)(hT:P.underlying t=some (.pointer e))(hh:Has ρ σ r (.cells #[.pointer (some p)] t (0,0)))(h:Q (.bool false) σ) :
  wpS P ρ (ReflectliteValue.method z ReflectliteValue.isNil #[Qw P t ⟨r,0,none⟩ 150]) σ Q:=by
 show wpS P ρ ((ReflectliteValue.parts (Qw P t ⟨r,0,none⟩ 150)).bind _) σ Q
 rw[Ad]
 refine Ach hp ?_
 show wpS P ρ ((loadVar t ⟨r,0,none⟩).bind _) σ Q
 rw[Ad]
 exact Afu hT hh h
theorem Bje{e r:TypeId}{p:Addr}{z:Sem Value}{Q:Value→Own→Prop}(hp:P.packed t=false)(hT:P.underlying t=some (.pointer e))(hi:∃i,P.info? t=some i∧i.desc = .pointer e){e':TypeId}(hi':∃i,P.info? e=some i∧i.desc = .pointer e')(hh:Has ρ σ r (.cells #[.pointer (some p)] t (0,0)))(h:Q (Qw P e p 406) σ) :
  wpS P ρ (ReflectliteValue.method z ReflectliteValue.elem #[Qw P t ⟨r,0,none⟩ 150]) σ Q:=by
 show wpS P ρ ((ReflectliteValue.parts (Qw P t ⟨r,0,none⟩ 150)).bind _) σ Q
 rw[Ad]
 refine Ach hp ?_
 show wpS P ρ ((loadVar t ⟨r,0,none⟩).bind _) σ Q
 rw[Ad]
 refine Afu hT hh ?_
 show wpS P ρ ((elem? t).bind _) σ Q
 rw[Ad]
 refine App hi ?_
 exact Bjg 256 406 hi' rfl h
theorem Ayt{rt:TypeId}{Q:Value→Own→Prop}(hc:∃n,P.cutTypes.find? (·.1 == "internal/reflectlite.rtype")=some (n,rt))(h:Q (.iface rt (.agg #[typeHandle P t])) σ):wpS P ρ (ReflectliteType.typeOf #[.iface t v]) σ Q:=Acj hc h
theorem Sl{Q:TypeId→Own→Prop}(hp:P.packed t=false)(h:Q t σ):wpS P ρ (ReflectliteType.ofRtype (.agg #[typeHandle P t])) σ Q:=by
 show wpS P ρ ((ofHandle (typeHandle P t)).bind _) σ Q
 rw[Ad]
 refine Tc ?_
 show wpS P ρ ((noPack _ t).bind _) σ Q
 rw[Ad]
 exact Ue hp h
theorem Bdy{e rt:TypeId}{Q:Value→Own→Prop}(hp:P.packed t=false)(hi:∃i,P.info? t=some i∧i.desc = .pointer e)(hc:∃n,P.cutTypes.find? (·.1 == "internal/reflectlite.rtype")=some (n,rt))(h:Q (.iface rt (.agg #[typeHandle P e])) σ) :
  wpS P ρ (ReflectliteType.method ReflectliteType.elem #[.agg #[typeHandle P t]]) σ Q:=by
 show wpS P ρ ((ReflectliteType.ofRtype (.agg #[typeHandle P t])).bind _) σ Q
 rw[Ad]
 refine Sl hp ?_
 show wpS P ρ ((elem? t).bind _) σ Q
 rw[Ad]
 refine App hi ?_
 exact Acj hc h
theorem Apn{e:TypeId}{Q:Value→Own→Prop}(hp:P.packed t=false)(hi:∃i,P.info? t=some i∧i.desc = .pointer e)(h:Q (.int .u8 22) σ) :
  wpS P ρ (ReflectliteType.abiMethod (fun t=>do pure (.int .u8 (←kind t))) #[typeHandle P t]) σ Q:=by
 show wpS P ρ ((ofHandle (typeHandle P t)).bind _) σ Q
 rw[Ad]
 refine Tc ?_
 show wpS P ρ ((noPack _ t).bind _) σ Q
 rw[Ad]
 refine Ue hp ?_
 show wpS P ρ ((kind t).bind _) σ Q
 rw[Ad]
 exact Apr hi h
theorem Aef{Q:Bool→Own→Prop}(h:Q true σ):wpS P ρ (directlyAssignable t t) σ Q:=by
 unfold directlyAssignable
 rw[if_pos (by simp)]
 exact h
theorem Ayq{e:TypeId}{Q:Bool→Own→Prop}(hm:P.methodsOfAPack P.depth t=false)(hi:∃i,P.info? t=some i∧i.desc = .pointer e)(h:Q false σ):wpS P ρ (implements t t) σ Q:=by
 show wpS P ρ ((noPackMethods _ t).bind _) σ Q
 rw[Ad]
 refine Si hm ?_
 show wpS P ρ ((noPackMethods _ t).bind _) σ Q
 rw[Ad]
 refine Si hm ?_
 show wpS P ρ ((under t).bind _) σ Q
 rw[Ad]
 refine Uf hi fun i hd=>?_
 show wpS P ρ ((under t).bind _) σ Q
 rw[Ad]
 refine Uf hi fun j hd'=>?_
 simp only[hd,hd']
 exact h
/-- An interface by its name. -/
def Boi(P:Program)(u:TypeId)(want:Array (String×TypeId)):Prop:=∃i n w j,P.info? u=some i∧i.desc = .named n w∧P.info? w=some j∧j.desc = .interface want
theorem Alu{u:TypeId}{want:Array (String×TypeId)}{Q:TypeId×TypeInfo→Own→Prop}(hi:Boi P u want)(h:∀(w:TypeId) (j:TypeInfo),j.desc = .interface want→Q (w,j) σ):wpS P ρ (under u) σ Q:=by
 obtain⟨i,n,w,j,a,b,c,d⟩:=hi
 show wpS P ρ ((typeInfo u).bind _) σ Q
 rw[Ad]
 refine Gj a ?_
 show wpS P ρ (match i.desc with | .named _ u=>_|_=>_) σ Q
 rw[b]
 show wpS P ρ ((typeInfo w).bind _) σ Q
 rw[Ad]
 exact Gj c (h w j d)
theorem Bjf{e u rt:TypeId}{want:Array (String×TypeId)}{Q:Value→Own→Prop}(hp:P.packed t=false)(hpu:P.packed u=false)(hm:P.methodsOfAPack P.depth t=false)(hmu:P.methodsOfAPack P.depth u=false)(hi:∃i,P.info? t=some i∧i.desc = .pointer e∧(Instr.missingMethod want i.methods).isNone=true)(hu:Boi P u want)(h:Q (.bool true) σ) :
  wpS P ρ (ReflectliteType.relation "Implements" ReflectliteType.implements_ #[.agg #[typeHandle P t],.iface rt (.agg #[typeHandle P u])]) σ Q:=by
 obtain⟨it,hit,hid,him⟩:=hi
 show wpS P ρ ((ReflectliteType.ofRtype (.agg #[typeHandle P u])).bind _) σ Q
 rw[Ad]
 refine Sl hpu ?_
 show wpS P ρ ((ReflectliteType.ofRtype (.agg #[typeHandle P t])).bind _) σ Q
 rw[Ad]
 refine Sl hp ?_
 show wpS P ρ ((ReflectliteType.implements_ u t).bind _) σ Q
 rw[Ad]
 show wpS P ρ (((under u).bind _).bind _) σ _
 rw[Ad,Ad]
 refine Alu hu fun w j hj=>?_
 simp only[hj]
 show wpS P ρ ((noPackMethods _ t).bind _) σ _
 rw[Ad]
 refine Si hm ?_
 show wpS P ρ ((noPack _ u).bind _) σ _
 rw[Ad]
 refine Ue hpu ?_
 show wpS P ρ ((noPackMethods _ t).bind _) σ _
 rw[Ad]
 refine Si hm ?_
 show wpS P ρ ((noPackMethods _ u).bind _) σ _
 rw[Ad]
 refine Si hmu ?_
 show wpS P ρ ((under u).bind _) σ _
 rw[Ad]
 refine Alu hu fun w' j' hj'=>?_
 show wpS P ρ ((under t).bind _) σ _
 rw[Ad]
 refine Uf ⟨it,hit,hid⟩ fun k hk=>?_
 simp only[hj',hk]
 show wpS P ρ ((typeInfo t).bind _) σ _
 rw[Ad]
 refine Gj hit ?_
 rw[him]
 exact h
theorem Ayo{Q:Value→Own→Prop}{rt e:TypeId}(hp:P.packed t=false)(hm:P.methodsOfAPack P.depth t=false)(hi:∃i,P.info? t=some i∧i.desc = .pointer e)(h:Q (.bool true) σ) :
  wpS P ρ (ReflectliteType.relation "AssignableTo" ReflectliteType.assignableTo #[.agg #[typeHandle P t],.iface rt (.agg #[typeHandle P t])]) σ Q:=by
 show wpS P ρ ((ReflectliteType.ofRtype (.agg #[typeHandle P t])).bind _) σ Q
 rw[Ad]
 refine Sl hp ?_
 show wpS P ρ ((ReflectliteType.ofRtype (.agg #[typeHandle P t])).bind _) σ Q
 rw[Ad]
 refine Sl hp ?_
 show wpS P ρ ((ReflectliteType.assignableTo t t).bind _) σ Q
 rw[Ad]
 unfold ReflectliteType.assignableTo
 rw[if_neg (by simp)]
 show wpS P ρ ((directlyAssignable t t).bind _) σ _
 rw[Ad]
 refine Aef ?_
 show wpS P ρ ((implements t t).bind _) σ _
 rw[Ad]
 exact Ayq hm hi h
theorem Ays{r i:Nat}{p p':Option Addr}{Q:Unit→Own→Prop}{k:TypeId}(hz:∃i,P.info? t=some i∧i.size=1)(hi:σ[i]?=some (r,.obj (.cells #[.pointer p] k (0,0))))(h:Q () (σ.set i (r,.obj (.cells #[.pointer p'] k (0,0))))):wpS P ρ (storeVar t ⟨r,0,none⟩ (.pointer p')) σ Q:=by
 show wpS P ρ ((sizeOf t).bind _) σ Q
 rw[Ad]
 refine Dx hz ?_
 show wpS P ρ (if (Value.pointer p').cells.size≠1 then _ else _) σ Q
 rw[if_neg (by simp[Value.cells])]
 exact Ns (t:=k) (r:=r) (i:=i) [.pointer p'] ⟨r,0,none⟩ 0 [.pointer p] σ rfl rfl (fun v hv=>by rw[Qp.1 hv];rfl) hi (by simp) h
/-- A pointer of the same type is set. -/
theorem Bnh{rs i:Nat}{r:Nat}{p p':Option Addr}{e:TypeId}{k:TypeId}{Q:Value→Own→Prop}(hp:P.packed t=false)(hT:P.underlying t=some (.pointer e))(hz:∃i,P.info? t=some i∧i.size=1)(hs:Has ρ σ rs (.cells #[.pointer p'] t (0,0)))(hi:σ[i]?=some (r,.obj (.cells #[.pointer p] k (0,0))))(h:Q (.tuple #[]) (σ.set i (r,.obj (.cells #[.pointer p'] k (0,0))))) :
  wpS P ρ (ReflectliteValue.set #[Qw P t ⟨r,0,none⟩ 406,Qw P t ⟨rs,0,none⟩ 150]) σ Q:=by
 show wpS P ρ ((ReflectliteValue.parts (Qw P t ⟨r,0,none⟩ 406)).bind _) σ Q
 rw[Ad]
 refine Ayr hp ?_
 show wpS P ρ ((ReflectliteValue.parts (Qw P t ⟨rs,0,none⟩ 150)).bind _) σ Q
 rw[Ad]
 refine Ach hp ?_
 show wpS P ρ ((loadVar t ⟨rs,0,none⟩).bind _) σ Q
 rw[Ad]
 refine Afu hT hs ?_
 show wpS P ρ ((directlyAssignable t t).bind _) σ Q
 rw[Ad]
 refine Aef ?_
 show wpS P ρ ((storeVar t ⟨r,0,none⟩ (.pointer p')).bind _) σ Q
 rw[Ad]
 exact Ays hz hi h
end
end
section
open Go Go.Extern Go.Extern.Rtype
theorem Avr{P:Program}{ρ:Ro}{σ:Own}{n:Nat}{name:String}{t e:TypeId}{i:TypeInfo}{m:Method}{s:FieldStep}{fs:Array Field}{fd:Field}{cs:Array Value}{v:Value}{f:FuncId}{Q:FuncId×Value→Own→Prop}(hi:P.info? t=some i)(hm:i.methods.find? (·.name==name)=some m)(hp:m.path.toList=[s])(hd:s.deref=false)(hS:P.underlying s.struct=some (.struct fs))(hfd:fs[s.index]?=some fd)
  (hF:P.underlying fd.type=some (.pointer e)) (hc:cs[fd.offset]?=some v) (hf:m.func=some (f,true)) (h:Q (f,v) σ):wpS P ρ (method (n+1) t (.agg cs) name) σ Q:=by
 show wpS P ρ ((typeInfo t).bind _) σ Q
 rw[Ad]
 refine Gj hi ?_
 simp only[hm]
 rw[hp]
 show wpS P ρ ((follow [s] t (.val (.agg cs))).bind _) σ Q
 rw[Ad]
 show wpS P ρ ((underlying s.struct).bind _) σ _
 rw[Ad]
 refine Az hS ?_
 simp only[hfd,hd]
 show wpS P ρ ((part fd.type cs fd.offset).bind _) σ _
 rw[Ad]
 refine Qr ⟨_,hF,rfl⟩ hc ?_
 show wpS P ρ (match m.func with|none=>_|some (f,pointerReceiver)=>_) σ Q
 rw[hf]
 show wpS P ρ ((receiverAt fd.type (.val v) true _).bind _) σ Q
 rw[Ad]
 show wpS P ρ ((underlying fd.type).bind _) σ _
 rw[Ad]
 refine Az hF ?_
 exact h
theorem Ali{C:Ctx}{e:Env}{ds:List Deferred}{ρ:Ro}{σ:Own}{K:Value→List Deferred→Ro→Own→Prop}{rd:Option Nat}{dd:Option Tmp}{ty:TypeId}{pos:String}{af:Array Edge}{g:Option (Nat×Bool)}{x:Operand}{t:TypeId}{v v':Value}
  {name:String} {f:FuncId} {fn:Func} {G:Array Value→Sem Value} {args:List Operand} {tys:Array TypeId} {vs:List Value}
  (hm:∀Q:FuncId×Value→Own→Prop,Q (f,v') σ→wpS C.P ρ (method (C.P.types.size+Made.depth) t v name) σ Q) (hf:C.P.funcs[f]?=some fn) (hn:(fn.name == "runtime.NumGoroutine")=false) (hb:fn.body.isNone=true) (hx0:Extern.findNext fn=none) (he:Extern.find fn=some G)
  (hx:Af e x = .iface t v) (hv:EvL e args vs) (h:wpS C.P ρ (G (v'::vs).toArray) σ (fun v σ'=>K v ds ρ σ')):wpS C.P ρ (execOp (Af e) ⟨dd,.call ⟨.invoke x name,args.toArray,tys⟩,ty,pos,af,g⟩) σ (NextH C K rd ds ρ):=by
 rw[Agl hx hv]
 show wpS C.P ρ ((program).bind _) σ _
 rw[Ad]
 show wpS C.P ρ ((method (C.P.types.size+Made.depth) t v name).bind _) σ _
 rw[Ad]
 refine hm _ ?_
 have a:(#[v']++vs.toArray)=(v'::vs).toArray:=by simp
 show wpS C.P ρ (callFunc f (#[v']++vs.toArray)) σ _
 rw[a]
 exact Bat hf hn hb hx0 he h
section
variable{ρ:Ro}{σ:Own}{h:Value}{Q:FuncId×Value→Own→Prop}
theorem Bhi(hq:Q (219,h) σ):wpS Tryz.prog ρ (method (Tryz.prog.types.size+Made.depth) 218 (.agg #[h]) "Kind") σ Q :=
 Avr (Ab Bwl) rfl rfl rfl Bwf rfl Tryz.underlying17 rfl rfl hq
theorem Bpw(hq:Q (231,.agg #[h]) σ):wpS Tryz.prog ρ (method (Tryz.prog.types.size+Made.depth) 218 (.agg #[h]) "Elem") σ Q :=
 Ig (Ab Bwl) rfl rfl rfl Bwf rfl hq
theorem Bpx(hq:Q (232,.agg #[h]) σ):wpS Tryz.prog ρ (method (Tryz.prog.types.size+Made.depth) 218 (.agg #[h]) "Implements") σ Q :=
 Ig (Ab Bwl) rfl rfl rfl Bwf rfl hq
theorem Bhh(hq:Q (229,.agg #[h]) σ):wpS Tryz.prog ρ (method (Tryz.prog.types.size+Made.depth) 218 (.agg #[h]) "AssignableTo") σ Q :=
 Ig (Ab Bwl) rfl rfl rfl Bwf rfl hq
end
theorem Brm:Fw Tryz.prog 177 (.agg #[.pointer none,.pointer none,.int .u64 0]):=⟨_,Ab Bvl,rfl⟩
theorem Blr:∃want,Boi Tryz.prog 85 want∧∃i,Tryz.prog.info? 102=some i∧i.desc = .pointer 107∧(Instr.missingMethod want i.methods).isNone=true :=
 ⟨_,⟨_,_,_,_,Ab Bvi,rfl,Ab Tryz.typeInfo84,rfl⟩,_,Ab Bvr,rfl,by kernel_rfl⟩
end
section
open Go
variable{mn:Bool}{X:Frame→List Frame→Ro→Own→Cy→Prop}{ρ:Ro}{σ:Own}
theorem Btb{kw kv:Nat}{pe:Addr} :CallsH (CX mn X) 94 #[.iface 102 (.pointer (some pe)),.iface 105 (pV kw),.agg #[typeHandle Tryz.prog 105,pV kv,.int .u64 150],.iface 218 (.agg #[typeHandle Tryz.prog 102])] ρ ((kw,oC #[.pointer none] 102)::((kv,oC #[pV kw] 105)::σ)) (fun w ρ' σ'=>ρ'=ρ∧w = .bool true∧σ'=(kw,oC #[.pointer (some pe)] 102)::σ):=by
 refine Bq 62 [8] Tryz.func94 rfl fun Q a l=>w_q rfl rfl fun f b=>Arv (Eb (v:=.agg #[typeHandle Tryz.prog 105,pV kv,.int .u64 150]) rfl fun m=>?_)
 refine Au bF (l_k b (Ao (Wl (Im (Ao (Asb rfl rfl fun g h n c=>Av (.iface 102 (.pointer (some pe))) (Arv (Agw Tryz.func122 rfl rfl rfl rfl (Agn rfl) <| Ayt ct1 ?_))))))))
 refine Av (.iface 218 (.agg #[typeHandle Tryz.prog 102])) (Arv (Ali (vs:=[.iface 218 (.agg #[typeHandle Tryz.prog 102])]) (fun Q hq=>Bhh hq) Tryz.func229 rfl rfl rfl rfl rfl ⟨rfl,trivial⟩ <| Ayo pk2 mp1 ki2 ?_))
 refine l_k c (Co rfl rfl (w_q rfl rfl fun j d=>Arv (Xo (i:=0) (cs:=[typeHandle Tryz.prog 105,pV kv,.int .u64 150]) (rs:=[]) ⟨_,Bwe,rfl⟩ ⟨_,Ab Bvl,rfl⟩ rfl rfl rfl rfl ?_)))
 refine Arv (Agw Tryz.func123 rfl rfl rfl rfl (Agn rfl) <| Bje pk1 Bwb ki1 ki2 (.inr (lZ5 _ (lZ5 _ mC))) ?_)
 refine Av (.iface 102 (.pointer (some pe))) (Arv (Agw Tryz.func91 rfl rfl rfl rfl (Agn rfl) <| Alv ki2 fun p=>?_))
 refine Arv (Agw Tryz.func124 rfl rfl rfl rfl (Auo rfl rfl) <| Bnh (i:=2) pk2 Bva ⟨_,Ab Bvr,rfl⟩ (.inr mC) rfl ?_)
 refine Arx rfl rfl d fun k e=>Au bT (l_k e (Aj Bxi (Aj Bxi (Aj (Bxk Arz) (Aj Bxi (Aq (a ⟨rfl,rfl,rfl⟩)))))))
theorem Brs{kw:Nat}{pe:Addr}(hg:GlobE ρ):CallsH (CX mn X) 44 #[.iface 102 (.pointer (some pe)),.iface 105 (pV kw)] ρ ((kw,oC #[.pointer none] 102)::σ) (fun w ρ' σ'=>ρ'=ρ∧w = .bool true∧σ'=(kw,oC #[.pointer (some pe)] 102)::σ):=by
 obtain⟨Y,j,hwi⟩:=Blr
 refine Bq 42 [4] Bxc rfl fun Q g T=>w_q rfl rfl fun D k=>Au bF (Ary rfl rfl k fun K L u x=>Av (.iface 102 (.pointer (some pe))) (l_v (Wm (w:=.iface 102 (.pointer (some pe))) (b:=false) Buz (.inr ⟨_,_,rfl,rfl⟩) rfl) (l_k x (Cg rfl rfl (Al (kk u ?_))))))
 refine Asb rfl rfl fun M N y z=>Av (.iface 105 (pV kw)) (l_v (Wm (w:=.iface 105 (pV kw)) (b:=false) Tryz.underlying20 (.inr ⟨_,_,rfl,rfl⟩) rfl) (l_k z (Cg rfl rfl (Al (kk y ?_)))))
 refine w_q rfl rfl fun O B=>Av (.iface 105 (pV kw)) (Arv (Agw Tryz.func91 rfl rfl rfl rfl (Agn rfl) <| Alv ki1 fun a=>?_))
 refine Arv (Ct Brm fun U=>?_)
 refine Cx rfl (Li (i:=0) (vs:=[typeHandle Tryz.prog 105,pV a,.int .u64 150]) (c':=[typeHandle Tryz.prog 105,pV a,.int .u64 150]) ⟨_,Ab Bvl,rfl⟩ rfl rfl rfl rfl (Zh ⟨rfl,rfl,rfl,trivial⟩) rfl nL rfl ?_)
 refine Arx rfl rfl B fun P C=>Arv (Xo (i:=0) (cs:=[typeHandle Tryz.prog 105,pV a,.int .u64 150]) (rs:=[]) ⟨_,Bwe,rfl⟩ ⟨_,Ab Bvl,rfl⟩ rfl rfl rfl rfl ?_)
 refine Arv (Agw Tryz.func92 rfl rfl rfl rfl (Agn rfl) <| Bji ct1 ?_)
 refine Au (.iface 218 (.agg #[typeHandle Tryz.prog 105])) (Ary rfl rfl C fun E F l m=>Av (.iface 218 (.agg #[typeHandle Tryz.prog 105])) (Arv (Ali (vs:=[]) (fun Q hq=>Bhi hq) Tryz.func219 rfl rfl rfl rfl rfl trivial <| Apn pk1 ki1 ?_)))
 refine l_v (Dg rfl rfl) (Av bF (Ae (gY rfl rfl) (Xo (i:=0) (cs:=[typeHandle Tryz.prog 105,pV a,.int .u64 150]) (rs:=[]) ⟨_,Bwe,rfl⟩ ⟨_,Ab Bvl,rfl⟩ rfl rfl rfl rfl ?_)))
 refine Ae (gY rfl rfl) (Agw Tryz.func93 rfl rfl rfl rfl (Agn rfl) <| Bdx pk1 Bwb (.inr (lZ5 _ mC)) ?_)
 refine l_v (Bn rfl rfl (v:=bF) rfl) (l_k m (Cg rfl rfl (Al (kk l ?_))))
 refine w_q rfl rfl fun G n=>Av (.iface 218 (.agg #[typeHandle Tryz.prog 105])) (Arv (Ali (vs:=[]) (fun Q hq=>Bpw hq) Tryz.func231 rfl rfl rfl rfl rfl trivial <| Bdy pk1 ki1 ct1 ?_))
 refine Au (.iface 218 (.agg #[typeHandle Tryz.prog 102])) (Ary rfl rfl n fun H I p q=>Av (.iface 218 (.agg #[typeHandle Tryz.prog 102])) (Arv (Ali (vs:=[]) (fun Q hq=>Bhi hq) Tryz.func219 rfl rfl rfl rfl rfl trivial <| Apn pk2 ki2 ?_)))
 refine l_v (Dg rfl rfl) (Av bT (l_M (.iface 218 (.agg #[typeHandle Tryz.prog 102])) (gY rfl rfl) rfl ?_))
 obtain⟨V,R,f⟩:=hg.etype
 refine Aa (gY rfl rfl) (Aae (v:=.iface 218 (.agg #[typeHandle Tryz.prog 85])) ⟨_,Tryz.underlying180,rfl⟩ rfl f rfl) (Ae (gY rfl rfl) (Ali (vs:=[.iface 218 (.agg #[typeHandle Tryz.prog 85])]) (fun Q hq=>Bpx hq) Tryz.func232 rfl rfl rfl rfl rfl ⟨rfl,trivial⟩ <| Bjf pk2 pk3 mp1 mp2 hwi j ?_))
 refine Aa (gY rfl rfl) (Iy rfl) (l_v (Bt rfl rfl (v:=.bool (!(true))) rfl) (l_k q (Cg rfl (not_t rfl) (Al (kk p ?_)))))
 refine w_q rfl rfl fun J t=>Av (.iface 102 (.pointer (some pe))) (Av (.iface 105 (pV kw)) (Arv (Xo (i:=0) (cs:=[typeHandle Tryz.prog 105,pV a,.int .u64 150]) (rs:=[]) ⟨_,Bwe,rfl⟩ ⟨_,Ab Bvl,rfl⟩ rfl rfl rfl rfl ?_)))
 refine Av (.iface 218 (.agg #[typeHandle Tryz.prog 102])) (Bj (Bxk Arz) (Bj (Bxk (Pm Arz)) (Arv (Cm (vs:=[.iface 102 (.pointer (some pe)),.iface 105 (pV kw),.agg #[typeHandle Tryz.prog 105,pV a,.int .u64 150],.iface 218 (.agg #[typeHandle Tryz.prog 102])]) (Btb (kw:=kw) (kv:=a) (pe:=pe)) Tryz.func94 rfl rfl ⟨rfl,rfl,rfl,rfl,trivial⟩ fun W Z a0 e=>?_))))
 obtain⟨c,h,d⟩:=e
 replace c:=c.symm;replace d:=d.symm;subst c d h
 refine Au bT (l_k t (Aj (Bxk Arz) (Aj Bxi (Aq (g ⟨rfl,rfl,rfl⟩)))))
theorem Brr{kw:Nat} :CallsH (CX mn X) 44 #[.nilIface,.iface 105 (pV kw)] ρ σ (rP ρ σ bF):=by
 refine Bq 42 [4] Bxc rfl fun Q a j=>w_q rfl rfl fun f c=>Au bF (Ary rfl rfl c fun g h k d=>Av .nilIface (l_v (Wm (w:=.nilIface) (b:=true) Buz (.inl ⟨rfl,rfl⟩) rfl) (l_k d (Co rfl rfl (w_q rfl rfl fun i e=>Au bF (l_k e (Aq (a (rT bF ?_)))))))))
 rfl
end
section
open Go
theorem At.ptrEx{α:Type}[Dat α]{ρ:Ro}{v:Value}{x:α}(h:At ρ v x):∃b off,v = .pointer (some ⟨b,off,none⟩):=let ⟨b,off,_,_,_,_,_,h1,_⟩:=h;⟨b,off,h1⟩
theorem Biz:GoTy Tryz.prog 102 (Ptr Wrg):=⟨⟨_,Bva,rfl⟩,⟨_,Ab Bvr,rfl⟩⟩
theorem Azd{W0:World}{ρ:Ro}{σ:Own}{t:List UInt8}(hg:GlobE ρ)(hnr:Jp σ):CallsH (CY W0) 10 #[.string (bs t)] ρ σ (fun w ρ' σ'=>Ro.le ρ ρ'∧σ'=σ∧∃vl vm,w=(.tuple #[vl,vm,iV ((Cr t).2.2.1),iV ((Cr t).2.2.2)])∧Val ρ' vl ((Cr t).1:Lab)∧Val ρ' vm ((Cr t).2.1:Market)):=by
 refine Lt (n:=40) (args:=[.string (bs t)]) [.cell 2 25,.cell 3 29,.tmp 4,.tmp 5] Tryz.func10 rfl rfl rfl rfl fun Q J b7=>w_q rfl rfl fun K1 k1=>Arv (Ct Aph fun k2=>?_)
 refine Arv (Ct Apg fun k3=>?_)
 refine Au (iV 0) (Au (iV 0) (Ary rfl rfl k1 fun K4 K5 k4 k5=>Av (.string (bs t)) (l_v (Dy Btr (p:=t) rfl) (l_v (Gl rfl rfl) (l_k k5 (Bf (t:=decide ((t.length:Int)>60000)) rfl (fun F=>?_) (fun F=>?_)))))))
 ·have q6:=lZ1 F
  refine Ai fun K7 k7=>?_
  have hP:=Axy (t:=t) (by omega)
  refine Ag rfl rfl ?_
  have r8:Val ρ (.agg #[nS,iV 0,nS]) (⟨[],0,[]⟩:Lab):=Lab.shut (x:=(⟨[],0,[]⟩:Lab)) Gx (iC 0) Gx
  refine l_v (Dn (ns:=[1,1,1]) (vs:=[]) (zc:=Amk) (cs:=[nS,iV 0,nS]) Btv Aph rfl ⟨⟨_,Ab Bup,rfl⟩,⟨_,Ab Btz,rfl⟩,⟨_,Ab Bvn,rfl⟩,trivial⟩ (EvB.map trivial) rfl) ?_
  have r9:Val ρ (.agg #[nS,nS,nS,nS]) (⟨[],[],[],[]⟩:Market):=Market.shut (x:=(⟨[],[],[],[]⟩:Market)) Gx Gx Gx Gx
  refine l_v (Dn (ns:=[1,1,1,1]) (vs:=[]) (zc:=Amj) (cs:=[nS,nS,nS,nS]) Btt Apg rfl ⟨⟨_,Ab Bup,rfl⟩,⟨_,Ab Bup,rfl⟩,⟨_,Ab Bvo,rfl⟩,⟨_,Ab Bvp,rfl⟩,trivial⟩ (EvB.map trivial) rfl) (Cx rfl (Li (i:=1) (vs:=[nS,iV 0,nS]) (c':=[nS,iV 0,nS]) ⟨_,Ab Buq,rfl⟩ rfl rfl rfl rfl (Zh ⟨rfl,rfl,rfl,trivial⟩) rfl nL rfl ?_))
  refine Cx rfl (Li (i:=0) (vs:=[nS,nS,nS,nS]) (c':=[nS,nS,nS,nS]) ⟨_,Ab Bum,rfl⟩ rfl rfl rfl rfl (Zh ⟨rfl,rfl,rfl,rfl,trivial⟩) rfl nL rfl ?_)
  refine Au (iV 0) (Au (iV 2) (l_k k7 (Aq ?_)))
  have ag:Val ρ (.agg #[nS,iV 0,nS]) (⟨[],0,[]⟩:Lab):=Lab.shut (x:=(⟨[],0,[]⟩:Lab)) Gx (iC 0) Gx
  have ah:Val ρ (.agg #[nS,nS,nS,nS]) (⟨[],[],[],[]⟩:Market):=Market.shut (x:=(⟨[],[],[],[]⟩:Market)) Gx Gx Gx Gx
  refine J _ _ _ _ _ [.agg #[nS,iV 0,nS],.agg #[nS,nS,nS,nS],iV 0,iV 2] ⟨Qh ⟨_,Btv,rfl⟩ ⟨_,Ab Buq,rfl⟩ rfl (i:=1) rfl rfl,Qh ⟨_,Btt,rfl⟩ ⟨_,Ab Bum,rfl⟩ rfl (i:=0) rfl rfl,rfl,rfl,trivial⟩ (Ghost.drop.trans Bxi) ⟨Bxm,rfl,.agg #[nS,iV 0,nS],.agg #[nS,nS,nS,nS],eT (.tuple #[.agg #[nS,iV 0,nS],.agg #[nS,nS,nS,nS],iV 0,iV 2]) ?_,Val.cast ?_ ag,Val.cast ?_ ah⟩
  ·rw[hP]<;>rfl
  ·rw[hP]<;>rfl
  ·rw[hP]<;>rfl
 have q6:=lZ0 F
 refine Al (kk k4 ?_)
 refine w_q rfl rfl fun au a8=>?_
 have ba:Val ρ (.agg #[nS,iV 0,nS,nS,nS,nS,nS,iV 0]) (⟨(⟨[],0,[]⟩:Lab),(⟨[],[],[],[]⟩:Market),0⟩:Rdg):=Rdg.shut (x:=(⟨(⟨[],0,[]⟩:Lab),(⟨[],[],[],[]⟩:Market),0⟩:Rdg)) Gx (iC 0) Gx Gx Gx Gx Gx (iC 0)
 refine l_v (Dn (ns:=[3,4,1]) (vs:=[]) (zc:=Brh) (cs:=[nS,iV 0,nS,nS,nS,nS,nS,iV 0]) Buc Brk rfl ⟨⟨_,Ab Buq,rfl⟩,⟨_,Ab Bum,rfl⟩,⟨_,Ab Btz,rfl⟩,trivial⟩ (EvB.map trivial) rfl) (Arv (Eb (v:=.agg #[nS,iV 0,nS,nS,nS,nS,nS,iV 0]) rfl fun q=>?_))
 refine Au (pV q) (Arx rfl rfl a8 fun av a9=>Arv (Ct Brl fun M=>?_))
 refine Ary rfl rfl a9 fun aw ax aa W=>Av (pV q) (Av (.string (bs t)) (Bj (Bxk Arz) (Arv (Cm (vs:=[pV q,.string (bs t)]) (Bru (r:=q) (t:=t) hg (by omega) (Gb (Gb (Gb hnr)))) Tryz.func43 rfl rfl ⟨rfl,rfl,trivial⟩ fun bk a0 bn H=>?_))))
 obtain⟨N,H⟩:=H
 replace hg:=GlobE.mono N hg
 rcases H with⟨z,B,bj,G,L,j,k⟩|⟨b,G,L,j,k⟩
 ·replace k:=k.symm;subst k L
  obtain⟨u,y,a6⟩:=At.ptrEx j;subst a6;have hP:=G
  refine Au (.iface 102 (.pointer (some ⟨u,y,none⟩))) (Arx rfl rfl W fun ay ab=>Av (.iface 102 (.pointer (some ⟨u,y,none⟩))) (l_v (Ge Bwb rfl rfl) (Arv (Cm (vs:=[.iface 102 (.pointer (some ⟨u,y,none⟩)),.iface 105 (pV M)]) (Brs (kw:=M) (pe:=⟨u,y,none⟩) hg) Bxc rfl rfl ⟨rfl,rfl,trivial⟩ fun bl bm bo a5=>?_))))
  obtain⟨I,a7,K⟩:=a5
  replace I:=I.symm;replace K:=K.symm;subst I K a7
  refine l_k ab (Co rfl rfl (Ai fun az ac=>Nt (a:=Ptr.mk (⟨B,z⟩:Wrg)) (v:=.pointer (some ⟨u,y,none⟩)) (Ir.2 j) fun E af X=>Pr ?_))
  have bb:Val E (.agg #[nS,iV 0,nS]) (⟨[],0,[]⟩:Lab):=Lab.shut (x:=(⟨[],0,[]⟩:Lab)) Gx (iC 0) Gx
  refine Bu 0 Aob rfl (Dn (ns:=[1,1,1]) (vs:=[]) (zc:=Amk) (cs:=[nS,iV 0,nS]) Btv Aph rfl ⟨⟨_,Ab Bup,rfl⟩,⟨_,Ab Btz,rfl⟩,⟨_,Ab Bvn,rfl⟩,trivial⟩ (EvB.map trivial) rfl) ?_
  have bc:Val E (.agg #[nS,nS,nS,nS]) (⟨[],[],[],[]⟩:Market):=Market.shut (x:=(⟨[],[],[],[]⟩:Market)) Gx Gx Gx Gx
  refine Bu 1 Aoe rfl (Dn (ns:=[1,1,1,1]) (vs:=[]) (zc:=Amj) (cs:=[nS,nS,nS,nS]) Btt Apg rfl ⟨⟨_,Ab Bup,rfl⟩,⟨_,Ab Bup,rfl⟩,⟨_,Ab Bvo,rfl⟩,⟨_,Ab Bvp,rfl⟩,trivial⟩ (EvB.map trivial) rfl) (De 2 Aof rfl (Ax Biz rfl X) fun bd C=>?_)
  replace C:=Ir.1 C
  refine Bu 3 Aog rfl (Hj rfl C) (De 4 Aok rfl (Ba Wrg.f_line Bvb rfl ty3 C) fun be Y=>?_)
  have⟨b2,b3⟩:=At.rng Y
  refine Bu 5 Aol rfl (Bc ty3 rfl Y) (De 6 Aom rfl (Ax Biz rfl X) fun bf D=>?_)
  replace D:=Ir.1 D
  refine Bu 7 Aon rfl (Hj rfl D) (De 8 Aqg rfl (Ba Wrg.f_code Bvb rfl ty31 D) fun bg Z=>?_)
  have⟨b4,b5⟩:=At.rng Z
  refine Bu 9 Aoc rfl (Bc ty31 rfl Z) (En 10 Aod rfl (Li (i:=1) (vs:=[nS,iV 0,nS]) (c':=[nS,iV 0,nS]) ⟨_,Ab Buq,rfl⟩ rfl rfl rfl rfl (Zh ⟨rfl,rfl,rfl,trivial⟩) rfl nL rfl ⟨Bxm,?_⟩))
  refine En 11 Anr rfl (Li (i:=0) (vs:=[nS,nS,nS,nS]) (c':=[nS,nS,nS,nS]) ⟨_,Ab Bum,rfl⟩ rfl rfl rfl rfl (Zh ⟨rfl,rfl,rfl,rfl,trivial⟩) rfl nL rfl ⟨Bxm,?_⟩)
  refine Cj 12 Ans rfl (Cp (v:=iV B) rfl) (Cj 13 Ant rfl (Cp (v:=iV z) rfl) (Ec rfl (kk ac ?_)))
  refine Aq ?_
  have ai:Val E (.agg #[nS,iV 0,nS]) (⟨[],0,[]⟩:Lab):=Lab.shut (x:=(⟨[],0,[]⟩:Lab)) Gx (iC 0) Gx
  have aj:Val E (.agg #[nS,nS,nS,nS]) (⟨[],[],[],[]⟩:Market):=Market.shut (x:=(⟨[],[],[],[]⟩:Market)) Gx Gx Gx Gx
  refine J _ _ _ _ _ [.agg #[nS,iV 0,nS],.agg #[nS,nS,nS,nS],iV B,iV z] ⟨Qh ⟨_,Btv,rfl⟩ ⟨_,Ab Buq,rfl⟩ rfl (i:=1) rfl rfl,Qh ⟨_,Btt,rfl⟩ ⟨_,Ab Bum,rfl⟩ rfl (i:=0) rfl rfl,rfl,rfl,trivial⟩ (Ghost.drop.trans Bxi) ⟨Bxn N af,rfl,.agg #[nS,iV 0,nS],.agg #[nS,nS,nS,nS],eT (.tuple #[.agg #[nS,iV 0,nS],.agg #[nS,nS,nS,nS],iV B,iV z]) ?_,Val.cast ?_ ai,Val.cast ?_ aj⟩
  ·rw[hP]<;>rfl
  ·rw[hP]<;>rfl
  ·rw[hP]<;>rfl
 replace k:=k.symm;subst k L
 have hP:=G
 refine Au .nilIface (Arx rfl rfl W fun b0 ad=>Av .nilIface (l_v (Ge Bwb rfl rfl) (Arv (Bw (Brr (kw:=M)) Bxc ?_))))
 refine l_k ad (Cg rfl rfl (Al (kk aa ?_)))
 refine Ai fun b1 ae=>Pr (Bu 0 (zT 1 11) rfl (Ah (v:=pV q) rfl) (Bu 1 (zT 2 10) rfl (Hj rfl j) (De 2 (zT 3 9) rfl (Ba Rdg.f_l Buc rfl Zu j) fun bh ak=>De 3 (zT 4 8) rfl (Ax Zu rfl ak) fun aq al=>Bu 4 (zT 5 7) rfl (Ah (v:=pV q) rfl) (Bu 5 (zT 6 6) rfl (Hj rfl j) (De 6 (zT 7 5) rfl (Ba Rdg.f_m Buc rfl Ln j) fun bi am=>De 7 (zT 8 4) rfl (Ax Ln rfl am) fun ar an=>?_)))))
 obtain⟨c,d,a1,O,⟨b8,b9⟩,P⟩:=Lab.open_ al
 have a2:aq.cells=[c,iV b.l.most,d].toArray:=by rw[a1];rfl
 refine En 8 (zT 9 3) rfl (Li (i:=2) (vs:=[c,iV b.l.most,d]) (c':=[c,iV b.l.most,d]) ⟨_,Ab Buq,rfl⟩ rfl rfl a2 rfl (Zh ⟨Val.single_l O,rfl,Val.single_l P,trivial⟩) rfl nL rfl ⟨Bxm,?_⟩)
 obtain⟨e,f,g,h,a3,R,T,U,V⟩:=Market.open_ an
 have a4:ar.cells=[e,f,g,h].toArray:=by rw[a3];rfl
 refine En 9 (zT 10 2) rfl (Li (i:=1) (vs:=[e,f,g,h]) (c':=[e,f,g,h]) ⟨_,Ab Bum,rfl⟩ rfl rfl a4 rfl (Zh ⟨Val.single_l R,Val.single_l T,Val.single_l U,Val.single_l V,trivial⟩) rfl nL rfl ⟨Bxm,?_⟩)
 refine Cj 10 (zT 11 1) rfl (Cp (v:=iV 0) rfl) (Cj 11 (zT 12 0) rfl (Cp (v:=iV 0) rfl) (Ec rfl (kk ae ?_)))
 refine Aj Bxi (Aq ?_)
 have ao:Val a0 (.agg #[c,iV b.l.most,d]) (⟨b.l.kinds,b.l.most,b.l.tests⟩:Lab):=Lab.shut (x:=(⟨b.l.kinds,b.l.most,b.l.tests⟩:Lab)) O (iC b.l.most) P
 have ap:Val a0 (.agg #[e,f,g,h]) (⟨b.m.houses,b.m.marks,b.m.fields,b.m.sales⟩:Market):=Market.shut (x:=(⟨b.m.houses,b.m.marks,b.m.fields,b.m.sales⟩:Market)) R T U V
 refine J _ _ _ _ _ [.agg #[c,iV b.l.most,d],.agg #[e,f,g,h],iV 0,iV 0] ⟨Qh ⟨_,Btv,rfl⟩ ⟨_,Ab Buq,rfl⟩ rfl (i:=1) rfl rfl,Qh ⟨_,Btt,rfl⟩ ⟨_,Ab Bum,rfl⟩ rfl (i:=0) rfl rfl,rfl,rfl,trivial⟩ (Ghost.drop.trans Bxi) ⟨N,rfl,.agg #[c,iV b.l.most,d],.agg #[e,f,g,h],eT (.tuple #[.agg #[c,iV b.l.most,d],.agg #[e,f,g,h],iV 0,iV 0]) ?_,Val.cast ?_ ao,Val.cast ?_ ap⟩
 ·rw[hP]<;>rfl
 ·rw[hP]<;>rfl
 ·rw[hP]<;>rfl
end
section
open Go
variable{mn:Bool}{X:Frame→List Frame→Ro→Own→Cy→Prop}{ρ:Ro}{σ:Own}
theorem Bkr{n:Nat}(hn:n<100):CallsH (CX mn X) 137 #[iV n] ρ σ (rP ρ σ (.string (bs (Lr n)))):=by
 refine Bq 15 [2] Tryz.func137 rfl fun Q b v=>w_q rfl rfl fun j c=>Au (.string (ByteArray.mk #[])) (Ary rfl rfl c fun k m d e=>Av (iV n) (l_v (Da rfl rfl) (l_k e (Bf (t:=decide ((n:Int)<10)) rfl (fun a=>?_) (fun a=>?_)))))
 ·have i:=lZ1 a
  refine w_q rfl rfl fun q f=>Av (iV n) (Av (iV n) (l_v (Cw (((n+1):Nat):Int)) (l_v (Ui (p:=bZ2) (l:=n) (h:=n+1) Btr rfl (.inr ⟨_,rfl,rfl⟩) (.inr ⟨_,rfl,rfl⟩) (by first|omega|(show _≤36;omega)|(show _≤200;omega)) (by first|omega|(show _≤36;omega)|(show _≤200;omega))) (Au (.string (bs (((bZ2).take (n+1)).drop n))) (l_k f (Aq (b ⟨rfl,rfl,eT (.string (bs (((bZ2).take (n+1)).drop n))) ?_⟩)))))))
  rw[Bmm (by omega)]
 have i:=lZ0 a
 refine Al (kk d ?_)
 refine w_q rfl rfl fun u g=>Av (iV n) (l_v (Wq rfl rfl (z:=(((n*2):Nat):Int)) wrE) (Av (iV n) (l_v (Wq rfl rfl (z:=(((n*2):Nat):Int)) wrE) (l_v (Cw ((((n*2)+2):Nat):Int)) (l_v (Ui (p:=smL) (l:=n*2) (h:=(n*2)+2) Btr rfl (.inr ⟨_,rfl,rfl⟩) (.inr ⟨_,rfl,rfl⟩) (by first|omega|(show _≤36;omega)|(show _≤200;omega)) (by first|omega|(show _≤36;omega)|(show _≤200;omega))) (Au (.string (bs ((smL.take ((n*2)+2)).drop (n*2)))) (l_k g (Aq (b ⟨rfl,rfl,eT (.string (bs ((smL.take ((n*2)+2)).drop (n*2)))) ?_⟩)))))))))
 rw[Bmn (by omega) (by omega)]
theorem Boz{n:Nat}(h0:1≤n)(hx:n<16777216):CallsH (CX mn X) 129 #[.int .u64 (n:Int)] ρ σ (rP ρ σ (iV (Aui n:Nat))):=by
 have W:=Yt (x:=n)
 have Z:=Yt (x:=n>>>8)
 have Y:=Yt (x:=n>>>16)
 have U:=Sk (x:=n)
 have V:=Sk (x:=n>>>8)
 have T:=Sk (x:=n>>>16)
 refine Bq 25 [2] Tryz.func129 rfl fun Q c a0=>w_q rfl rfl fun D f=>Au (iV 0) (Ary rfl rfl f fun K L l m=>Av (.int .u64 (n:Int)) (l_v (Uy rfl rfl) (l_k m (Cg rfl (Hn (by omega)) (Al (kk l ?_))))))
 refine Asb rfl rfl fun M N e u=>Av (.int .u64 (n:Int)) (l_v (Uy rfl rfl) (l_k u (Bf (t:=decide ((n:Int)≥65536)) rfl (fun b=>?_) (fun b=>?_))))
 ·have C:=lZ1 b
  refine w_q rfl rfl fun O v=>Av (.int .u64 (n:Int)) (l_v (Lc (p:=n) (q:=16) rfl rfl rfl (by omega)) (Au (.int .u64 (((n>>>16):Nat):Int)) (l_k v (Ag rfl rfl (Av (iV 0) (l_v (Cw 16) (Au (iV 16) (Ary rfl rfl e fun P R w y=>Av (.int .u64 (((n>>>16):Nat):Int)) (l_v (Uy rfl rfl) (l_k y (Cg rfl (Hn (by omega)) (Al (kk w ?_)))))))))))))
  refine w_q rfl rfl fun E g=>Av (iV 16) (Av (.int .u64 (((n>>>16):Nat):Int)) (l_v (Acf (p:=(((n>>>16):Nat):Int)) (z:=(((n>>>16):Nat):Int)) Bur Bud rfl (Anq (by omega) (by omega))) (l_v (Ace (n>>>16) (UInt8.ofNat (Ie (n>>>16))) Btr rfl (q:=(((n>>>16):Nat):Int)) rfl rfl (Aji (by omega))) (l_v (Acf (p:=(((UInt8.ofNat (Ie (n>>>16))).toNat:Nat):Int)) (z:=(((UInt8.ofNat (Ie (n>>>16))).toNat:Nat):Int)) Bud Bty rfl wrR) (l_v (Cw (((16+(UInt8.ofNat (Ie (n>>>16))).toNat):Nat):Int)) (Au (iV (((16+(UInt8.ofNat (Ie (n>>>16))).toNat):Nat):Int)) (l_k g (Aq (c ⟨rfl,rfl,eT (iV (((16+(UInt8.ofNat (Ie (n>>>16))).toNat):Nat):Int)) ?_⟩)))))))))
  unfold Aui;rw[Yt];first|rw[if_pos (by omega),Xz]|rw[if_neg (by omega),if_pos (by omega)]|rw[if_neg (by omega),if_neg (by omega)]
 have C:=lZ0 b
 refine Al (kk e ?_)
 refine Asb rfl rfl fun F G d h=>Av (.int .u64 (n:Int)) (l_v (Uy rfl rfl) (l_k h (Bf (t:=decide ((n:Int)≥256)) rfl (fun a=>?_) (fun a=>?_))))
 ·have B:=lZ1 a
  refine w_q rfl rfl fun H i=>Av (.int .u64 (n:Int)) (l_v (Lc (p:=n) (q:=8) rfl rfl rfl (by omega)) (Au (.int .u64 (((n>>>8):Nat):Int)) (l_k i (Ag rfl rfl (Av (iV 0) (l_v (Cw 8) (Au (iV 8) (Arx rfl rfl d fun I j=>Av (iV 8) (Av (.int .u64 (((n>>>8):Nat):Int)) (l_v (Acf (p:=(((n>>>8):Nat):Int)) (z:=(((n>>>8):Nat):Int)) Bur Bud rfl (Anq (by omega) (by omega))) (l_v (Ace (n>>>8) (UInt8.ofNat (Ie (n>>>8))) Btr rfl (q:=(((n>>>8):Nat):Int)) rfl rfl (Aji (by omega))) (l_v (Acf (p:=(((UInt8.ofNat (Ie (n>>>8))).toNat:Nat):Int)) (z:=(((UInt8.ofNat (Ie (n>>>8))).toNat:Nat):Int)) Bud Bty rfl wrR) (l_v (Cw (((8+(UInt8.ofNat (Ie (n>>>8))).toNat):Nat):Int)) (Au (iV (((8+(UInt8.ofNat (Ie (n>>>8))).toNat):Nat):Int)) (l_k j (Aq (c ⟨rfl,rfl,eT (iV (((8+(UInt8.ofNat (Ie (n>>>8))).toNat):Nat):Int)) ?_⟩)))))))))))))))))
  unfold Aui;rw[Yt];first|rw[if_pos (by omega),Xz]|rw[if_neg (by omega),if_pos (by omega)]|rw[if_neg (by omega),if_neg (by omega)]
 have B:=lZ0 a
 refine Al (kk d ?_)
 refine w_q rfl rfl fun J k=>Av (iV 0) (Av (.int .u64 (n:Int)) (l_v (Acf (p:=(n:Int)) (z:=(n:Int)) Bur Bud rfl (Anq (by omega) (by omega))) (l_v (Ace n (UInt8.ofNat (Ie n)) Btr rfl (q:=(n:Int)) rfl rfl (Aji (by omega))) (l_v (Acf (p:=(((UInt8.ofNat (Ie n)).toNat:Nat):Int)) (z:=(((UInt8.ofNat (Ie n)).toNat:Nat):Int)) Bud Bty rfl wrR) (l_v (Cw (((0+(UInt8.ofNat (Ie n)).toNat):Nat):Int)) (Au (iV (((0+(UInt8.ofNat (Ie n)).toNat):Nat):Int)) (l_k k (Aq (c ⟨rfl,rfl,eT (iV (((0+(UInt8.ofNat (Ie n)).toNat):Nat):Int)) ?_⟩)))))))))
 unfold Aui;rw[Yt];first|rw[if_pos (by omega),Xz]|rw[if_neg (by omega),if_pos (by omega)]|rw[if_neg (by omega),if_neg (by omega)]
theorem Bkp{n:Nat}(hn:n≤100):CallsH (CX mn X) 152 #[iV n] ρ σ (rP ρ σ (iV ((((n*78913)>>>18):Nat):Int))):=by
 refine Bq 6 [2] Tryz.func152 rfl fun Q a f=>w_q rfl rfl fun d b=>Au (iV 0) (Arx rfl rfl b fun e c=>Av (iV n) (l_v (Wq rfl rfl (z:=(((n*78913):Nat):Int)) wrE) (l_v (Lc (p:=n*78913) (q:=18) rfl rfl rfl (by omega)) (Au (iV ((((n*78913)>>>18):Nat):Int)) (l_k c (Aq (a ⟨rfl,rfl,eT (iV ((((n*78913)>>>18):Nat):Int)) ?_⟩)))))))
 rfl
theorem Bot{b:Bool} :CallsH (CX mn X) 153 #[.bool b] ρ σ (rP ρ σ (iV (Awe b:Nat))):=by
 refine Bq 4 [2] Tryz.func153 rfl fun Q c n=>w_q rfl rfl fun i d=>Au (iV 0) (Ary rfl rfl d fun j k e f=>Av (.bool b) (l_k f (Bf (t:=b) rfl (fun a=>?_) (fun a=>?_))))
 ·refine w_q rfl rfl fun l g=>Au (iV 1) (l_k g (Aq (c (rT (iV 1) ?_))))
  rw[a];rfl
 refine Al (kk e ?_)
 refine w_q rfl rfl fun m h=>Au (iV 0) (l_k h (Aq (c (rT (iV 0) ?_))))
 rw[a];rfl
theorem Ass{n:Nat}(hg:GlobE ρ)(h0:100≤n)(h1:n≤1000000):CallsH (CX mn X) 138 #[.int .u64 (n:Int)] ρ σ (rP ρ σ (iV (Qu n:Nat))):=by
 obtain⟨htd,hnd⟩:=Bhj h0 h1
 obtain⟨kk,k,l,m,p⟩:=Auj (n:=n) (by omega) (by omega)
 have hbn:=fun b=>Azb (b:=b)
 have hbb:=Azb (b:=decide ((n:Int)≥((10^tD n:Nat):Int)))
 refine Bq 15 [2] Bwa rfl fun Q c t=>w_q rfl rfl fun g d=>Au (iV 0) (Arx rfl rfl d fun h e=>Av (.int .u64 (n:Int)) (Arv (Bw (Boz (n:=n) (by omega) (by omega)) Tryz.func129 ?_)))
 refine Arv (Bw (Bkp (n:=Aui n) (by omega)) Tryz.func152 ?_)
 refine Au (iV ((tD n):Nat)) (Arx rfl rfl e fun i f=>Av (iV ((tD n):Nat)) (Av (.int .u64 (n:Int)) (Av (iV ((tD n):Nat)) (l_v (Cq (k':=1) (tD n) Tryz.underlying274 ⟨_,Ab Tryz.typeInfo207,rfl⟩ rfl (q:=(((tD n):Nat):Int)) rfl rfl (by omega) (off':=tD n) (by omega)) ?_))))
 obtain⟨u,j,a⟩:=hg.pow
 refine l_v (Aae (v:=.int .u64 (((10^tD n):Nat):Int)) ⟨_,Bur,rfl⟩ rfl a (Bmc (by omega))) (l_v (Uy rfl rfl) (Arv (Bw (Bot (b:=decide ((n:Int)≥(((10^tD n):Nat):Int)))) Tryz.func153 ?_)))
 refine l_v (Cw ((((tD n)+(Awe (decide ((n:Int)≥(((10^tD n):Nat):Int))))):Nat):Int)) (Au (iV ((((tD n)+(Awe (decide ((n:Int)≥(((10^tD n):Nat):Int))))):Nat):Int)) (l_k f (Aq (c ⟨rfl,rfl,eT (iV ((((tD n)+(Awe (decide ((n:Int)≥(((10^tD n):Nat):Int))))):Nat):Int)) ?_⟩))))
 rw[hnd]
theorem Qj{n m:Nat}(hg:GlobE ρ)(h0:100≤n)(h1:n≤1000000)(hm:Qu n=m):CallsH (CX mn X) 138 #[.int .u64 (n:Int)] ρ σ (rP ρ σ (iV m)):=by
 subst hm;exact Ass hg h0 h1
theorem Bou{r n:Nat}(h0:100≤n)(h1:n<1000):CallsH (CX mn X) 139 #[.slice (some ⟨r,1,none⟩) 3 23,.int .u64 (n:Int)] ρ ((r,oC #[.int .u8 0,.int .u8 0,.int .u8 0,.int .u8 0,.int .u8 0,.int .u8 0,.int .u8 0,.int .u8 0,.int .u8 0,.int .u8 0,.int .u8 0,.int .u8 0,.int .u8 0,.int .u8 0,.int .u8 0,.int .u8 0,.int .u8 0,.int .u8 0,.int .u8 0,.int .u8 0,.int .u8 0,.int .u8 0,.int .u8 0,.int .u8 0] 247)::σ) (fun w ρ' σ'=>ρ'=ρ∧w = .tuple #[]∧σ'=(r,oC #[.int .u8 0,.int .u8 ((dg (n/100)).toNat:Int),.int .u8 ((dg (n/10%10)).toNat:Int),.int .u8 ((dg (n%10)).toNat:Int),.int .u8 0,.int .u8 0,.int .u8 0,.int .u8 0,.int .u8 0,.int .u8 0,.int .u8 0,.int .u8 0,.int .u8 0,.int .u8 0,.int .u8 0,.int .u8 0,.int .u8 0,.int .u8 0,.int .u8 0,.int .u8 0,.int .u8 0,.int .u8 0,.int .u8 0,.int .u8 0] 247)::σ):=by
 refine Bq 167 [] Bvf rfl fun Q N a=>w_q rfl rfl fun y b=>Av (.slice (some ⟨r,1,none⟩) 3 23) (l_v (Acn (el:=5) Btu rfl) (Au (iV 3) (Asa b fun G i=>Ao (Cc (fun mm ee dd ρ' σ'=>(0)=mm∧[]=dd∧ρ=ρ'∧((r,oC #[.int .u8 0,.int .u8 0,.int .u8 0,.int .u8 0,.int .u8 0,.int .u8 0,.int .u8 0,.int .u8 0,.int .u8 0,.int .u8 0,.int .u8 0,.int .u8 0,.int .u8 0,.int .u8 0,.int .u8 0,.int .u8 0,.int .u8 0,.int .u8 0,.int .u8 0,.int .u8 0,.int .u8 0,.int .u8 0,.int .u8 0,.int .u8 0] 247)::σ)=σ'∧ee 0=(.slice (some ⟨r,1,none⟩) 3 23)∧ee 1=(.int .u64 (n:Int))∧ee 4=iV 3∧True) (m:=_) ⟨rfl,rfl,rfl,rfl,rfl,rfl,rfl,trivial⟩ ?_))))
 rintro m3 e3 _ _ _ ⟨rfl,rfl,rfl,rfl,h3_0,h3_1,h3_4,_⟩
 refine Asb rfl rfl fun H I O k=>l_v (Ah (v:=iV 3) h3_4) (l_v (Uy rfl rfl) (l_k k (Cg rfl rfl (Bx (kk i ?_)))))
 refine w_q rfl rfl fun J l=>l_v (Ah (v:=.int .u64 (n:Int)) h3_1) (l_v (Acf (p:=(n:Int)) (z:=(n:Int)) Bur Buo rfl (Dm (by omega) (by omega))) (Au (.int .u32 (n:Int)) (Ary rfl rfl l fun K L t u=>l_v (Ah (v:=iV 3) h3_4) (l_v (Uy rfl rfl) (l_k u (Cg rfl rfl (Al (kk t ?_))))))))
 refine Asb rfl rfl fun M B x c=>l_v (Ah (v:=iV 3) h3_4) (l_v (Uy rfl rfl) (l_k c (Co rfl rfl (w_q rfl rfl fun C e=>Av (.int .u32 (n:Int)) (l_v (Zf (p:=(n:Int)) (q:=100) rfl rfl (by omega) (z:=(((n%100):Nat):Int)) rfl) (l_v (Wq rfl rfl (z:=((((n%100)*2):Nat):Int)) ((Dm (by omega) (by omega)).trans (by omega))) (Au (.int .u32 ((((n%100)*2):Nat):Int)) (Arx rfl rfl e fun D f=>Av (.int .u32 (n:Int)) (l_v (Wr (p:=(n:Int)) (q:=100) rfl rfl (by omega) (z:=(((n/100):Nat):Int)) (Dm (p:=(((n/100):Nat):Int)) (by omega) (by omega))) (Au (.int .u32 (((n/100):Nat):Int)) (Asa f fun E g=>Pr (Bu 0 zZ0 rfl (Ah (v:=.slice (some ⟨r,1,none⟩) 3 23) h3_0) (Bu 1 zZ7 rfl (Ah (v:=iV 3) h3_4) (Bu 2 zZ8 rfl (Ou rfl rfl (z:=2) (Bo (by omega) (by omega) (by omega))) (Bu 3 zZ9 rfl (Ah (v:=.slice (some ⟨r,1,none⟩) 3 23) h3_0) (Bu 4 Ajy rfl (Ah (v:=iV 3) h3_4) (Bu 5 Ajz rfl (Ou rfl rfl (z:=1) (Bo (by omega) (by omega) (by omega))) (Bu 6 Aka rfl (Ah (v:=.int .u32 ((((n%100)*2):Nat):Int)) rfl) (Bu 7 Akb rfl (Br rfl rfl (z:=(((((n%100)*2)+1):Nat):Int)) ((Dm (by omega) (by omega)).trans (by omega))) (Bu 8 Amg rfl (Ace (((n%100)*2)+1) (UInt8.ofNat (48+((n%100))%10)) Btr rfl (q:=(((((n%100)*2)+1):Nat):Int)) rfl rfl (Akz (d:=n%100) (by omega))) (Bu 9 zZ1 rfl (Ah (v:=.int .u32 ((((n%100)*2):Nat):Int)) rfl) (Bu 10 zZ2 rfl (Ace ((n%100)*2) (UInt8.ofNat (48+((n%100))/10)) Btr rfl (q:=((((n%100)*2):Nat):Int)) rfl rfl (Akx (d:=n%100) (by omega))) (Cj 11 zZ3 rfl (Afy (k':=1) 2 Btu ⟨_,Ab Btw,rfl⟩ rfl (q:=2) rfl rfl (by decide) (off':=3) rfl) (En 12 zZ4 rfl (Cz (j:=0) (v:=.int .u8 (((UInt8.ofNat (48+((n%100))%10)).toNat:Nat):Int)) ⟨_,Ab Btw,rfl⟩ rfl rfl rfl rfl nL ⟨Bxm,?_⟩)))))))))))))))))))))))))
 refine Cj 13 zZ5 rfl (Afy (k':=1) 1 Btu ⟨_,Ab Btw,rfl⟩ rfl (q:=1) rfl rfl (by decide) (off':=2) rfl) (En 14 zZ6 rfl (Cz (j:=0) (v:=.int .u8 (((UInt8.ofNat (48+((n%100))/10)).toNat:Nat):Int)) ⟨_,Ab Btw,rfl⟩ rfl rfl rfl rfl nL ⟨Bxm,?_⟩))
 refine Ec rfl (kk g ?_)
 refine Ag rfl rfl (l_v (Ah (v:=iV 3) h3_4) (l_v (Ou rfl rfl (z:=1) (Bo (by omega) (by omega) (by omega))) (Au (iV 1) (Arx rfl rfl x fun F h=>Av (iV 1) (l_v (Gl rfl rfl) (l_k h (Co rfl rfl (Ag rfl rfl (l_v (Ah (v:=.slice (some ⟨r,1,none⟩) 3 23) h3_0) (Av (.int .u32 (((n/100):Nat):Int)) (l_v (Br rfl rfl (z:=(((48+(n/100)):Nat):Int)) ((Dm (by omega) (by omega)).trans (by omega))) (l_v (Acf (p:=(((48+(n/100)):Nat):Int)) (z:=(((48+(n/100)):Nat):Int)) Buo Bud rfl (Anq (by omega) (by omega))) (l_v (Afy (k':=1) 0 Btu ⟨_,Ab Btw,rfl⟩ rfl (q:=0) rfl rfl (by decide) (off':=1) rfl) (Cx rfl (Cz (j:=0) (v:=.int .u8 (((48+(n/100)):Nat):Int)) ⟨_,Ab Btw,rfl⟩ rfl rfl rfl rfl nL ?_)))))))))))))))
 apply Ac
 refine a ⟨rfl,rfl,by rw[Beu (d:=n/100) (d':=n/100) (by omega) (by omega),Oz (d:=((n%100))/10) (d':=n/10%10) (by omega),Oz (d:=((n%100))%10) (d':=n%10) (by omega)];rfl⟩
theorem Bov{r n:Nat}(h0:1000≤n)(h1:n<10000):CallsH (CX mn X) 139 #[.slice (some ⟨r,1,none⟩) 4 23,.int .u64 (n:Int)] ρ ((r,oC #[.int .u8 0,.int .u8 0,.int .u8 0,.int .u8 0,.int .u8 0,.int .u8 0,.int .u8 0,.int .u8 0,.int .u8 0,.int .u8 0,.int .u8 0,.int .u8 0,.int .u8 0,.int .u8 0,.int .u8 0,.int .u8 0,.int .u8 0,.int .u8 0,.int .u8 0,.int .u8 0,.int .u8 0,.int .u8 0,.int .u8 0,.int .u8 0] 247)::σ) (fun w ρ' σ'=>ρ'=ρ∧w = .tuple #[]∧σ'=(r,oC #[.int .u8 0,.int .u8 ((dg (n/1000)).toNat:Int),.int .u8 ((dg (n/100%10)).toNat:Int),.int .u8 ((dg (n/10%10)).toNat:Int),.int .u8 ((dg (n%10)).toNat:Int),.int .u8 0,.int .u8 0,.int .u8 0,.int .u8 0,.int .u8 0,.int .u8 0,.int .u8 0,.int .u8 0,.int .u8 0,.int .u8 0,.int .u8 0,.int .u8 0,.int .u8 0,.int .u8 0,.int .u8 0,.int .u8 0,.int .u8 0,.int .u8 0,.int .u8 0] 247)::σ):=by
 refine Bq 167 [] Bvf rfl fun Q T a=>w_q rfl rfl fun C b=>Av (.slice (some ⟨r,1,none⟩) 4 23) (l_v (Acn (el:=5) Btu rfl) (Au (iV 4) (Asa b fun J k=>Ao (Cc (fun mm ee dd ρ' σ'=>(0)=mm∧[]=dd∧ρ=ρ'∧((r,oC #[.int .u8 0,.int .u8 0,.int .u8 0,.int .u8 0,.int .u8 0,.int .u8 0,.int .u8 0,.int .u8 0,.int .u8 0,.int .u8 0,.int .u8 0,.int .u8 0,.int .u8 0,.int .u8 0,.int .u8 0,.int .u8 0,.int .u8 0,.int .u8 0,.int .u8 0,.int .u8 0,.int .u8 0,.int .u8 0,.int .u8 0,.int .u8 0] 247)::σ)=σ'∧ee 0=(.slice (some ⟨r,1,none⟩) 4 23)∧ee 1=(.int .u64 (n:Int))∧ee 4=iV 4∧True) (m:=_) ⟨rfl,rfl,rfl,rfl,rfl,rfl,rfl,trivial⟩ ?_))))
 rintro m3 e3 _ _ _ ⟨rfl,rfl,rfl,rfl,h3_0,h3_1,h3_4,_⟩
 refine Asb rfl rfl fun L M U t=>l_v (Ah (v:=iV 4) h3_4) (l_v (Uy rfl rfl) (l_k t (Cg rfl rfl (Bx (kk k ?_)))))
 refine w_q rfl rfl fun N u=>l_v (Ah (v:=.int .u64 (n:Int)) h3_1) (l_v (Acf (p:=(n:Int)) (z:=(n:Int)) Bur Buo rfl (Dm (by omega) (by omega))) (Au (.int .u32 (n:Int)) (Ary rfl rfl u fun O P x y=>l_v (Ah (v:=iV 4) h3_4) (l_v (Uy rfl rfl) (l_k y (Co rfl rfl (w_q rfl rfl fun R B=>Av (.int .u32 (n:Int)) (l_v (Zf (p:=(n:Int)) (q:=10000) rfl rfl (by omega) (z:=(((n%10000):Nat):Int)) rfl) (Au (.int .u32 (((n%10000):Nat):Int)) (Arx rfl rfl B fun D c=>Av (.int .u32 (n:Int)) (l_v (Wr (p:=(n:Int)) (q:=10000) rfl rfl (by omega) (z:=(((n/10000):Nat):Int)) (Dm (p:=(((n/10000):Nat):Int)) (by omega) (by omega))) (Au (.int .u32 (((n/10000):Nat):Int)) (Arx rfl rfl c fun E e=>Av (.int .u32 (((n%10000):Nat):Int)) (l_v (Wr (p:=(((n%10000):Nat):Int)) (q:=100) rfl rfl (by omega) (z:=((((n%10000)/100):Nat):Int)) (Dm (p:=((((n%10000)/100):Nat):Int)) (by omega) (by omega))) (l_v (Wq rfl rfl (z:=(((((n%10000)/100)*2):Nat):Int)) ((Dm (by omega) (by omega)).trans (by omega))) (Av (.int .u32 (((n%10000):Nat):Int)) (l_v (Zf (p:=(((n%10000):Nat):Int)) (q:=100) rfl rfl (by omega) (z:=((((n%10000)%100):Nat):Int)) rfl) (l_v (Wq rfl rfl (z:=(((((n%10000)%100)*2):Nat):Int)) ((Dm (by omega) (by omega)).trans (by omega))) (Au (.int .u32 (((((n%10000)/100)*2):Nat):Int)) (Au (.int .u32 (((((n%10000)%100)*2):Nat):Int)) (Asa e fun F f=>Pr (Bu 0 zZ0 rfl (Ah (v:=.slice (some ⟨r,1,none⟩) 4 23) h3_0) (Bu 1 zZ7 rfl (Ah (v:=iV 4) h3_4) (Bu 2 zZ8 rfl (Ou rfl rfl (z:=3) (Bo (by omega) (by omega) (by omega))) (Bu 3 zZ9 rfl (Ah (v:=.slice (some ⟨r,1,none⟩) 4 23) h3_0) (Bu 4 Ajy rfl (Ah (v:=iV 4) h3_4) (Bu 5 Ajz rfl (Ou rfl rfl (z:=2) (Bo (by omega) (by omega) (by omega))) (Bu 6 Aka rfl (Ah (v:=.int .u32 (((((n%10000)%100)*2):Nat):Int)) rfl) (Bu 7 Akb rfl (Br rfl rfl (z:=((((((n%10000)%100)*2)+1):Nat):Int)) ((Dm (by omega) (by omega)).trans (by omega))) (Bu 8 Amg rfl (Ace ((((n%10000)%100)*2)+1) (UInt8.ofNat (48+(((n%10000)%100))%10)) Btr rfl (q:=((((((n%10000)%100)*2)+1):Nat):Int)) rfl rfl (Akz (d:=(n%10000)%100) (by omega))) (Bu 9 zZ1 rfl (Ah (v:=.int .u32 (((((n%10000)%100)*2):Nat):Int)) rfl) (Bu 10 zZ2 rfl (Ace (((n%10000)%100)*2) (UInt8.ofNat (48+(((n%10000)%100))/10)) Btr rfl (q:=(((((n%10000)%100)*2):Nat):Int)) rfl rfl (Akx (d:=(n%10000)%100) (by omega))) (Cj 11 zZ3 rfl (Afy (k':=1) 3 Btu ⟨_,Ab Btw,rfl⟩ rfl (q:=3) rfl rfl (by decide) (off':=4) rfl) (En 12 zZ4 rfl (Cz (j:=0) (v:=.int .u8 (((UInt8.ofNat (48+(((n%10000)%100))%10)).toNat:Nat):Int)) ⟨_,Ab Btw,rfl⟩ rfl rfl rfl rfl nL ⟨Bxm,?_⟩)))))))))))))))))))))))))))))))))))
 refine Cj 13 zZ5 rfl (Afy (k':=1) 2 Btu ⟨_,Ab Btw,rfl⟩ rfl (q:=2) rfl rfl (by decide) (off':=3) rfl) (En 14 zZ6 rfl (Cz (j:=0) (v:=.int .u8 (((UInt8.ofNat (48+(((n%10000)%100))/10)).toNat:Nat):Int)) ⟨_,Ab Btw,rfl⟩ rfl rfl rfl rfl nL ⟨Bxm,?_⟩))
 refine Ec rfl (kk f ?_)
 refine Ai fun G g=>Pr (Bu 0 zZ0 rfl (Ah (v:=.slice (some ⟨r,1,none⟩) 4 23) h3_0) (Bu 1 zZ7 rfl (Ah (v:=iV 4) h3_4) (Bu 2 zZ8 rfl (Ou rfl rfl (z:=1) (Bo (by omega) (by omega) (by omega))) (Bu 3 zZ9 rfl (Ah (v:=.slice (some ⟨r,1,none⟩) 4 23) h3_0) (Bu 4 Ajy rfl (Ah (v:=iV 4) h3_4) (Bu 5 Ajz rfl (Ou rfl rfl (z:=0) (Bo (by omega) (by omega) (by omega))) (Bu 6 Aka rfl (Ah (v:=.int .u32 (((((n%10000)/100)*2):Nat):Int)) rfl) (Bu 7 Akb rfl (Br rfl rfl (z:=((((((n%10000)/100)*2)+1):Nat):Int)) ((Dm (by omega) (by omega)).trans (by omega))) (Bu 8 Amg rfl (Ace ((((n%10000)/100)*2)+1) (UInt8.ofNat (48+(((n%10000)/100))%10)) Btr rfl (q:=((((((n%10000)/100)*2)+1):Nat):Int)) rfl rfl (Akz (d:=(n%10000)/100) (by omega))) (Bu 9 zZ1 rfl (Ah (v:=.int .u32 (((((n%10000)/100)*2):Nat):Int)) rfl) (Bu 10 zZ2 rfl (Ace (((n%10000)/100)*2) (UInt8.ofNat (48+(((n%10000)/100))/10)) Btr rfl (q:=(((((n%10000)/100)*2):Nat):Int)) rfl rfl (Akx (d:=(n%10000)/100) (by omega))) (Cj 11 zZ3 rfl (Afy (k':=1) 1 Btu ⟨_,Ab Btw,rfl⟩ rfl (q:=1) rfl rfl (by decide) (off':=2) rfl) (En 12 zZ4 rfl (Cz (j:=0) (v:=.int .u8 (((UInt8.ofNat (48+(((n%10000)/100))%10)).toNat:Nat):Int)) ⟨_,Ab Btw,rfl⟩ rfl rfl rfl rfl nL ⟨Bxm,?_⟩))))))))))))))
 refine Cj 13 zZ5 rfl (Afy (k':=1) 0 Btu ⟨_,Ab Btw,rfl⟩ rfl (q:=0) rfl rfl (by decide) (off':=1) rfl) (En 14 zZ6 rfl (Cz (j:=0) (v:=.int .u8 (((UInt8.ofNat (48+(((n%10000)/100))/10)).toNat:Nat):Int)) ⟨_,Ab Btw,rfl⟩ rfl rfl rfl rfl nL ⟨Bxm,?_⟩))
 refine Ec rfl (kk g ?_)
 refine Ag rfl rfl (l_v (Ah (v:=iV 4) h3_4) (l_v (Ou rfl rfl (z:=0) (Bo (by omega) (by omega) (by omega))) (Au (iV 0) (Ary rfl rfl x fun H I h i=>Av (iV 0) (l_v (Uy rfl rfl) (l_k i (Cg rfl rfl (Al (kk h ?_)))))))))
 refine w_q rfl rfl fun K l=>Av (iV 0) (l_v (Gl rfl rfl) (l_k l (Cg rfl rfl (Al (a ⟨rfl,rfl,by rw[Oz (d:=(((n%10000)/100))/10) (d':=n/1000) (by omega),Oz (d:=(((n%10000)/100))%10) (d':=n/100%10) (by omega),Oz (d:=(((n%10000)%100))/10) (d':=n/10%10) (by omega),Oz (d:=(((n%10000)%100))%10) (d':=n%10) (by omega)];rfl⟩)))))
theorem Bow{r n:Nat}(h0:10000≤n)(h1:n<100000):CallsH (CX mn X) 139 #[.slice (some ⟨r,1,none⟩) 5 23,.int .u64 (n:Int)] ρ ((r,oC #[.int .u8 0,.int .u8 0,.int .u8 0,.int .u8 0,.int .u8 0,.int .u8 0,.int .u8 0,.int .u8 0,.int .u8 0,.int .u8 0,.int .u8 0,.int .u8 0,.int .u8 0,.int .u8 0,.int .u8 0,.int .u8 0,.int .u8 0,.int .u8 0,.int .u8 0,.int .u8 0,.int .u8 0,.int .u8 0,.int .u8 0,.int .u8 0] 247)::σ) (fun w ρ' σ'=>ρ'=ρ∧w = .tuple #[]∧σ'=(r,oC #[.int .u8 0,.int .u8 ((dg (n/10000)).toNat:Int),.int .u8 ((dg (n/1000%10)).toNat:Int),.int .u8 ((dg (n/100%10)).toNat:Int),.int .u8 ((dg (n/10%10)).toNat:Int),.int .u8 ((dg (n%10)).toNat:Int),.int .u8 0,.int .u8 0,.int .u8 0,.int .u8 0,.int .u8 0,.int .u8 0,.int .u8 0,.int .u8 0,.int .u8 0,.int .u8 0,.int .u8 0,.int .u8 0,.int .u8 0,.int .u8 0,.int .u8 0,.int .u8 0,.int .u8 0,.int .u8 0] 247)::σ):=by
 refine Bq 167 [] Bvf rfl fun Q T a=>w_q rfl rfl fun C b=>Av (.slice (some ⟨r,1,none⟩) 5 23) (l_v (Acn (el:=5) Btu rfl) (Au (iV 5) (Asa b fun J k=>Ao (Cc (fun mm ee dd ρ' σ'=>(0)=mm∧[]=dd∧ρ=ρ'∧((r,oC #[.int .u8 0,.int .u8 0,.int .u8 0,.int .u8 0,.int .u8 0,.int .u8 0,.int .u8 0,.int .u8 0,.int .u8 0,.int .u8 0,.int .u8 0,.int .u8 0,.int .u8 0,.int .u8 0,.int .u8 0,.int .u8 0,.int .u8 0,.int .u8 0,.int .u8 0,.int .u8 0,.int .u8 0,.int .u8 0,.int .u8 0,.int .u8 0] 247)::σ)=σ'∧ee 0=(.slice (some ⟨r,1,none⟩) 5 23)∧ee 1=(.int .u64 (n:Int))∧ee 4=iV 5∧True) (m:=_) ⟨rfl,rfl,rfl,rfl,rfl,rfl,rfl,trivial⟩ ?_))))
 rintro m3 e3 _ _ _ ⟨rfl,rfl,rfl,rfl,h3_0,h3_1,h3_4,_⟩
 refine Asb rfl rfl fun L M U t=>l_v (Ah (v:=iV 5) h3_4) (l_v (Uy rfl rfl) (l_k t (Cg rfl rfl (Bx (kk k ?_)))))
 refine w_q rfl rfl fun N u=>l_v (Ah (v:=.int .u64 (n:Int)) h3_1) (l_v (Acf (p:=(n:Int)) (z:=(n:Int)) Bur Buo rfl (Dm (by omega) (by omega))) (Au (.int .u32 (n:Int)) (Ary rfl rfl u fun O P x y=>l_v (Ah (v:=iV 5) h3_4) (l_v (Uy rfl rfl) (l_k y (Co rfl rfl (w_q rfl rfl fun R B=>Av (.int .u32 (n:Int)) (l_v (Zf (p:=(n:Int)) (q:=10000) rfl rfl (by omega) (z:=(((n%10000):Nat):Int)) rfl) (Au (.int .u32 (((n%10000):Nat):Int)) (Arx rfl rfl B fun D c=>Av (.int .u32 (n:Int)) (l_v (Wr (p:=(n:Int)) (q:=10000) rfl rfl (by omega) (z:=(((n/10000):Nat):Int)) (Dm (p:=(((n/10000):Nat):Int)) (by omega) (by omega))) (Au (.int .u32 (((n/10000):Nat):Int)) (Arx rfl rfl c fun E e=>Av (.int .u32 (((n%10000):Nat):Int)) (l_v (Wr (p:=(((n%10000):Nat):Int)) (q:=100) rfl rfl (by omega) (z:=((((n%10000)/100):Nat):Int)) (Dm (p:=((((n%10000)/100):Nat):Int)) (by omega) (by omega))) (l_v (Wq rfl rfl (z:=(((((n%10000)/100)*2):Nat):Int)) ((Dm (by omega) (by omega)).trans (by omega))) (Av (.int .u32 (((n%10000):Nat):Int)) (l_v (Zf (p:=(((n%10000):Nat):Int)) (q:=100) rfl rfl (by omega) (z:=((((n%10000)%100):Nat):Int)) rfl) (l_v (Wq rfl rfl (z:=(((((n%10000)%100)*2):Nat):Int)) ((Dm (by omega) (by omega)).trans (by omega))) (Au (.int .u32 (((((n%10000)/100)*2):Nat):Int)) (Au (.int .u32 (((((n%10000)%100)*2):Nat):Int)) (Asa e fun F f=>Pr (Bu 0 zZ0 rfl (Ah (v:=.slice (some ⟨r,1,none⟩) 5 23) h3_0) (Bu 1 zZ7 rfl (Ah (v:=iV 5) h3_4) (Bu 2 zZ8 rfl (Ou rfl rfl (z:=4) (Bo (by omega) (by omega) (by omega))) (Bu 3 zZ9 rfl (Ah (v:=.slice (some ⟨r,1,none⟩) 5 23) h3_0) (Bu 4 Ajy rfl (Ah (v:=iV 5) h3_4) (Bu 5 Ajz rfl (Ou rfl rfl (z:=3) (Bo (by omega) (by omega) (by omega))) (Bu 6 Aka rfl (Ah (v:=.int .u32 (((((n%10000)%100)*2):Nat):Int)) rfl) (Bu 7 Akb rfl (Br rfl rfl (z:=((((((n%10000)%100)*2)+1):Nat):Int)) ((Dm (by omega) (by omega)).trans (by omega))) (Bu 8 Amg rfl (Ace ((((n%10000)%100)*2)+1) (UInt8.ofNat (48+(((n%10000)%100))%10)) Btr rfl (q:=((((((n%10000)%100)*2)+1):Nat):Int)) rfl rfl (Akz (d:=(n%10000)%100) (by omega))) (Bu 9 zZ1 rfl (Ah (v:=.int .u32 (((((n%10000)%100)*2):Nat):Int)) rfl) (Bu 10 zZ2 rfl (Ace (((n%10000)%100)*2) (UInt8.ofNat (48+(((n%10000)%100))/10)) Btr rfl (q:=(((((n%10000)%100)*2):Nat):Int)) rfl rfl (Akx (d:=(n%10000)%100) (by omega))) (Cj 11 zZ3 rfl (Afy (k':=1) 4 Btu ⟨_,Ab Btw,rfl⟩ rfl (q:=4) rfl rfl (by decide) (off':=5) rfl) (En 12 zZ4 rfl (Cz (j:=0) (v:=.int .u8 (((UInt8.ofNat (48+(((n%10000)%100))%10)).toNat:Nat):Int)) ⟨_,Ab Btw,rfl⟩ rfl rfl rfl rfl nL ⟨Bxm,?_⟩)))))))))))))))))))))))))))))))))))
 refine Cj 13 zZ5 rfl (Afy (k':=1) 3 Btu ⟨_,Ab Btw,rfl⟩ rfl (q:=3) rfl rfl (by decide) (off':=4) rfl) (En 14 zZ6 rfl (Cz (j:=0) (v:=.int .u8 (((UInt8.ofNat (48+(((n%10000)%100))/10)).toNat:Nat):Int)) ⟨_,Ab Btw,rfl⟩ rfl rfl rfl rfl nL ⟨Bxm,?_⟩))
 refine Ec rfl (kk f ?_)
 refine Ai fun G g=>Pr (Bu 0 zZ0 rfl (Ah (v:=.slice (some ⟨r,1,none⟩) 5 23) h3_0) (Bu 1 zZ7 rfl (Ah (v:=iV 5) h3_4) (Bu 2 zZ8 rfl (Ou rfl rfl (z:=2) (Bo (by omega) (by omega) (by omega))) (Bu 3 zZ9 rfl (Ah (v:=.slice (some ⟨r,1,none⟩) 5 23) h3_0) (Bu 4 Ajy rfl (Ah (v:=iV 5) h3_4) (Bu 5 Ajz rfl (Ou rfl rfl (z:=1) (Bo (by omega) (by omega) (by omega))) (Bu 6 Aka rfl (Ah (v:=.int .u32 (((((n%10000)/100)*2):Nat):Int)) rfl) (Bu 7 Akb rfl (Br rfl rfl (z:=((((((n%10000)/100)*2)+1):Nat):Int)) ((Dm (by omega) (by omega)).trans (by omega))) (Bu 8 Amg rfl (Ace ((((n%10000)/100)*2)+1) (UInt8.ofNat (48+(((n%10000)/100))%10)) Btr rfl (q:=((((((n%10000)/100)*2)+1):Nat):Int)) rfl rfl (Akz (d:=(n%10000)/100) (by omega))) (Bu 9 zZ1 rfl (Ah (v:=.int .u32 (((((n%10000)/100)*2):Nat):Int)) rfl) (Bu 10 zZ2 rfl (Ace (((n%10000)/100)*2) (UInt8.ofNat (48+(((n%10000)/100))/10)) Btr rfl (q:=(((((n%10000)/100)*2):Nat):Int)) rfl rfl (Akx (d:=(n%10000)/100) (by omega))) (Cj 11 zZ3 rfl (Afy (k':=1) 2 Btu ⟨_,Ab Btw,rfl⟩ rfl (q:=2) rfl rfl (by decide) (off':=3) rfl) (En 12 zZ4 rfl (Cz (j:=0) (v:=.int .u8 (((UInt8.ofNat (48+(((n%10000)/100))%10)).toNat:Nat):Int)) ⟨_,Ab Btw,rfl⟩ rfl rfl rfl rfl nL ⟨Bxm,?_⟩))))))))))))))
 refine Cj 13 zZ5 rfl (Afy (k':=1) 1 Btu ⟨_,Ab Btw,rfl⟩ rfl (q:=1) rfl rfl (by decide) (off':=2) rfl) (En 14 zZ6 rfl (Cz (j:=0) (v:=.int .u8 (((UInt8.ofNat (48+(((n%10000)/100))/10)).toNat:Nat):Int)) ⟨_,Ab Btw,rfl⟩ rfl rfl rfl rfl nL ⟨Bxm,?_⟩))
 refine Ec rfl (kk g ?_)
 refine Ag rfl rfl (l_v (Ah (v:=iV 5) h3_4) (l_v (Ou rfl rfl (z:=1) (Bo (by omega) (by omega) (by omega))) (Au (iV 1) (Ary rfl rfl x fun H I h i=>Av (iV 1) (l_v (Uy rfl rfl) (l_k i (Cg rfl rfl (Al (kk h ?_)))))))))
 refine w_q rfl rfl fun K l=>Av (iV 1) (l_v (Gl rfl rfl) (l_k l (Co rfl rfl (Ag rfl rfl (l_v (Ah (v:=.slice (some ⟨r,1,none⟩) 5 23) h3_0) (Av (.int .u32 (((n/10000):Nat):Int)) (l_v (Br rfl rfl (z:=(((48+(n/10000)):Nat):Int)) ((Dm (by omega) (by omega)).trans (by omega))) (l_v (Acf (p:=(((48+(n/10000)):Nat):Int)) (z:=(((48+(n/10000)):Nat):Int)) Buo Bud rfl (Anq (by omega) (by omega))) (l_v (Afy (k':=1) 0 Btu ⟨_,Ab Btw,rfl⟩ rfl (q:=0) rfl rfl (by decide) (off':=1) rfl) (Cx rfl (Cz (j:=0) (v:=.int .u8 (((48+(n/10000)):Nat):Int)) ⟨_,Ab Btw,rfl⟩ rfl rfl rfl rfl nL ?_)))))))))))
 apply Ac
 refine a ⟨rfl,rfl,by rw[Beu (d:=n/10000) (d':=n/10000) (by omega) (by omega),Oz (d:=(((n%10000)/100))/10) (d':=n/1000%10) (by omega),Oz (d:=(((n%10000)/100))%10) (d':=n/100%10) (by omega),Oz (d:=(((n%10000)%100))/10) (d':=n/10%10) (by omega),Oz (d:=(((n%10000)%100))%10) (d':=n%10) (by omega)];rfl⟩
theorem Box{r n:Nat}(h0:100000≤n)(h1:n<1000000):CallsH (CX mn X) 139 #[.slice (some ⟨r,1,none⟩) 6 23,.int .u64 (n:Int)] ρ ((r,oC #[.int .u8 0,.int .u8 0,.int .u8 0,.int .u8 0,.int .u8 0,.int .u8 0,.int .u8 0,.int .u8 0,.int .u8 0,.int .u8 0,.int .u8 0,.int .u8 0,.int .u8 0,.int .u8 0,.int .u8 0,.int .u8 0,.int .u8 0,.int .u8 0,.int .u8 0,.int .u8 0,.int .u8 0,.int .u8 0,.int .u8 0,.int .u8 0] 247)::σ) (fun w ρ' σ'=>ρ'=ρ∧w = .tuple #[]∧σ'=(r,oC #[.int .u8 0,.int .u8 ((dg (n/100000)).toNat:Int),.int .u8 ((dg (n/10000%10)).toNat:Int),.int .u8 ((dg (n/1000%10)).toNat:Int),.int .u8 ((dg (n/100%10)).toNat:Int),.int .u8 ((dg (n/10%10)).toNat:Int),.int .u8 ((dg (n%10)).toNat:Int),.int .u8 0,.int .u8 0,.int .u8 0,.int .u8 0,.int .u8 0,.int .u8 0,.int .u8 0,.int .u8 0,.int .u8 0,.int .u8 0,.int .u8 0,.int .u8 0,.int .u8 0,.int .u8 0,.int .u8 0,.int .u8 0,.int .u8 0] 247)::σ):=by
 refine Bq 167 [] Bvf rfl fun Q a0 a=>w_q rfl rfl fun F b=>Av (.slice (some ⟨r,1,none⟩) 6 23) (l_v (Acn (el:=5) Btu rfl) (Au (iV 6) (Asa b fun M k=>Ao (Cc (fun mm ee dd ρ' σ'=>(0)=mm∧[]=dd∧ρ=ρ'∧((r,oC #[.int .u8 0,.int .u8 0,.int .u8 0,.int .u8 0,.int .u8 0,.int .u8 0,.int .u8 0,.int .u8 0,.int .u8 0,.int .u8 0,.int .u8 0,.int .u8 0,.int .u8 0,.int .u8 0,.int .u8 0,.int .u8 0,.int .u8 0,.int .u8 0,.int .u8 0,.int .u8 0,.int .u8 0,.int .u8 0,.int .u8 0,.int .u8 0] 247)::σ)=σ'∧ee 0=(.slice (some ⟨r,1,none⟩) 6 23)∧ee 1=(.int .u64 (n:Int))∧ee 4=iV 6∧True) (m:=_) ⟨rfl,rfl,rfl,rfl,rfl,rfl,rfl,trivial⟩ ?_))))
 rintro m3 e3 _ _ _ ⟨rfl,rfl,rfl,rfl,h3_0,h3_1,h3_4,_⟩
 refine Asb rfl rfl fun T U k4 y=>l_v (Ah (v:=iV 6) h3_4) (l_v (Uy rfl rfl) (l_k y (Cg rfl rfl (Bx (kk k ?_)))))
 refine w_q rfl rfl fun V B=>l_v (Ah (v:=.int .u64 (n:Int)) h3_1) (l_v (Acf (p:=(n:Int)) (z:=(n:Int)) Bur Buo rfl (Dm (by omega) (by omega))) (Au (.int .u32 (n:Int)) (Ary rfl rfl B fun W Y C D=>l_v (Ah (v:=iV 6) h3_4) (l_v (Uy rfl rfl) (l_k D (Co rfl rfl (w_q rfl rfl fun Z E=>Av (.int .u32 (n:Int)) (l_v (Zf (p:=(n:Int)) (q:=10000) rfl rfl (by omega) (z:=(((n%10000):Nat):Int)) rfl) (Au (.int .u32 (((n%10000):Nat):Int)) (Arx rfl rfl E fun G c=>Av (.int .u32 (n:Int)) (l_v (Wr (p:=(n:Int)) (q:=10000) rfl rfl (by omega) (z:=(((n/10000):Nat):Int)) (Dm (p:=(((n/10000):Nat):Int)) (by omega) (by omega))) (Au (.int .u32 (((n/10000):Nat):Int)) (Arx rfl rfl c fun H e=>Av (.int .u32 (((n%10000):Nat):Int)) (l_v (Wr (p:=(((n%10000):Nat):Int)) (q:=100) rfl rfl (by omega) (z:=((((n%10000)/100):Nat):Int)) (Dm (p:=((((n%10000)/100):Nat):Int)) (by omega) (by omega))) (l_v (Wq rfl rfl (z:=(((((n%10000)/100)*2):Nat):Int)) ((Dm (by omega) (by omega)).trans (by omega))) (Av (.int .u32 (((n%10000):Nat):Int)) (l_v (Zf (p:=(((n%10000):Nat):Int)) (q:=100) rfl rfl (by omega) (z:=((((n%10000)%100):Nat):Int)) rfl) (l_v (Wq rfl rfl (z:=(((((n%10000)%100)*2):Nat):Int)) ((Dm (by omega) (by omega)).trans (by omega))) (Au (.int .u32 (((((n%10000)/100)*2):Nat):Int)) (Au (.int .u32 (((((n%10000)%100)*2):Nat):Int)) (Asa e fun I f=>Pr (Bu 0 zZ0 rfl (Ah (v:=.slice (some ⟨r,1,none⟩) 6 23) h3_0) (Bu 1 zZ7 rfl (Ah (v:=iV 6) h3_4) (Bu 2 zZ8 rfl (Ou rfl rfl (z:=5) (Bo (by omega) (by omega) (by omega))) (Bu 3 zZ9 rfl (Ah (v:=.slice (some ⟨r,1,none⟩) 6 23) h3_0) (Bu 4 Ajy rfl (Ah (v:=iV 6) h3_4) (Bu 5 Ajz rfl (Ou rfl rfl (z:=4) (Bo (by omega) (by omega) (by omega))) (Bu 6 Aka rfl (Ah (v:=.int .u32 (((((n%10000)%100)*2):Nat):Int)) rfl) (Bu 7 Akb rfl (Br rfl rfl (z:=((((((n%10000)%100)*2)+1):Nat):Int)) ((Dm (by omega) (by omega)).trans (by omega))) (Bu 8 Amg rfl (Ace ((((n%10000)%100)*2)+1) (UInt8.ofNat (48+(((n%10000)%100))%10)) Btr rfl (q:=((((((n%10000)%100)*2)+1):Nat):Int)) rfl rfl (Akz (d:=(n%10000)%100) (by omega))) (Bu 9 zZ1 rfl (Ah (v:=.int .u32 (((((n%10000)%100)*2):Nat):Int)) rfl) (Bu 10 zZ2 rfl (Ace (((n%10000)%100)*2) (UInt8.ofNat (48+(((n%10000)%100))/10)) Btr rfl (q:=(((((n%10000)%100)*2):Nat):Int)) rfl rfl (Akx (d:=(n%10000)%100) (by omega))) (Cj 11 zZ3 rfl (Afy (k':=1) 5 Btu ⟨_,Ab Btw,rfl⟩ rfl (q:=5) rfl rfl (by decide) (off':=6) rfl) (En 12 zZ4 rfl (Cz (j:=0) (v:=.int .u8 (((UInt8.ofNat (48+(((n%10000)%100))%10)).toNat:Nat):Int)) ⟨_,Ab Btw,rfl⟩ rfl rfl rfl rfl nL ⟨Bxm,?_⟩)))))))))))))))))))))))))))))))))))
 refine Cj 13 zZ5 rfl (Afy (k':=1) 4 Btu ⟨_,Ab Btw,rfl⟩ rfl (q:=4) rfl rfl (by decide) (off':=5) rfl) (En 14 zZ6 rfl (Cz (j:=0) (v:=.int .u8 (((UInt8.ofNat (48+(((n%10000)%100))/10)).toNat:Nat):Int)) ⟨_,Ab Btw,rfl⟩ rfl rfl rfl rfl nL ⟨Bxm,?_⟩))
 refine Ec rfl (kk f ?_)
 refine Ai fun J g=>Pr (Bu 0 zZ0 rfl (Ah (v:=.slice (some ⟨r,1,none⟩) 6 23) h3_0) (Bu 1 zZ7 rfl (Ah (v:=iV 6) h3_4) (Bu 2 zZ8 rfl (Ou rfl rfl (z:=3) (Bo (by omega) (by omega) (by omega))) (Bu 3 zZ9 rfl (Ah (v:=.slice (some ⟨r,1,none⟩) 6 23) h3_0) (Bu 4 Ajy rfl (Ah (v:=iV 6) h3_4) (Bu 5 Ajz rfl (Ou rfl rfl (z:=2) (Bo (by omega) (by omega) (by omega))) (Bu 6 Aka rfl (Ah (v:=.int .u32 (((((n%10000)/100)*2):Nat):Int)) rfl) (Bu 7 Akb rfl (Br rfl rfl (z:=((((((n%10000)/100)*2)+1):Nat):Int)) ((Dm (by omega) (by omega)).trans (by omega))) (Bu 8 Amg rfl (Ace ((((n%10000)/100)*2)+1) (UInt8.ofNat (48+(((n%10000)/100))%10)) Btr rfl (q:=((((((n%10000)/100)*2)+1):Nat):Int)) rfl rfl (Akz (d:=(n%10000)/100) (by omega))) (Bu 9 zZ1 rfl (Ah (v:=.int .u32 (((((n%10000)/100)*2):Nat):Int)) rfl) (Bu 10 zZ2 rfl (Ace (((n%10000)/100)*2) (UInt8.ofNat (48+(((n%10000)/100))/10)) Btr rfl (q:=(((((n%10000)/100)*2):Nat):Int)) rfl rfl (Akx (d:=(n%10000)/100) (by omega))) (Cj 11 zZ3 rfl (Afy (k':=1) 3 Btu ⟨_,Ab Btw,rfl⟩ rfl (q:=3) rfl rfl (by decide) (off':=4) rfl) (En 12 zZ4 rfl (Cz (j:=0) (v:=.int .u8 (((UInt8.ofNat (48+(((n%10000)/100))%10)).toNat:Nat):Int)) ⟨_,Ab Btw,rfl⟩ rfl rfl rfl rfl nL ⟨Bxm,?_⟩))))))))))))))
 refine Cj 13 zZ5 rfl (Afy (k':=1) 2 Btu ⟨_,Ab Btw,rfl⟩ rfl (q:=2) rfl rfl (by decide) (off':=3) rfl) (En 14 zZ6 rfl (Cz (j:=0) (v:=.int .u8 (((UInt8.ofNat (48+(((n%10000)/100))/10)).toNat:Nat):Int)) ⟨_,Ab Btw,rfl⟩ rfl rfl rfl rfl nL ⟨Bxm,?_⟩))
 refine Ec rfl (kk g ?_)
 refine Ag rfl rfl (l_v (Ah (v:=iV 6) h3_4) (l_v (Ou rfl rfl (z:=2) (Bo (by omega) (by omega) (by omega))) (Au (iV 2) (Ary rfl rfl C fun K L h i=>Av (iV 2) (l_v (Uy rfl rfl) (l_k i (Co rfl rfl (w_q rfl rfl fun N l=>Av (.int .u32 (((n/10000):Nat):Int)) (l_v (Zf (p:=(((n/10000):Nat):Int)) (q:=100) rfl rfl (by omega) (z:=((((n/10000)%100):Nat):Int)) rfl) (l_v (Wq rfl rfl (z:=(((((n/10000)%100)*2):Nat):Int)) ((Dm (by omega) (by omega)).trans (by omega))) (Au (.int .u32 (((((n/10000)%100)*2):Nat):Int)) (Arx rfl rfl l fun O t=>Av (.int .u32 (((n/10000):Nat):Int)) (l_v (Wr (p:=(((n/10000):Nat):Int)) (q:=100) rfl rfl (by omega) (z:=((((n/10000)/100):Nat):Int)) (Dm (p:=((((n/10000)/100):Nat):Int)) (by omega) (by omega))) (Au (.int .u32 ((((n/10000)/100):Nat):Int)) (Asa t fun P u=>Pr (Bu 0 zZ0 rfl (Ah (v:=.slice (some ⟨r,1,none⟩) 6 23) h3_0) (Bu 1 zZ7 rfl (Ah (v:=iV 2) rfl) (Bu 2 zZ8 rfl (Ou rfl rfl (z:=1) (Bo (by omega) (by omega) (by omega))) (Bu 3 zZ9 rfl (Ah (v:=.slice (some ⟨r,1,none⟩) 6 23) h3_0) (Bu 4 Ajy rfl (Ah (v:=iV 2) rfl) (Bu 5 Ajz rfl (Ou rfl rfl (z:=0) (Bo (by omega) (by omega) (by omega))) (Bu 6 Aka rfl (Ah (v:=.int .u32 (((((n/10000)%100)*2):Nat):Int)) rfl) (Bu 7 Akb rfl (Br rfl rfl (z:=((((((n/10000)%100)*2)+1):Nat):Int)) ((Dm (by omega) (by omega)).trans (by omega))) (Bu 8 Amg rfl (Ace ((((n/10000)%100)*2)+1) (UInt8.ofNat (48+(((n/10000)%100))%10)) Btr rfl (q:=((((((n/10000)%100)*2)+1):Nat):Int)) rfl rfl (Akz (d:=(n/10000)%100) (by omega))) (Bu 9 zZ1 rfl (Ah (v:=.int .u32 (((((n/10000)%100)*2):Nat):Int)) rfl) (Bu 10 zZ2 rfl (Ace (((n/10000)%100)*2) (UInt8.ofNat (48+(((n/10000)%100))/10)) Btr rfl (q:=(((((n/10000)%100)*2):Nat):Int)) rfl rfl (Akx (d:=(n/10000)%100) (by omega))) (Cj 11 zZ3 rfl (Afy (k':=1) 1 Btu ⟨_,Ab Btw,rfl⟩ rfl (q:=1) rfl rfl (by decide) (off':=2) rfl) (En 12 zZ4 rfl (Cz (j:=0) (v:=.int .u8 (((UInt8.ofNat (48+(((n/10000)%100))%10)).toNat:Nat):Int)) ⟨_,Ab Btw,rfl⟩ rfl rfl rfl rfl nL ⟨Bxm,?_⟩)))))))))))))))))))))))))))))
 refine Cj 13 zZ5 rfl (Afy (k':=1) 0 Btu ⟨_,Ab Btw,rfl⟩ rfl (q:=0) rfl rfl (by decide) (off':=1) rfl) (En 14 zZ6 rfl (Cz (j:=0) (v:=.int .u8 (((UInt8.ofNat (48+(((n/10000)%100))/10)).toNat:Nat):Int)) ⟨_,Ab Btw,rfl⟩ rfl rfl rfl rfl nL ⟨Bxm,?_⟩))
 refine Ec rfl (kk u ?_)
 refine Ag rfl rfl (Av (iV 2) (l_v (Ou rfl rfl (z:=0) (Bo (by omega) (by omega) (by omega))) (Au (iV 0) (Arx rfl rfl h fun R x=>Av (iV 0) (l_v (Gl rfl rfl) (l_k x (Cg rfl rfl (Al (a ⟨rfl,rfl,by rw[Oz (d:=(((n/10000)%100))/10) (d':=n/100000) (by omega),Oz (d:=(((n/10000)%100))%10) (d':=n/10000%10) (by omega),Oz (d:=(((n%10000)/100))/10) (d':=n/1000%10) (by omega),Oz (d:=(((n%10000)/100))%10) (d':=n/100%10) (by omega),Oz (d:=(((n%10000)%100))/10) (d':=n/10%10) (by omega),Oz (d:=(((n%10000)%100))%10) (d':=n%10) (by omega)];rfl⟩)))))))))
theorem Boy{r n:Nat}(h0:1000000≤n)(h1:n<1000001):CallsH (CX mn X) 139 #[.slice (some ⟨r,1,none⟩) 7 23,.int .u64 (n:Int)] ρ ((r,oC #[.int .u8 0,.int .u8 0,.int .u8 0,.int .u8 0,.int .u8 0,.int .u8 0,.int .u8 0,.int .u8 0,.int .u8 0,.int .u8 0,.int .u8 0,.int .u8 0,.int .u8 0,.int .u8 0,.int .u8 0,.int .u8 0,.int .u8 0,.int .u8 0,.int .u8 0,.int .u8 0,.int .u8 0,.int .u8 0,.int .u8 0,.int .u8 0] 247)::σ) (fun w ρ' σ'=>ρ'=ρ∧w = .tuple #[]∧σ'=(r,oC #[.int .u8 0,.int .u8 ((dg (n/1000000)).toNat:Int),.int .u8 ((dg (n/100000%10)).toNat:Int),.int .u8 ((dg (n/10000%10)).toNat:Int),.int .u8 ((dg (n/1000%10)).toNat:Int),.int .u8 ((dg (n/100%10)).toNat:Int),.int .u8 ((dg (n/10%10)).toNat:Int),.int .u8 ((dg (n%10)).toNat:Int),.int .u8 0,.int .u8 0,.int .u8 0,.int .u8 0,.int .u8 0,.int .u8 0,.int .u8 0,.int .u8 0,.int .u8 0,.int .u8 0,.int .u8 0,.int .u8 0,.int .u8 0,.int .u8 0,.int .u8 0,.int .u8 0] 247)::σ):=by
 refine Bq 167 [] Bvf rfl fun Q a0 a=>w_q rfl rfl fun F b=>Av (.slice (some ⟨r,1,none⟩) 7 23) (l_v (Acn (el:=5) Btu rfl) (Au (iV 7) (Asa b fun M k=>Ao (Cc (fun mm ee dd ρ' σ'=>(0)=mm∧[]=dd∧ρ=ρ'∧((r,oC #[.int .u8 0,.int .u8 0,.int .u8 0,.int .u8 0,.int .u8 0,.int .u8 0,.int .u8 0,.int .u8 0,.int .u8 0,.int .u8 0,.int .u8 0,.int .u8 0,.int .u8 0,.int .u8 0,.int .u8 0,.int .u8 0,.int .u8 0,.int .u8 0,.int .u8 0,.int .u8 0,.int .u8 0,.int .u8 0,.int .u8 0,.int .u8 0] 247)::σ)=σ'∧ee 0=(.slice (some ⟨r,1,none⟩) 7 23)∧ee 1=(.int .u64 (n:Int))∧ee 4=iV 7∧True) (m:=_) ⟨rfl,rfl,rfl,rfl,rfl,rfl,rfl,trivial⟩ ?_))))
 rintro m3 e3 _ _ _ ⟨rfl,rfl,rfl,rfl,h3_0,h3_1,h3_4,_⟩
 refine Asb rfl rfl fun T U k4 y=>l_v (Ah (v:=iV 7) h3_4) (l_v (Uy rfl rfl) (l_k y (Cg rfl rfl (Bx (kk k ?_)))))
 refine w_q rfl rfl fun V B=>l_v (Ah (v:=.int .u64 (n:Int)) h3_1) (l_v (Acf (p:=(n:Int)) (z:=(n:Int)) Bur Buo rfl (Dm (by omega) (by omega))) (Au (.int .u32 (n:Int)) (Ary rfl rfl B fun W Y C D=>l_v (Ah (v:=iV 7) h3_4) (l_v (Uy rfl rfl) (l_k D (Co rfl rfl (w_q rfl rfl fun Z E=>Av (.int .u32 (n:Int)) (l_v (Zf (p:=(n:Int)) (q:=10000) rfl rfl (by omega) (z:=(((n%10000):Nat):Int)) rfl) (Au (.int .u32 (((n%10000):Nat):Int)) (Arx rfl rfl E fun G c=>Av (.int .u32 (n:Int)) (l_v (Wr (p:=(n:Int)) (q:=10000) rfl rfl (by omega) (z:=(((n/10000):Nat):Int)) (Dm (p:=(((n/10000):Nat):Int)) (by omega) (by omega))) (Au (.int .u32 (((n/10000):Nat):Int)) (Arx rfl rfl c fun H e=>Av (.int .u32 (((n%10000):Nat):Int)) (l_v (Wr (p:=(((n%10000):Nat):Int)) (q:=100) rfl rfl (by omega) (z:=((((n%10000)/100):Nat):Int)) (Dm (p:=((((n%10000)/100):Nat):Int)) (by omega) (by omega))) (l_v (Wq rfl rfl (z:=(((((n%10000)/100)*2):Nat):Int)) ((Dm (by omega) (by omega)).trans (by omega))) (Av (.int .u32 (((n%10000):Nat):Int)) (l_v (Zf (p:=(((n%10000):Nat):Int)) (q:=100) rfl rfl (by omega) (z:=((((n%10000)%100):Nat):Int)) rfl) (l_v (Wq rfl rfl (z:=(((((n%10000)%100)*2):Nat):Int)) ((Dm (by omega) (by omega)).trans (by omega))) (Au (.int .u32 (((((n%10000)/100)*2):Nat):Int)) (Au (.int .u32 (((((n%10000)%100)*2):Nat):Int)) (Asa e fun I f=>Pr (Bu 0 zZ0 rfl (Ah (v:=.slice (some ⟨r,1,none⟩) 7 23) h3_0) (Bu 1 zZ7 rfl (Ah (v:=iV 7) h3_4) (Bu 2 zZ8 rfl (Ou rfl rfl (z:=6) (Bo (by omega) (by omega) (by omega))) (Bu 3 zZ9 rfl (Ah (v:=.slice (some ⟨r,1,none⟩) 7 23) h3_0) (Bu 4 Ajy rfl (Ah (v:=iV 7) h3_4) (Bu 5 Ajz rfl (Ou rfl rfl (z:=5) (Bo (by omega) (by omega) (by omega))) (Bu 6 Aka rfl (Ah (v:=.int .u32 (((((n%10000)%100)*2):Nat):Int)) rfl) (Bu 7 Akb rfl (Br rfl rfl (z:=((((((n%10000)%100)*2)+1):Nat):Int)) ((Dm (by omega) (by omega)).trans (by omega))) (Bu 8 Amg rfl (Ace ((((n%10000)%100)*2)+1) (UInt8.ofNat (48+(((n%10000)%100))%10)) Btr rfl (q:=((((((n%10000)%100)*2)+1):Nat):Int)) rfl rfl (Akz (d:=(n%10000)%100) (by omega))) (Bu 9 zZ1 rfl (Ah (v:=.int .u32 (((((n%10000)%100)*2):Nat):Int)) rfl) (Bu 10 zZ2 rfl (Ace (((n%10000)%100)*2) (UInt8.ofNat (48+(((n%10000)%100))/10)) Btr rfl (q:=(((((n%10000)%100)*2):Nat):Int)) rfl rfl (Akx (d:=(n%10000)%100) (by omega))) (Cj 11 zZ3 rfl (Afy (k':=1) 6 Btu ⟨_,Ab Btw,rfl⟩ rfl (q:=6) rfl rfl (by decide) (off':=7) rfl) (En 12 zZ4 rfl (Cz (j:=0) (v:=.int .u8 (((UInt8.ofNat (48+(((n%10000)%100))%10)).toNat:Nat):Int)) ⟨_,Ab Btw,rfl⟩ rfl rfl rfl rfl nL ⟨Bxm,?_⟩)))))))))))))))))))))))))))))))))))
 refine Cj 13 zZ5 rfl (Afy (k':=1) 5 Btu ⟨_,Ab Btw,rfl⟩ rfl (q:=5) rfl rfl (by decide) (off':=6) rfl) (En 14 zZ6 rfl (Cz (j:=0) (v:=.int .u8 (((UInt8.ofNat (48+(((n%10000)%100))/10)).toNat:Nat):Int)) ⟨_,Ab Btw,rfl⟩ rfl rfl rfl rfl nL ⟨Bxm,?_⟩))
 refine Ec rfl (kk f ?_)
 refine Ai fun J g=>Pr (Bu 0 zZ0 rfl (Ah (v:=.slice (some ⟨r,1,none⟩) 7 23) h3_0) (Bu 1 zZ7 rfl (Ah (v:=iV 7) h3_4) (Bu 2 zZ8 rfl (Ou rfl rfl (z:=4) (Bo (by omega) (by omega) (by omega))) (Bu 3 zZ9 rfl (Ah (v:=.slice (some ⟨r,1,none⟩) 7 23) h3_0) (Bu 4 Ajy rfl (Ah (v:=iV 7) h3_4) (Bu 5 Ajz rfl (Ou rfl rfl (z:=3) (Bo (by omega) (by omega) (by omega))) (Bu 6 Aka rfl (Ah (v:=.int .u32 (((((n%10000)/100)*2):Nat):Int)) rfl) (Bu 7 Akb rfl (Br rfl rfl (z:=((((((n%10000)/100)*2)+1):Nat):Int)) ((Dm (by omega) (by omega)).trans (by omega))) (Bu 8 Amg rfl (Ace ((((n%10000)/100)*2)+1) (UInt8.ofNat (48+(((n%10000)/100))%10)) Btr rfl (q:=((((((n%10000)/100)*2)+1):Nat):Int)) rfl rfl (Akz (d:=(n%10000)/100) (by omega))) (Bu 9 zZ1 rfl (Ah (v:=.int .u32 (((((n%10000)/100)*2):Nat):Int)) rfl) (Bu 10 zZ2 rfl (Ace (((n%10000)/100)*2) (UInt8.ofNat (48+(((n%10000)/100))/10)) Btr rfl (q:=(((((n%10000)/100)*2):Nat):Int)) rfl rfl (Akx (d:=(n%10000)/100) (by omega))) (Cj 11 zZ3 rfl (Afy (k':=1) 4 Btu ⟨_,Ab Btw,rfl⟩ rfl (q:=4) rfl rfl (by decide) (off':=5) rfl) (En 12 zZ4 rfl (Cz (j:=0) (v:=.int .u8 (((UInt8.ofNat (48+(((n%10000)/100))%10)).toNat:Nat):Int)) ⟨_,Ab Btw,rfl⟩ rfl rfl rfl rfl nL ⟨Bxm,?_⟩))))))))))))))
 refine Cj 13 zZ5 rfl (Afy (k':=1) 3 Btu ⟨_,Ab Btw,rfl⟩ rfl (q:=3) rfl rfl (by decide) (off':=4) rfl) (En 14 zZ6 rfl (Cz (j:=0) (v:=.int .u8 (((UInt8.ofNat (48+(((n%10000)/100))/10)).toNat:Nat):Int)) ⟨_,Ab Btw,rfl⟩ rfl rfl rfl rfl nL ⟨Bxm,?_⟩))
 refine Ec rfl (kk g ?_)
 refine Ag rfl rfl (l_v (Ah (v:=iV 7) h3_4) (l_v (Ou rfl rfl (z:=3) (Bo (by omega) (by omega) (by omega))) (Au (iV 3) (Ary rfl rfl C fun K L h i=>Av (iV 3) (l_v (Uy rfl rfl) (l_k i (Co rfl rfl (w_q rfl rfl fun N l=>Av (.int .u32 (((n/10000):Nat):Int)) (l_v (Zf (p:=(((n/10000):Nat):Int)) (q:=100) rfl rfl (by omega) (z:=((((n/10000)%100):Nat):Int)) rfl) (l_v (Wq rfl rfl (z:=(((((n/10000)%100)*2):Nat):Int)) ((Dm (by omega) (by omega)).trans (by omega))) (Au (.int .u32 (((((n/10000)%100)*2):Nat):Int)) (Arx rfl rfl l fun O t=>Av (.int .u32 (((n/10000):Nat):Int)) (l_v (Wr (p:=(((n/10000):Nat):Int)) (q:=100) rfl rfl (by omega) (z:=((((n/10000)/100):Nat):Int)) (Dm (p:=((((n/10000)/100):Nat):Int)) (by omega) (by omega))) (Au (.int .u32 ((((n/10000)/100):Nat):Int)) (Asa t fun P u=>Pr (Bu 0 zZ0 rfl (Ah (v:=.slice (some ⟨r,1,none⟩) 7 23) h3_0) (Bu 1 zZ7 rfl (Ah (v:=iV 3) rfl) (Bu 2 zZ8 rfl (Ou rfl rfl (z:=2) (Bo (by omega) (by omega) (by omega))) (Bu 3 zZ9 rfl (Ah (v:=.slice (some ⟨r,1,none⟩) 7 23) h3_0) (Bu 4 Ajy rfl (Ah (v:=iV 3) rfl) (Bu 5 Ajz rfl (Ou rfl rfl (z:=1) (Bo (by omega) (by omega) (by omega))) (Bu 6 Aka rfl (Ah (v:=.int .u32 (((((n/10000)%100)*2):Nat):Int)) rfl) (Bu 7 Akb rfl (Br rfl rfl (z:=((((((n/10000)%100)*2)+1):Nat):Int)) ((Dm (by omega) (by omega)).trans (by omega))) (Bu 8 Amg rfl (Ace ((((n/10000)%100)*2)+1) (UInt8.ofNat (48+(((n/10000)%100))%10)) Btr rfl (q:=((((((n/10000)%100)*2)+1):Nat):Int)) rfl rfl (Akz (d:=(n/10000)%100) (by omega))) (Bu 9 zZ1 rfl (Ah (v:=.int .u32 (((((n/10000)%100)*2):Nat):Int)) rfl) (Bu 10 zZ2 rfl (Ace (((n/10000)%100)*2) (UInt8.ofNat (48+(((n/10000)%100))/10)) Btr rfl (q:=(((((n/10000)%100)*2):Nat):Int)) rfl rfl (Akx (d:=(n/10000)%100) (by omega))) (Cj 11 zZ3 rfl (Afy (k':=1) 2 Btu ⟨_,Ab Btw,rfl⟩ rfl (q:=2) rfl rfl (by decide) (off':=3) rfl) (En 12 zZ4 rfl (Cz (j:=0) (v:=.int .u8 (((UInt8.ofNat (48+(((n/10000)%100))%10)).toNat:Nat):Int)) ⟨_,Ab Btw,rfl⟩ rfl rfl rfl rfl nL ⟨Bxm,?_⟩)))))))))))))))))))))))))))))
 refine Cj 13 zZ5 rfl (Afy (k':=1) 1 Btu ⟨_,Ab Btw,rfl⟩ rfl (q:=1) rfl rfl (by decide) (off':=2) rfl) (En 14 zZ6 rfl (Cz (j:=0) (v:=.int .u8 (((UInt8.ofNat (48+(((n/10000)%100))/10)).toNat:Nat):Int)) ⟨_,Ab Btw,rfl⟩ rfl rfl rfl rfl nL ⟨Bxm,?_⟩))
 refine Ec rfl (kk u ?_)
 refine Ag rfl rfl (Av (iV 3) (l_v (Ou rfl rfl (z:=1) (Bo (by omega) (by omega) (by omega))) (Au (iV 1) (Arx rfl rfl h fun R x=>Av (iV 1) (l_v (Gl rfl rfl) (l_k x (Co rfl rfl (Ag rfl rfl (l_v (Ah (v:=.slice (some ⟨r,1,none⟩) 7 23) h3_0) (Av (.int .u32 ((((n/10000)/100):Nat):Int)) (l_v (Br rfl rfl (z:=(((48+((n/10000)/100)):Nat):Int)) ((Dm (by omega) (by omega)).trans (by omega))) (l_v (Acf (p:=(((48+((n/10000)/100)):Nat):Int)) (z:=(((48+((n/10000)/100)):Nat):Int)) Buo Bud rfl (Anq (by omega) (by omega))) (l_v (Afy (k':=1) 0 Btu ⟨_,Ab Btw,rfl⟩ rfl (q:=0) rfl rfl (by decide) (off':=1) rfl) (Cx rfl (Cz (j:=0) (v:=.int .u8 (((48+((n/10000)/100)):Nat):Int)) ⟨_,Ab Btw,rfl⟩ rfl rfl rfl rfl nL ?_)))))))))))))))
 apply Ac
 refine a ⟨rfl,rfl,by rw[Beu (d:=(n/10000)/100) (d':=n/1000000) (by omega) (by omega),Oz (d:=(((n/10000)%100))/10) (d':=n/100000%10) (by omega),Oz (d:=(((n/10000)%100))%10) (d':=n/10000%10) (by omega),Oz (d:=(((n%10000)/100))/10) (d':=n/1000%10) (by omega),Oz (d:=(((n%10000)/100))%10) (d':=n/100%10) (by omega),Oz (d:=(((n%10000)%100))/10) (d':=n/10%10) (by omega),Oz (d:=(((n%10000)%100))%10) (d':=n%10) (by omega)];rfl⟩
end
section
open Go
variable{mn:Bool}{X:Frame→List Frame→Ro→Own→Cy→Prop}{ρ:Ro}{σ:Own}
theorem Bbq{n:Nat}(h1:n<100):CallsH (CX mn X) 116 #[iV n,iV 10] ρ σ (rP ρ σ (.string (bs (Lr n)))):=by
 refine Bq 54 [4] Bvq rfl fun Q a l=>w_q rfl rfl fun f b=>Au (.string (ByteArray.mk #[])) (Ary rfl rfl b fun g h m c=>Av (iV 10) (l_v (Ek rfl rfl) (l_k c (Co rfl rfl (Asb rfl rfl fun i j p d=>Av (iV n) (l_v (Uz rfl rfl) (Av (.bool (decide (0≤(n:Int)))) (l_M (iV n) (gY rfl (Hx (by omega))) rfl (Aa (gY rfl (Hx (by omega))) (Da rfl rfl) (l_v (Bt rfl (Hx (by omega)) (v:=.bool (decide ((n:Int)<100))) rfl) (l_k d (Co rfl (Hx (by omega)) (w_q rfl rfl fun k e=>Av (iV n) (Arv (Bw (Bkr (n:=n) (by omega)) Tryz.func137 ?_)))))))))))))))
 refine Au (.string (bs (Lr n))) (l_k e (Aq (a (rT (.string (bs (Lr n))) ?_))))
 rfl
theorem Bbk{n:Nat}(hg:GlobE ρ)(h0:100≤n)(h1:n<1000):CallsH (CX mn X) 116 #[iV n,iV 10] ρ σ (rP ρ σ (.string (bs (Lr n)))):=by
 refine Bq 54 [4] Bvq rfl fun Q e U=>w_q rfl rfl fun E g=>Au (.string (ByteArray.mk #[])) (Ary rfl rfl g fun L M V w=>Av (iV 10) (l_v (Ek rfl rfl) (l_k w (Co rfl rfl (Asb rfl rfl fun N O x y=>Av (iV n) (l_v (Uz rfl rfl) (Av (.bool (decide (0≤(n:Int)))) (l_M (iV n) (gY rfl (Hx (by omega))) rfl (Aa (gY rfl (Hx (by omega))) (Da rfl rfl) (l_v (Bt rfl (Hx (by omega)) (v:=.bool (decide ((n:Int)<100))) rfl) (l_k y (Cg rfl (Hn (by omega)) (Al (kk x ?_))))))))))))))
 refine w_q rfl rfl fun P B=>Arv (Ct Alx fun c=>?_)
 refine Arx rfl rfl B fun R C=>Av (iV n) (l_v (Acf (p:=(n:Int)) (z:=(n:Int)) Bvt Bur rfl (Ev (by omega) (by omega))) (Au (.int .u64 (n:Int)) (Ary rfl rfl C fun T F D i=>Av (iV n) (l_v (Da rfl rfl) (l_k i (Cg rfl (Hn (by omega)) (Al (kk D ?_))))))))
 refine w_q rfl rfl fun G j=>Av (.int .u64 (n:Int)) (Arv (Bw (Qj (n:=n) (m:=3) hg (by omega) (by omega) (by unfold Qu;rw[if_pos (by omega)])) Bwa ?_))
 refine Au (iV 3) (Arx rfl rfl j fun H k=>Av (iV 3) (l_v (Cw 4) (l_v (Jg (l:=1) (h:=4) Buw ⟨_,Ab Btw,rfl⟩ rfl (.inr ⟨_,rfl,rfl⟩) (.inr ⟨_,rfl,rfl⟩) (by decide) (by decide) (by decide)) (Av (.int .u64 (n:Int)) (Arv (Cm (vs:=[.slice (some ⟨c,1,none⟩) 3 23,.int .u64 (n:Int)]) (Bou (r:=c) (n:=n) (by omega) (by omega)) Bvf rfl rfl ⟨rfl,rfl,trivial⟩ fun W Y Z d=>?_))))))
 obtain⟨a,f,b⟩:=d
 replace a:=a.symm;replace b:=b.symm;subst a b f
 refine Ary rfl rfl k fun I J q t=>Av (iV n) (l_v (Da rfl rfl) (l_k t (Cg rfl (Hn (by omega)) (Al (kk q ?_)))))
 refine w_q rfl rfl fun K u=>Av (iV 3) (l_v (Cw 4) (l_v (Jg (l:=1) (h:=4) Buw ⟨_,Ab Btw,rfl⟩ rfl (.inr ⟨_,rfl,rfl⟩) (.inr ⟨_,rfl,rfl⟩) (by decide) (by decide) (by decide)) (Abm ⟨Bxm,fun _ h=>h⟩ rfl (Aei (l:=([dg (n/100),dg (n/10%10),dg (n%10)]:List UInt8)) Btu Btr Bud rfl mC rfl) (Au (.string (bs ([dg (n/100),dg (n/10%10),dg (n%10)]:List UInt8))) (l_k u (Aj Bxi (Aq (e (rT (.string (bs ([dg (n/100),dg (n/10%10),dg (n%10)]:List UInt8))) ?_)))))))))
 rw[Bez (by omega) (by omega)]
theorem Bbl{n:Nat}(hg:GlobE ρ)(h0:1000≤n)(h1:n<10000):CallsH (CX mn X) 116 #[iV n,iV 10] ρ σ (rP ρ σ (.string (bs (Lr n)))):=by
 refine Bq 54 [4] Bvq rfl fun Q e U=>w_q rfl rfl fun E g=>Au (.string (ByteArray.mk #[])) (Ary rfl rfl g fun L M V w=>Av (iV 10) (l_v (Ek rfl rfl) (l_k w (Co rfl rfl (Asb rfl rfl fun N O x y=>Av (iV n) (l_v (Uz rfl rfl) (Av (.bool (decide (0≤(n:Int)))) (l_M (iV n) (gY rfl (Hx (by omega))) rfl (Aa (gY rfl (Hx (by omega))) (Da rfl rfl) (l_v (Bt rfl (Hx (by omega)) (v:=.bool (decide ((n:Int)<100))) rfl) (l_k y (Cg rfl (Hn (by omega)) (Al (kk x ?_))))))))))))))
 refine w_q rfl rfl fun P B=>Arv (Ct Alx fun c=>?_)
 refine Arx rfl rfl B fun R C=>Av (iV n) (l_v (Acf (p:=(n:Int)) (z:=(n:Int)) Bvt Bur rfl (Ev (by omega) (by omega))) (Au (.int .u64 (n:Int)) (Ary rfl rfl C fun T F D i=>Av (iV n) (l_v (Da rfl rfl) (l_k i (Cg rfl (Hn (by omega)) (Al (kk D ?_))))))))
 refine w_q rfl rfl fun G j=>Av (.int .u64 (n:Int)) (Arv (Bw (Qj (n:=n) (m:=4) hg (by omega) (by omega) (by unfold Qu;rw[if_neg (by omega)];rw[if_pos (by omega)])) Bwa ?_))
 refine Au (iV 4) (Arx rfl rfl j fun H k=>Av (iV 4) (l_v (Cw 5) (l_v (Jg (l:=1) (h:=5) Buw ⟨_,Ab Btw,rfl⟩ rfl (.inr ⟨_,rfl,rfl⟩) (.inr ⟨_,rfl,rfl⟩) (by decide) (by decide) (by decide)) (Av (.int .u64 (n:Int)) (Arv (Cm (vs:=[.slice (some ⟨c,1,none⟩) 4 23,.int .u64 (n:Int)]) (Bov (r:=c) (n:=n) (by omega) (by omega)) Bvf rfl rfl ⟨rfl,rfl,trivial⟩ fun W Y Z d=>?_))))))
 obtain⟨a,f,b⟩:=d
 replace a:=a.symm;replace b:=b.symm;subst a b f
 refine Ary rfl rfl k fun I J q t=>Av (iV n) (l_v (Da rfl rfl) (l_k t (Cg rfl (Hn (by omega)) (Al (kk q ?_)))))
 refine w_q rfl rfl fun K u=>Av (iV 4) (l_v (Cw 5) (l_v (Jg (l:=1) (h:=5) Buw ⟨_,Ab Btw,rfl⟩ rfl (.inr ⟨_,rfl,rfl⟩) (.inr ⟨_,rfl,rfl⟩) (by decide) (by decide) (by decide)) (Abm ⟨Bxm,fun _ h=>h⟩ rfl (Aei (l:=([dg (n/1000),dg (n/100%10),dg (n/10%10),dg (n%10)]:List UInt8)) Btu Btr Bud rfl mC rfl) (Au (.string (bs ([dg (n/1000),dg (n/100%10),dg (n/10%10),dg (n%10)]:List UInt8))) (l_k u (Aj Bxi (Aq (e (rT (.string (bs ([dg (n/1000),dg (n/100%10),dg (n/10%10),dg (n%10)]:List UInt8))) ?_)))))))))
 rw[Bfa (by omega) (by omega)]
theorem Bbm{n:Nat}(hg:GlobE ρ)(h0:10000≤n)(h1:n<100000):CallsH (CX mn X) 116 #[iV n,iV 10] ρ σ (rP ρ σ (.string (bs (Lr n)))):=by
 refine Bq 54 [4] Bvq rfl fun Q e U=>w_q rfl rfl fun E g=>Au (.string (ByteArray.mk #[])) (Ary rfl rfl g fun L M V w=>Av (iV 10) (l_v (Ek rfl rfl) (l_k w (Co rfl rfl (Asb rfl rfl fun N O x y=>Av (iV n) (l_v (Uz rfl rfl) (Av (.bool (decide (0≤(n:Int)))) (l_M (iV n) (gY rfl (Hx (by omega))) rfl (Aa (gY rfl (Hx (by omega))) (Da rfl rfl) (l_v (Bt rfl (Hx (by omega)) (v:=.bool (decide ((n:Int)<100))) rfl) (l_k y (Cg rfl (Hn (by omega)) (Al (kk x ?_))))))))))))))
 refine w_q rfl rfl fun P B=>Arv (Ct Alx fun c=>?_)
 refine Arx rfl rfl B fun R C=>Av (iV n) (l_v (Acf (p:=(n:Int)) (z:=(n:Int)) Bvt Bur rfl (Ev (by omega) (by omega))) (Au (.int .u64 (n:Int)) (Ary rfl rfl C fun T F D i=>Av (iV n) (l_v (Da rfl rfl) (l_k i (Cg rfl (Hn (by omega)) (Al (kk D ?_))))))))
 refine w_q rfl rfl fun G j=>Av (.int .u64 (n:Int)) (Arv (Bw (Qj (n:=n) (m:=5) hg (by omega) (by omega) (by unfold Qu;rw[if_neg (by omega)];rw[if_neg (by omega)];rw[if_pos (by omega)])) Bwa ?_))
 refine Au (iV 5) (Arx rfl rfl j fun H k=>Av (iV 5) (l_v (Cw 6) (l_v (Jg (l:=1) (h:=6) Buw ⟨_,Ab Btw,rfl⟩ rfl (.inr ⟨_,rfl,rfl⟩) (.inr ⟨_,rfl,rfl⟩) (by decide) (by decide) (by decide)) (Av (.int .u64 (n:Int)) (Arv (Cm (vs:=[.slice (some ⟨c,1,none⟩) 5 23,.int .u64 (n:Int)]) (Bow (r:=c) (n:=n) (by omega) (by omega)) Bvf rfl rfl ⟨rfl,rfl,trivial⟩ fun W Y Z d=>?_))))))
 obtain⟨a,f,b⟩:=d
 replace a:=a.symm;replace b:=b.symm;subst a b f
 refine Ary rfl rfl k fun I J q t=>Av (iV n) (l_v (Da rfl rfl) (l_k t (Cg rfl (Hn (by omega)) (Al (kk q ?_)))))
 refine w_q rfl rfl fun K u=>Av (iV 5) (l_v (Cw 6) (l_v (Jg (l:=1) (h:=6) Buw ⟨_,Ab Btw,rfl⟩ rfl (.inr ⟨_,rfl,rfl⟩) (.inr ⟨_,rfl,rfl⟩) (by decide) (by decide) (by decide)) (Abm ⟨Bxm,fun _ h=>h⟩ rfl (Aei (l:=([dg (n/10000),dg (n/1000%10),dg (n/100%10),dg (n/10%10),dg (n%10)]:List UInt8)) Btu Btr Bud rfl mC rfl) (Au (.string (bs ([dg (n/10000),dg (n/1000%10),dg (n/100%10),dg (n/10%10),dg (n%10)]:List UInt8))) (l_k u (Aj Bxi (Aq (e (rT (.string (bs ([dg (n/10000),dg (n/1000%10),dg (n/100%10),dg (n/10%10),dg (n%10)]:List UInt8))) ?_)))))))))
 rw[Bfb (by omega) (by omega)]
theorem Bbn{n:Nat}(hg:GlobE ρ)(h0:100000≤n)(h1:n<1000000):CallsH (CX mn X) 116 #[iV n,iV 10] ρ σ (rP ρ σ (.string (bs (Lr n)))):=by
 refine Bq 54 [4] Bvq rfl fun Q e U=>w_q rfl rfl fun E g=>Au (.string (ByteArray.mk #[])) (Ary rfl rfl g fun L M V w=>Av (iV 10) (l_v (Ek rfl rfl) (l_k w (Co rfl rfl (Asb rfl rfl fun N O x y=>Av (iV n) (l_v (Uz rfl rfl) (Av (.bool (decide (0≤(n:Int)))) (l_M (iV n) (gY rfl (Hx (by omega))) rfl (Aa (gY rfl (Hx (by omega))) (Da rfl rfl) (l_v (Bt rfl (Hx (by omega)) (v:=.bool (decide ((n:Int)<100))) rfl) (l_k y (Cg rfl (Hn (by omega)) (Al (kk x ?_))))))))))))))
 refine w_q rfl rfl fun P B=>Arv (Ct Alx fun c=>?_)
 refine Arx rfl rfl B fun R C=>Av (iV n) (l_v (Acf (p:=(n:Int)) (z:=(n:Int)) Bvt Bur rfl (Ev (by omega) (by omega))) (Au (.int .u64 (n:Int)) (Ary rfl rfl C fun T F D i=>Av (iV n) (l_v (Da rfl rfl) (l_k i (Cg rfl (Hn (by omega)) (Al (kk D ?_))))))))
 refine w_q rfl rfl fun G j=>Av (.int .u64 (n:Int)) (Arv (Bw (Qj (n:=n) (m:=6) hg (by omega) (by omega) (by unfold Qu;rw[if_neg (by omega)];rw[if_neg (by omega)];rw[if_neg (by omega)];rw[if_pos (by omega)])) Bwa ?_))
 refine Au (iV 6) (Arx rfl rfl j fun H k=>Av (iV 6) (l_v (Cw 7) (l_v (Jg (l:=1) (h:=7) Buw ⟨_,Ab Btw,rfl⟩ rfl (.inr ⟨_,rfl,rfl⟩) (.inr ⟨_,rfl,rfl⟩) (by decide) (by decide) (by decide)) (Av (.int .u64 (n:Int)) (Arv (Cm (vs:=[.slice (some ⟨c,1,none⟩) 6 23,.int .u64 (n:Int)]) (Box (r:=c) (n:=n) (by omega) (by omega)) Bvf rfl rfl ⟨rfl,rfl,trivial⟩ fun W Y Z d=>?_))))))
 obtain⟨a,f,b⟩:=d
 replace a:=a.symm;replace b:=b.symm;subst a b f
 refine Ary rfl rfl k fun I J q t=>Av (iV n) (l_v (Da rfl rfl) (l_k t (Cg rfl (Hn (by omega)) (Al (kk q ?_)))))
 refine w_q rfl rfl fun K u=>Av (iV 6) (l_v (Cw 7) (l_v (Jg (l:=1) (h:=7) Buw ⟨_,Ab Btw,rfl⟩ rfl (.inr ⟨_,rfl,rfl⟩) (.inr ⟨_,rfl,rfl⟩) (by decide) (by decide) (by decide)) (Abm ⟨Bxm,fun _ h=>h⟩ rfl (Aei (l:=([dg (n/100000),dg (n/10000%10),dg (n/1000%10),dg (n/100%10),dg (n/10%10),dg (n%10)]:List UInt8)) Btu Btr Bud rfl mC rfl) (Au (.string (bs ([dg (n/100000),dg (n/10000%10),dg (n/1000%10),dg (n/100%10),dg (n/10%10),dg (n%10)]:List UInt8))) (l_k u (Aj Bxi (Aq (e (rT (.string (bs ([dg (n/100000),dg (n/10000%10),dg (n/1000%10),dg (n/100%10),dg (n/10%10),dg (n%10)]:List UInt8))) ?_)))))))))
 rw[Bfc (by omega) (by omega)]
theorem Bbo{n:Nat}(hg:GlobE ρ)(h0:1000000≤n)(h1:n<1000001):CallsH (CX mn X) 116 #[iV n,iV 10] ρ σ (rP ρ σ (.string (bs (Lr n)))):=by
 refine Bq 54 [4] Bvq rfl fun Q e U=>w_q rfl rfl fun E g=>Au (.string (ByteArray.mk #[])) (Ary rfl rfl g fun L M V w=>Av (iV 10) (l_v (Ek rfl rfl) (l_k w (Co rfl rfl (Asb rfl rfl fun N O x y=>Av (iV n) (l_v (Uz rfl rfl) (Av (.bool (decide (0≤(n:Int)))) (l_M (iV n) (gY rfl (Hx (by omega))) rfl (Aa (gY rfl (Hx (by omega))) (Da rfl rfl) (l_v (Bt rfl (Hx (by omega)) (v:=.bool (decide ((n:Int)<100))) rfl) (l_k y (Cg rfl (Hn (by omega)) (Al (kk x ?_))))))))))))))
 refine w_q rfl rfl fun P B=>Arv (Ct Alx fun c=>?_)
 refine Arx rfl rfl B fun R C=>Av (iV n) (l_v (Acf (p:=(n:Int)) (z:=(n:Int)) Bvt Bur rfl (Ev (by omega) (by omega))) (Au (.int .u64 (n:Int)) (Ary rfl rfl C fun T F D i=>Av (iV n) (l_v (Da rfl rfl) (l_k i (Cg rfl (Hn (by omega)) (Al (kk D ?_))))))))
 refine w_q rfl rfl fun G j=>Av (.int .u64 (n:Int)) (Arv (Bw (Qj (n:=n) (m:=7) hg (by omega) (by omega) (by unfold Qu;rw[if_neg (by omega)];rw[if_neg (by omega)];rw[if_neg (by omega)];rw[if_neg (by omega)])) Bwa ?_))
 refine Au (iV 7) (Arx rfl rfl j fun H k=>Av (iV 7) (l_v (Cw 8) (l_v (Jg (l:=1) (h:=8) Buw ⟨_,Ab Btw,rfl⟩ rfl (.inr ⟨_,rfl,rfl⟩) (.inr ⟨_,rfl,rfl⟩) (by decide) (by decide) (by decide)) (Av (.int .u64 (n:Int)) (Arv (Cm (vs:=[.slice (some ⟨c,1,none⟩) 7 23,.int .u64 (n:Int)]) (Boy (r:=c) (n:=n) (by omega) (by omega)) Bvf rfl rfl ⟨rfl,rfl,trivial⟩ fun W Y Z d=>?_))))))
 obtain⟨a,f,b⟩:=d
 replace a:=a.symm;replace b:=b.symm;subst a b f
 refine Ary rfl rfl k fun I J q t=>Av (iV n) (l_v (Da rfl rfl) (l_k t (Cg rfl (Hn (by omega)) (Al (kk q ?_)))))
 refine w_q rfl rfl fun K u=>Av (iV 7) (l_v (Cw 8) (l_v (Jg (l:=1) (h:=8) Buw ⟨_,Ab Btw,rfl⟩ rfl (.inr ⟨_,rfl,rfl⟩) (.inr ⟨_,rfl,rfl⟩) (by decide) (by decide) (by decide)) (Abm ⟨Bxm,fun _ h=>h⟩ rfl (Aei (l:=([dg (n/1000000),dg (n/100000%10),dg (n/10000%10),dg (n/1000%10),dg (n/100%10),dg (n/10%10),dg (n%10)]:List UInt8)) Btu Btr Bud rfl mC rfl) (Au (.string (bs ([dg (n/1000000),dg (n/100000%10),dg (n/10000%10),dg (n/1000%10),dg (n/100%10),dg (n/10%10),dg (n%10)]:List UInt8))) (l_k u (Aj Bxi (Aq (e (rT (.string (bs ([dg (n/1000000),dg (n/100000%10),dg (n/10000%10),dg (n/1000%10),dg (n/100%10),dg (n/10%10),dg (n%10)]:List UInt8))) ?_)))))))))
 rw[Bpi (by omega) (by omega)]
theorem Bbp{n:Nat}(hg:GlobE ρ)(hn:n≤1000000):CallsH (CX mn X) 116 #[iV n,.int .i64 10] ρ σ (rP ρ σ (.string (bs (Lr n)))):=by
 rcases (show n<100∨(100≤n∧n<1000)∨(1000≤n∧n<10000)∨(10000≤n∧n<100000)∨(100000≤n∧n<1000000)∨(1000000≤n∧n<1000001) from by omega) with h|⟨h0,h1⟩|⟨h0,h1⟩|⟨h0,h1⟩|⟨h0,h1⟩|⟨h0,h1⟩
 ·exact Bbq h
 ·exact Bbk hg h0 h1
 ·exact Bbl hg h0 h1
 ·exact Bbm hg h0 h1
 ·exact Bbn hg h0 h1
 ·exact Bbo hg h0 h1
theorem Bkj{n:Nat}(hg:GlobE ρ)(hn:n≤1000000):CallsH (CX mn X) 86 #[iV n] ρ σ (rP ρ σ (.string (bs (Lr n)))):=by
 refine Bq 5 [2] Tryz.func86 rfl fun Q a f=>w_q rfl rfl fun d b=>Au (.string (ByteArray.mk #[])) (Arx rfl rfl b fun e c=>Av (iV n) (Arv (Bw (Bbp (n:=n) hg hn) Bvq ?_)))
 refine Au (.string (bs (Lr n))) (l_k c (Aq (a (rT (.string (bs (Lr n))) ?_))))
 rfl
theorem Bkk{n:Nat}(hg:GlobE ρ)(hn:n≤1000000):CallsH (CX mn X) 33 #[iV n] ρ σ (rP ρ σ (.string (bs (Lr n)))):=by
 refine Bq 5 [2] Bwj rfl fun Q a f=>w_q rfl rfl fun d b=>Au (.string (ByteArray.mk #[])) (Arx rfl rfl b fun e c=>Av (iV n) (Arv (Bw (Bkj (n:=n) hg hn) Tryz.func86 ?_)))
 refine Au (.string (bs (Lr n))) (l_k c (Aq (a (rT (.string (bs (Lr n))) ?_))))
 rfl
theorem Aia{n:Int}(hg:GlobE ρ)(hn:0≤n∧n≤1000000):CallsH (CX mn X) 33 #[.int .i64 n] ρ σ (rP ρ σ (.string (bs (Hv n)))):=by
 obtain⟨k,rfl⟩:∃k:Nat,n=(k:Int):=⟨n.toNat,by omega⟩
 have e:Hv (k:Int)=Lr k:=Ada hn.1
 rw[e]
 exact Bkk hg (by omega)
end
section
open Go
def tk1(l:Lab)(i:Nat):List UInt8:=Fj [Ub,Hv l.most]++Ds ((Na Pp l.kinds).take i)
def tk2(l:Lab)(m:Market)(i:Nat):List UInt8:=Yd l l.tests.length++Fj [Ea]++Ds ((Na Ic m.houses).take i)
def tk3(l:Lab)(m:Market)(i:Nat):List UInt8:=(Yd l l.tests.length++Fj [Ea]++Ds (Na Ic m.houses))++Ds ((Na Lp m.marks).take i)
theorem Bsr{l:Lab}:[]++Fj (Ub::wl [bs (Hv l.most)])=tk1 l 0:=by unfold tk1;simp[Ds];rfl
theorem Bir{l:Lab}{i:Nat}{a:ByteArray}(h:l.kinds[i]?=some a):tk1 l i++Fj (Pp::wl [a])=tk1 l (i+1):=by
 unfold tk1;rw[Tk (Ahh h),lZ9];rfl
theorem Bmt{l:Lab}{i:Nat}(h:i=l.kinds.length):tk1 l i=Yd l 0:=by
 rw[Ayj,h];unfold tk1 Ayi
 rw[Ym (by rw[Air];omega)]
theorem Bss{l:Lab}{m:Market}{i:Nat}(h:i=l.tests.length):Yd l i++Fj (Ea::wl [])=tk2 l m 0:=by rw[h];unfold tk2;simp[Ds];rfl
theorem Bis{l:Lab}{m:Market}{i:Nat}{a:ByteArray}(h:m.houses[i]?=some a):tk2 l m i++Fj (Ic::wl [a])=tk2 l m (i+1):=by
 unfold tk2;rw[Tk (Ahh h),lZ9 _ _ (Fj _)];rfl
theorem Bmu{l:Lab}{m:Market}{i:Nat}(h:i=m.houses.length):tk2 l m i=tk3 l m 0:=by
 rw[h];unfold tk2 tk3
 rw[Ym (by rw[Air];omega)];simp[Ds]
theorem Bit{l:Lab}{m:Market}{i:Nat}{a:ByteArray}(h:m.marks[i]?=some a):tk3 l m i++Fj (Lp::wl [a])=tk3 l m (i+1):=by
 unfold tk3;rw[Tk (Ahh h),lZ9 _ _ (Fj _)];rfl
theorem Bmv{l:Lab}{m:Market}{i:Nat}(h:i=m.marks.length):tk3 l m i=Acd l m 0:=by
 rw[Biy,h];unfold tk3 Amt
 rw[Ym (by rw[Air];omega)]
def Wj(t:FTest)(j:Nat):List ByteArray:=bw (t.name.data.toList::(t.sees.take j).map Mv)
theorem Ald{t:FTest}{j:Nat}{b:Int}(hb:t.sees[j]?=some b):Wj t j++[bs (Mv b)]=Wj t (j+1):=by
 unfold Wj;rw[Bel];congr 1
 show _::((t.sees.take j).map Mv++[Mv b])=_::_
 rw[Aup hb]
theorem Zy{t:FTest}{j:Nat}{u:List UInt8}(h:j=t.sees.length)(hu:(if t.errs then Nq else Oj)=u):u::wl (Wj t j)=Er t:=by
 unfold Wj;rw[Avp,h,Sr,←hu];rfl
def Sn(a:ByteArray)(x:FField)(j:Nat):List ByteArray:=[x.name,a,bs (Lg x.grows)]++Abx (x.marks.take j)
theorem Atg{a:ByteArray}{x:FField}{j:Nat}{y:Span}(h:x.marks[j]?=some y):Sn a x j++[bs (Lg y)]=Sn a x (j+1):=by
 unfold Sn;rw[←Avc h,lZ9]
theorem Aiw{m:Market}{a:ByteArray}{x:FField}{j:Nat}(ha:m.houses[x.house.toNat]?=some a)(h:j=x.marks.length):Ib::wl (Sn a x j)=Et m x:=by
 rw[←Bca ha,h];unfold Sn;rw[Sr];rfl
def Yz(m:Market)(s:Sale)(j:Nat):List ByteArray:=bw (Hv s.grams::(s.sellers.take j).map (Lu m))
theorem Ayb{m:Market}{s:Sale}{j:Nat}{h:Int}{a:ByteArray}(hb:s.sellers[j]?=some h)(ha:m.houses[h.toNat]?=some a):Yz m s j++[a]=Yz m s (j+1):=by
 rw[Atn ha];unfold Yz;rw[Bel];congr 1
 show _::((s.sellers.take j).map (Lu m)++[Lu m h])=_::_
 rw[Aup hb]
theorem Apa{m:Market}{s:Sale}{j:Nat}(h:j=s.sellers.length):Pc::wl (Yz m s j)=Je m s:=by
 unfold Yz;rw[Avp,h,Sr];rfl
theorem Bas{b:Int}(h:0≤b∧b≤2):(#[.string (bs Qx),.string (bs Mq),.string (bs wNo)]:Array Value)[b.toNat]?=some (.string (bs (Mv b))):=by
 have:b=0∨b=1∨b=2:=by omega
 rcases this with rfl|rfl|rfl<;>rfl
theorem Apl{b:Int}:(Mv b).length≤4:=by
 unfold Mv;split
 ·decide
 ·split<;>decide
theorem Bmy{l:Lab}{m:Market}{i:Nat}:Aee l m i≠[]:=by
 unfold Aee Acd Amt Yd Ayi Fj
 simp
theorem Aab{t:FTest}{j:Nat}(h:j≤t.sees.length):(Wj t j).length=1+j:=by
 simp only[Wj,bw,Xe,lZ3,lZ6];omega
theorem Aix{a:ByteArray}{x:FField}{j:Nat}(h:j≤x.marks.length):(Sn a x j).length=3+j:=by
 simp only[Sn,Abx,lZ2,Xe,lZ3,lZ7,lZ6];omega
theorem Apb{m:Market}{s:Sale}{j:Nat}(h:j≤s.sellers.length):(Yz m s j).length=1+j:=by
 simp only[Yz,bw,Xe,lZ3,lZ6];omega
theorem Ats{u:List UInt8}{ws:List (List UInt8)}:u.length≤(Dr (u::ws)).length:=by
 have:=Aje (a:=[u]) (b:=ws);exact this
section
variable{l:Lab}{m:Market}
theorem Bqt(lok:LabOk l)(mok:MarketOk m){i:Nat}:(tk1 l i).length≤60000:=by
 have h:=Arl lok mok (i:=0)
 rw[Ayj]at h
 refine Sz ?_ h
 unfold tk1 Ayi
 rw[lZ2,lZ2]
 have:=Tl (ls:=Na Pp l.kinds) (i:=i)
 omega
theorem Bqu(lok:LabOk l)(mok:MarketOk m){i:Nat}:(tk2 l m i).length≤60000:=by
 have h:=Ahp lok mok
 refine Sz ?_ h
 unfold tk2 Amt
 rw[lZ2,lZ2 (bs:=Ds (Na Lp m.marks)),lZ2 (bs:=Ds (Na Ic m.houses))]
 have:=Tl (ls:=Na Ic m.houses) (i:=i)
 omega
theorem Bqv(lok:LabOk l)(mok:MarketOk m){i:Nat}:(tk3 l m i).length≤60000:=by
 have h:=Ahp lok mok
 refine Sz ?_ h
 unfold tk3 Amt
 rw[lZ2,lZ2 (bs:=Ds (Na Lp m.marks))]
 have:=Tl (ls:=Na Lp m.marks) (i:=i)
 omega
theorem Aiq{u:List UInt8}{ls:List ByteArray}{i:Nat}{a:ByteArray}{k:Nat}(h:(Ds (Na u ls)).length≤k)(ha:ls[i]?=some a):(Fj (u::wl [a])).length≤k :=
 Sz (Biq (Hd (Ahh ha))) h
end
end
section
open Go
variable{mn:Bool}{X:Frame→List Frame→Ro→Own→Cy→Prop}{ρ:Ro}{σ:Own}
theorem Bnr{x:Span}{vx:Value}(hg:GlobE ρ)(rx:Val ρ vx x)(hx:0≤x.low∧x.low≤x.high∧x.high≤1000000):CallsH (CX mn X) 34 #[vx] ρ σ (rP ρ σ (.string (bs (Lg x)))):=by
 have P:=Ur (n:=x.low) (by omega)
 have R:=Ur (n:=x.high) (by omega)
 refine Bq 19 [2] Tryz.func34 rfl fun Q f T=>w_q rfl rfl fun z l=>Arv (Eb (v:=vx) rfl fun U=>?_)
 refine Bb (a:=x) rx fun a0 d b=>?_
 replace hg:=GlobE.mono d hg
 refine Au (.string (ByteArray.mk #[])) (Ary rfl rfl l fun D E w y=>Arw (Ba Span.f_low Buj rfl ty3 b) fun Z j=>?_)
 have⟨L,M⟩:=At.rng j
 refine l_v (Bc ty3 rfl j) (Arw (Ba Span.f_high Buj rfl ty3 b) fun v7 k=>?_)
 have⟨N,O⟩:=At.rng k
 refine l_v (Bc ty3 rfl k) (l_v (Ek rfl rfl) (l_k y (Bf (t:=x.low==x.high) rfl (fun c=>?_) (fun c=>?_))))
 ·have e:=Jr c
  refine w_q rfl rfl fun B m=>Arw (Ba Span.f_low Buj rfl ty3 b) fun V g=>?_
  have⟨F,G⟩:=At.rng g
  refine l_v (Bc ty3 rfl g) (Arv (Bw (Aia (n:=x.low) hg (by omega)) Bwj ?_))
  refine Au (.string (bs (Hv x.low))) (l_k m (Aj (Bxj d) (Aq (f (rT (.string (bs (Hv x.low))) ?_)))))
  rw[show Lg x=_ from if_pos e]
 have e:=Jq c
 refine Al (kk w ?_)
 refine Ai fun C u=>Pr (De 0 Anu rfl (Ba Span.f_low Buj rfl ty3 b) fun W h=>?_)
 have⟨H,I⟩:=At.rng h
 refine Bu 1 Anv rfl (Bc ty3 rfl h) (De 4 [o1,o1,o0,o0,o1,o0,o0,o0,o0] rfl (Ba Span.f_high Buj rfl ty3 b) fun Y i=>?_)
 have⟨J,K⟩:=At.rng i
 refine Bu 5 [o1,o1,o0,o0,o1,o1,o0,o0,o0] rfl (Bc ty3 rfl i) (Ww 2 [o1,o1,o1,o0,o1,o1,o0,o0,o0] rfl (Bm (Aia (n:=x.low) hg (by omega)) Bwj rfl rfl ⟨rfl,trivial⟩ ⟨Bxm,?_⟩))
 refine Bu 3 Anw rfl (Baz (p:=Hv x.low) (q:=([46,46]:List UInt8)) rfl rfl (by first|omega|(simp only[lZ2,lZ3,lZ7,lZ6,lZ4]at *;omega))) (Ww 6 Anx rfl (Bm (Aia (n:=x.high) hg (by omega)) Bwj rfl rfl ⟨rfl,trivial⟩ ⟨Bxm,?_⟩))
 refine Cj 7 Anz rfl (Baz (p:=(Hv x.low)++([46,46]:List UInt8)) (q:=Hv x.high) rfl rfl (by first|omega|(simp only[lZ2,lZ3,lZ7,lZ6,lZ4]at *;omega))) (Cj 8 Aoa rfl (Cp (v:=.string (bs (((Hv x.low)++([46,46]:List UInt8))++(Hv x.high)))) rfl) (Ec rfl (kk u ?_)))
 refine Aj (Bxj d) (Aq (f ⟨rfl,rfl,eT (.string (bs (((Hv x.low)++([46,46]:List UInt8))++(Hv x.high)))) ?_⟩))
 rw[show Lg x=_ from if_neg e];simp
theorem Bpb{r:Nat}{u:List UInt8}{ws:List ByteArray}{vw:Value}(rw_:Val ρ vw ws)(hbl:(Fj (u::wl ws)).length≤100000)(hl:ws.length≤1000):CallsH (CX mn X) 30 #[.string (bs u),vw,pV r] ρ ((r,oC #[.pointer none,nS] 83)::σ) (fun w ρ' σ'=>Ro.le ρ ρ'∧w = .tuple #[]∧∃(v':Value) (gr:Own),Grow ρ' 5 v' ([]++Fj (u::wl ws)) gr∧σ'=(r,oC #[pV r,v'] 83)::(gr++σ)):=by
 have hjl:(Dr (u::wl ws)).length+1=(Fj (u::wl ws)).length:=by unfold Fj;simp
 refine Bq 12 [] Bve rfl fun Q x j=>Ag rfl rfl (Av (.string (bs u)) (Arv (Bi (α:=ByteArray) (xs:=[bs u]) (vs:=[.string (bs u)]) Bts ty9 zr9 rfl (by decide) (Dk (os:=[.tmp 5]) ⟨rfl,trivial⟩) ⟨Nl (l:=u) (by have:=Ats (u:=u) (ws:=wl ws);omega),trivial⟩ rfl (by decide) fun c d h=>?_)))
 have e:Grow ρ 9 (.slice (some ⟨c,0,none⟩) 1 1) ([bs u]:List ByteArray) [(c,oC d.toArray 9)]:=Bs h rfl (by decide)
 refine Av vw (Arv (Gc (σ:=(r,oC #[.pointer none,nS] 83)::σ) (gr:=[(c,oC d.toArray 9)]) (xs:=([bs u]:List ByteArray)) (ys:=ws) Bts Bts (Ab Bul) rfl nL rfl rfl rfl rfl e rw_ (by simp only[lZ2,lZ3,lZ7];omega) fun y v f=>?_))
 refine Ca f fun C m n=>Arv (Bw (Bep n (show (Dr (u::wl ws)).length≤1000000 by omega) (by simp)) Tryz.func32 ?_)
 refine l_v (Baz (p:=Dr (wl (([bs u]:List ByteArray)++ws))) (q:=([10]:List UInt8)) rfl rfl (show (Dr (u::wl ws)).length+1<_ by omega)) (Arv (Cm (vs:=[pV r,.string (bs ((Dr (wl (([bs u]:List ByteArray)++ws)))++([10]:List UInt8)))]) (Aic (r:=r) (s:=(Dr (wl (([bs u]:List ByteArray)++ws)))++([10]:List UInt8)) Hm (show _+(Fj (u::wl ws)).length≤_ by simp only[lZ7];omega)) Bvu rfl rfl ⟨rfl,rfl,trivial⟩ fun B D E i=>?_))
 obtain⟨a,z,t,k,g,b⟩:=i
 replace a:=a.symm;replace b:=b.symm;subst a b k
 apply Ac
 refine j ⟨m,rfl,_,_,g,rfl⟩
theorem Yf{r:Nat}{xs:List UInt8}{vb:Value}{gb:Own}{u:List UInt8}{ws:List ByteArray}{vw:Value}(hb:Grow ρ 5 vb xs gb)(hx:xs.length≤100000000)(rw_:Val ρ vw ws)(hbl:(Fj (u::wl ws)).length≤100000)(hl:ws.length≤1000):CallsH (CX mn X) 30 #[.string (bs u),vw,pV r] ρ ((r,oC #[pV r,vb] 83)::(gb++σ)) (fun w ρ' σ'=>Ro.le ρ ρ'∧w = .tuple #[]∧∃(v':Value) (gr:Own),Grow ρ' 5 v' (xs++Fj (u::wl ws)) gr∧σ'=(r,oC #[pV r,v'] 83)::(gr++σ)):=by
 have hjl:(Dr (u::wl ws)).length+1=(Fj (u::wl ws)).length:=by unfold Fj;simp
 refine Bq 12 [] Bve rfl fun Q x k=>Ag rfl rfl (Av (.string (bs u)) (Arv (Bi (α:=ByteArray) (xs:=[bs u]) (vs:=[.string (bs u)]) Bts ty9 zr9 rfl (by decide) (Dk (os:=[.tmp 5]) ⟨rfl,trivial⟩) ⟨Nl (l:=u) (by have:=Ats (u:=u) (ws:=wl ws);omega),trivial⟩ rfl (by decide) fun c d i=>?_)))
 have f:Grow ρ 9 (.slice (some ⟨c,0,none⟩) 1 1) ([bs u]:List ByteArray) [(c,oC d.toArray 9)]:=Bs i rfl (by decide)
 refine Av vw (Arv (Gc (σ:=(r,oC #[pV r,vb] 83)::(gb++σ)) (gr:=[(c,oC d.toArray 9)]) (xs:=([bs u]:List ByteArray)) (ys:=ws) Bts Bts (Ab Bul) rfl nL rfl rfl rfl rfl f rw_ (by simp only[lZ2,lZ3,lZ7];omega) fun y v g=>?_))
 refine Ca g fun C e n=>?_
 replace hb:=Bxl e hb
 refine Arv (Bw (Bep n (show (Dr (u::wl ws)).length≤1000000 by omega) (by simp)) Tryz.func32 ?_)
 refine l_v (Baz (p:=Dr (wl (([bs u]:List ByteArray)++ws))) (q:=([10]:List UInt8)) rfl rfl (show (Dr (u::wl ws)).length+1<_ by omega)) (Bj (Bxk Asc) (Bj (Bxk Asd) (Arv (Cm (vs:=[pV r,.string (bs ((Dr (wl (([bs u]:List ByteArray)++ws)))++([10]:List UInt8)))]) (Qi (r:=r) (s:=(Dr (wl (([bs u]:List ByteArray)++ws)))++([10]:List UInt8)) hb (show _+(Fj (u::wl ws)).length≤_ by omega)) Bvu rfl rfl ⟨rfl,rfl,trivial⟩ fun B D E j=>?_))))
 obtain⟨a,z,t,m,h,b⟩:=j
 replace a:=a.symm;replace b:=b.symm;subst a b m
 apply Ac
 refine k ⟨e,rfl,_,_,h,rfl⟩
theorem Bkl{l:Lab}{m:Market}{vl vm:Value}(hg:GlobE ρ)(rl:Val ρ vl l)(rm:Val ρ vm m):CallsH (CX mn X) 8 #[vl,vm] ρ σ (fun w ρ' σ'=>Ro.le ρ ρ'∧σ'=σ∧w=(.tuple #[.string (Ia l m),iV (Ng l m)])):=by
 refine Bq 188 [4,5] Tryz.func8 rfl fun Q b5 no=>w_q rfl rfl fun K1 k1=>Arv (Eb (v:=vl) rfl fun k2=>?_)
 refine Bb (a:=l) rl fun q6 T y=>?_
 replace rm:=Val.mono T rm
 replace hg:=GlobE.mono T hg
 refine Arv (Eb (v:=vm) rfl fun C=>?_)
 refine Bb (a:=m) rm fun k8 U e=>?_
 replace hg:=GlobE.mono U hg
 replace y:=At.mono U y
 refine Au (.string (ByteArray.mk #[])) (Au (iV 0) (Ary rfl rfl k1 fun K4 K5 k4 k5=>Arw (Ax Zu rfl y) fun v6 r6=>Arv (Bw (Aaz r6) Tryz.func28 ?_)))
 refine Au (iV (Gh l)) (Arx rfl rfl k5 fun K7 k7=>Av (iV (Gh l)) (l_v (Dg rfl rfl) (l_k k7 (Bf (t:=Gh l != 0) rfl (fun N=>?_) (fun N=>?_)))))
 ·have hlf:=Ls N
  have q8:=Ls N
  refine w_q rfl rfl fun K9 k9=>Av (iV (Gh l)) (Au (.string (ByteArray.mk #[])) (Au (iV (Gh l)) (l_k k9 (Aq (b5 ?_)))))
  refine⟨(Bxn T U),rfl,Eq.trans (Mp (r:=4) (r':=5) (rs:=[]) (v:=.string (ByteArray.mk #[])) (v':=iV (Gh l)) (vs:=[]) ⟨rfl,rfl,trivial⟩) ?_⟩;rw[(Ads hlf).1,(Ads hlf).2];rfl
 have hlf:=Jh N
 have lok:=Ll hlf
 have q8:=Jh N
 refine Al (kk k4 ?_)
 refine Asb rfl rfl fun ka kd fo fr=>Arw (Ax Ln rfl e) fun oj ig=>Arv (Bw (Js ig) Tryz.func29 ?_)
 refine Au (iV (Cf m)) (Arx rfl rfl fr fun km fz=>Av (iV (Cf m)) (l_v (Dg rfl rfl) (l_k fz (Bf (t:=Cf m != 0) rfl (fun L=>?_) (fun L=>?_)))))
 ·have hmf:=Ls L
  have i2:=Ls L
  refine w_q rfl rfl fun ku g7=>Av (iV (Cf m)) (Au (.string (ByteArray.mk #[])) (Au (iV (Cf m)) (l_k g7 (Aq (b5 ?_)))))
  refine⟨(Bxn T U),rfl,Eq.trans (Mp (r:=4) (r':=5) (rs:=[]) (v:=.string (ByteArray.mk #[])) (v':=iV (Cf m)) (vs:=[]) ⟨rfl,rfl,trivial⟩) ?_⟩;rw[(Adt hlf hmf).1,(Adt hlf hmf).2];rfl
 have hmf:=Jh L
 have mok:=Rg hmf
 have hpl:=Bhs lok mok
 have hnt:=lok.ntests
 have hnf:=mok.nfields
 have hns:=mok.nsales
 have hkl:=Ua lok.kinds
 have hhl:=Ua mok.houses
 have hml:=Ua mok.marks
 have hmo:=lok.most
 have hdm:=Ur (n:=l.most) (by omega)
 have np:(Ds (Na bZ8 l.kinds)).length≤60000:=hpl.1
 have nq:(Ds (Na bZ5 m.houses)).length≤60000:=hpl.2.1
 have nr:(Ds (Na bZ3 m.marks)).length≤60000:=hpl.2.2.1
 have ns:(Fj (wl ([bs Bbg,bs (Hv l.most)]:List ByteArray))).length≤60000:=by show (([108,97,98]++32::Hv l.most)++[10]:List UInt8).length≤_;simp only[lZ2,lZ3,lZ7];omega
 have nt:(Fj (wl ([bs bZ6]:List ByteArray))).length≤60000:=by decide
 have i2:=Jh L
 refine Al (kk fo ?_)
 refine w_q rfl rfl fun kz gc=>Arv (Ct Bjs fun d=>?_)
 refine Arx rfl rfl gc fun l6 gh=>l_v (Il (fn:=.func 30) (caps:=[.tmp 8]) (vs:=[pV d]) ⟨rfl,trivial⟩) (Au (.func (.func 30) #[] #[pV d]) (Arx rfl rfl gh fun l9 gk=>Av (.func (.func 30) #[] #[pV d]) (Arw (Ba Lab.f_most Btv rfl ty3 y) fun p3 cm=>?_)))
 have⟨n4,n5⟩:=At.rng cm
 refine l_v (Bc ty3 rfl cm) (Arv (Bw (Aia (n:=l.most) hg (by omega)) Bwj ?_))
 refine Arv (Bi (α:=ByteArray) (xs:=[bs (Hv l.most)]) (vs:=[.string (bs (Hv l.most))]) Bts ty9 zr9 rfl (by decide) (Dk (os:=[.tmp 46]) ⟨rfl,trivial⟩) ⟨Nl (l:=Hv l.most) (by first|decide|omega),trivial⟩ rfl (by decide) fun bk ea e1=>?_)
 have dk:Grow k8 9 (.slice (some ⟨bk,0,none⟩) 1 1) ([bs (Hv l.most)]:List ByteArray) [(bk,oC ea.toArray 9)]:=Bs e1 rfl (by decide)
 refine Ca dk fun q7 ac j3=>?_
 replace hg:=GlobE.mono ac hg
 replace y:=At.mono ac y
 replace e:=At.mono ac e
 refine Arv (Sq (vs:=[.string (ByteArray.mk #[108,97,98]),.slice (some ⟨bk,0,none⟩) 1 1]) (caps:=[pV d]) rfl (Bpb (r:=d) (u:=Bbg) (ws:=([bs (Hv l.most)]:List ByteArray)) j3 (by show (Fj (wl ([bs Bbg,bs (Hv l.most)]:List ByteArray))).length≤_;omega) (by first|decide|(simp only[lZ3,lZ7];omega)|(rw[show (([bs (Hv l.most)]:List ByteArray)).length=1 from rfl];omega))) Bve rfl rfl ⟨rfl,rfl,trivial⟩ fun pr k6 qp ez=>?_)
 obtain⟨ad,fi,js,em,dp,bd⟩:=ez
 replace bd:=bd.symm;subst bd fi
 replace hg:=GlobE.mono ad hg
 replace y:=At.mono ad y
 replace e:=At.mono ad e
 refine Ary rfl rfl gk fun lr ls h2 h3=>Arw (Ba Lab.f_kinds Btv rfl Hw y) fun pb j6=>Arw (Ax Hw rfl j6) fun jt a2=>?_
 have n9:=Bxo a2
 refine l_v (Ci (el:=9) Bts rfl a2) (Av (iV 0) (l_k h3 (Ao (Aj (Bxk Asc) (Cc (fun mm ee dd ρ' σ'=>∃(i:Nat) (ov30_8c1:Value) (og30_8c1:Own),(l.kinds.length-i)=mm∧[]=dd∧Ro.le k6 ρ'∧(og30_8c1++((d,oC #[pV d,ov30_8c1] 83)::σ))=σ'∧ee 2=pV k2∧ee 3=pV C∧ee 8=pV d∧ee 9=(.func (.func 30) #[] #[pV d])∧ee 50=jt∧ee 51=(iV (l.kinds.length:Int))∧ee 52=iV i∧(i≤l.kinds.length)∧Grow ρ' 5 ov30_8c1 (tk1 l i) og30_8c1∧True) (m:=_) ⟨0,js,em,rfl,rfl,Bxm,rfl,rfl,rfl,rfl,rfl,rfl,rfl,rfl,Gn _,Fy Bsr dp,trivial⟩ ?_)))))
 rintro m30 e30 _ ρ30 _ ⟨i,ov30_8c1,og30_8c1,rfl,rfl,l30,rfl,h30_2,h30_3,h30_8,h30_9,h30_50,h30_51,h30_52,p30_0,OG30_8c1,_⟩
 replace hg:=GlobE.mono l30 hg
 replace y:=At.mono l30 y
 replace e:=At.mono l30 e
 replace a2:=Val.mono l30 a2
 have o2:=Bqt lok mok (i:=i)
 refine w_q rfl rfl fun lt h4=>l_v (Da h30_52 h30_51) (Asa h4 fun lu h5=>Bf (t:=decide ((i:Int)<(l.kinds.length:Int))) rfl (fun an=>?_) (fun an=>?_))
 ·have i7:=lZ1 an
  refine Al (kk h5 ?_)
  refine Ai fun lv h6=>Ao (w_q rfl rfl fun lw h7=>?_)
  obtain⟨F,az⟩:=Ed (xs:=l.kinds) (i:=i) (by first|omega|(simp only[lZ3,lZ7];omega))
  refine Arw (Ch i Bts ty9 h30_50 a2 (q:=(i:Int)) h30_52 rfl az) fun pc cs=>?_
  have na:F.data.toList.length<2^60:=At.slen cs
  refine l_v (Pk ty9 rfl cs) (Au (.string F) (l_k h7 (Ag rfl rfl (l_v (Ah (v:=.func (.func 30) #[] #[pV d]) h30_9) (Av (.string F) (Arv (Bi (α:=ByteArray) (xs:=[bs F.data.toList]) (vs:=[.string F]) Bts ty9 zr9 rfl (by decide) (Dk (os:=[.tmp 57]) ⟨rfl,trivial⟩) ⟨Nl (l:=F.data.toList) (by first|decide|omega),trivial⟩ rfl (by decide) fun bl ec e3=>?_)))))))
  have dq:Grow ρ30 9 (.slice (some ⟨bl,0,none⟩) 1 1) ([bs F.data.toList]:List ByteArray) [(bl,oC ec.toArray 9)]:=Bs e3 rfl (by decide)
  refine Ca dq fun qe cc j7=>?_
  replace OG30_8c1:=Bxl cc OG30_8c1
  refine Bj (Bxk Asd) (Arv (Sq (vs:=[.string (ByteArray.mk #[107,105,110,100]),.slice (some ⟨bl,0,none⟩) 1 1]) (caps:=[pV d]) rfl (Yf (r:=d) (u:=bZ8) (ws:=([bs F.data.toList]:List ByteArray)) OG30_8c1 (by omega) j7 (Sz (Aiq hpl.1 az) nL) (by first|decide|(simp only[lZ3,lZ7];omega)|(rw[show (([bs F.data.toList]:List ByteArray)).length=1 from rfl];omega))) Bve rfl rfl ⟨rfl,rfl,trivial⟩ fun pu qf qs f2=>?_))
  obtain⟨hy,fl,ju,en,dr,bg⟩:=f2
  replace bg:=bg.symm;subst bg fl
  refine l_k h6 (Ag rfl rfl (l_v (Br h30_52 rfl (z:=(((i+1):Nat):Int)) wrE) (Av (iV ((i+1):Nat)) (Bj (Bxk Asc) (Ac ?_)))))
  refine⟨_,?_,(i+1),ju,en,rfl,rfl,(Bxn (Bxn l30 cc) hy),rfl,h30_2,h30_3,h30_8,h30_9,h30_50,h30_51,rfl,(by omega),(Fy (Bir az) dr),trivial⟩
  omega
 have i7:=lZ0 an
 refine Bx (kk h2 ?_)
 refine Asb rfl rfl fun lx ly h8 h9=>Arw (Ba Lab.f_tests Btv rfl Vi y h30_2) fun pd j8=>Arw (Ax Vi rfl j8) fun bo a3=>?_
 have nb:=Bxo a3
 refine l_v (Ci (el:=46) Bua rfl a3) (Av (iV 0) (l_k h9 (Ao (Cc (fun mm ee dd ρ' σ'=>∃(i:Nat) (ov47_8c1:Value) (og47_8c1:Own),(l.tests.length-i)=mm∧[]=dd∧Ro.le ρ30 ρ'∧(og47_8c1++((d,oC #[pV d,ov47_8c1] 83)::σ))=σ'∧ee 3=pV C∧ee 8=pV d∧ee 9=(.func (.func 30) #[] #[pV d])∧ee 62=bo∧ee 63=(iV (l.tests.length:Int))∧ee 64=iV i∧(i≤l.tests.length)∧Grow ρ' 5 ov47_8c1 (Yd l i) og47_8c1∧True) (m:=_) ⟨0,ov30_8c1,og30_8c1,rfl,rfl,Bxm,rfl,h30_3,h30_8,h30_9,rfl,rfl,rfl,Gn _,Fy (Bmt (by omega)) OG30_8c1,trivial⟩ ?_))))
 rintro m47 e47 _ ρ47 _ ⟨i,ov47_8c1,og47_8c1,rfl,rfl,l47,rfl,h47_3,h47_8,h47_9,h47_62,h47_63,h47_64,p47_0,OG47_8c1,_⟩
 replace hg:=GlobE.mono l47 hg
 replace e:=At.mono l47 e
 replace a3:=Val.mono l47 a3
 have o3:=Arl lok mok (i:=i)
 refine w_q rfl rfl fun lz ha=>l_v (Da h47_64 h47_63) (Asa ha fun m0 hb=>Bf (t:=decide ((i:Int)<(l.tests.length:Int))) rfl (fun ao=>?_) (fun ao=>?_))
 ·have i8:=lZ1 ao
  refine Al (kk hb ?_)
  refine Ai fun m1 c1=>Ao (w_q rfl rfl fun m3 hc=>?_)
  obtain⟨f,H⟩:=Ed (xs:=l.tests) (i:=i) (by first|omega|(simp only[lZ3,lZ7];omega))
  have fb:=lok.test i f H;have bv:=Bms lok mok (Hd H);have o6:=Ys fb.1
  refine Arw (Ch i Bua Um h47_62 a3 (q:=(i:Int)) h47_64 rfl H) fun pe j9=>Arw (Ax Um rfl j9) fun jv ct=>Arv (Ct Ws fun oe=>?_)
  refine Cx rfl (Dv (v:=jv) (a:=f) (c:=Aag) Um rfl rfl ct rfl ?_)
  refine Bb (a:=f) ct fun bp ae ag=>?_
  replace hg:=GlobE.mono ae hg
  replace OG47_8c1:=Bxl ae OG47_8c1
  refine Asa hc fun m4 hd=>Pr (De 0 (zT 1 4) rfl (Ba FTest.f_name Bub rfl ty9 ag) fun pf cu=>?_)
  have nc:f.name.data.toList.length<2^60:=At.slen cu
  refine Bu 1 (zT 2 3) rfl (Pk ty9 rfl cu) (Bu 3 [o1,o1,o0,o1,o0] rfl (Cp (v:=.string (ByteArray.mk #[116,101,115,116])) rfl) (Ww 2 (zT 4 1) rfl (Bi (α:=ByteArray) (xs:=[bs f.name.data.toList]) (vs:=[.string f.name]) Bts ty9 zr9 rfl (by decide) (Dk (os:=[.tmp 69]) ⟨rfl,trivial⟩) ⟨Nl (l:=f.name.data.toList) (by first|decide|omega),trivial⟩ rfl (by decide) fun I ar e4=>⟨Bxm,?_⟩)))
  have bq:Grow bp 9 (.slice (some ⟨I,0,none⟩) 1 1) ([bs f.name.data.toList]:List ByteArray) [(I,oC ar.toArray 9)]:=Bs e4 rfl (by decide)
  refine Cj 4 (zT 5 0) rfl (Cp (v:=.slice (some ⟨I,0,none⟩) 1 1) rfl) (Ec rfl (kk hd ?_))
  refine Asb rfl rfl fun m5 m6 c2 he=>Arw (Ba FTest.f_errs Bub rfl ty4 ag) fun pg ja=>l_v (Nx ty4 rfl ja) (l_k he (Bf (t:=f.errs) rfl (fun M=>?_) (fun M=>?_)))
  ·refine Ag rfl rfl (Au (.string (ByteArray.mk #[101,114,114,115])) (Ary rfl rfl c2 fun m7 m8 hf hh=>Arw (Ba FTest.f_sees Bub rfl Afp ag) fun ph jb=>Arw (Ax Afp rfl jb) fun jw a4=>?_))
   have nd:=Bxo a4
   refine l_v (Ci (el:=75) Bui rfl a4) (Av (iV 0) (l_k hh (Ao (Cc (fun mm ee dd ρ' σ'=>∃(j:Nat) (ov72_15:Value) (og72_15:Own),(f.sees.length-j)=mm∧[]=dd∧Ro.le bp ρ'∧(og72_15++(og47_8c1++((d,oC #[pV d,ov47_8c1] 83)::σ)))=σ'∧ee 3=pV C∧ee 8=pV d∧ee 9=(.func (.func 30) #[] #[pV d])∧ee 14=(.string (ByteArray.mk #[101,114,114,115]))∧ee 62=bo∧ee 63=(iV (l.tests.length:Int))∧ee 64=iV i∧ee 74=jw∧ee 75=(iV (f.sees.length:Int))∧ee 15=ov72_15∧ee 76=iV j∧(j≤f.sees.length)∧Grow ρ' 9 ov72_15 (Wj f j) og72_15∧True) (m:=_) ⟨0,.slice (some ⟨I,0,none⟩) 1 1,[(I,oC ar.toArray 9)],rfl,rfl,Bxm,rfl,h47_3,h47_8,h47_9,rfl,h47_62,h47_63,h47_64,rfl,rfl,rfl,rfl,Gn _,Fy (by rfl) bq,trivial⟩ ?_))))
   rintro m72 e72 _ ρ72 _ ⟨j,ov72_15,og72_15,rfl,rfl,l72,rfl,h72_3,h72_8,h72_9,h72_14,h72_62,h72_63,h72_64,h72_74,h72_75,h72_15,h72_76,p72_0,OG72_15,_⟩
   replace hg:=GlobE.mono l72 hg
   replace OG47_8c1:=Bxl l72 OG47_8c1
   replace a4:=Val.mono l72 a4
   have o7:=Aab (t:=f) (j:=j) (by omega)
   refine w_q rfl rfl fun m9 hi=>l_v (Da h72_76 h72_75) (Asa hi fun ma hj=>Bf (t:=decide ((j:Int)<(f.sees.length:Int))) rfl (fun ap=>?_) (fun ap=>?_))
   ·have i9:=lZ1 ap
    refine Al (kk hj ?_)
    refine Ai fun mb hk=>Ao (w_q rfl rfl fun mc hl=>?_)
    obtain⟨k,b0⟩:=Ed (xs:=f.sees) (i:=j) (by first|omega|(simp only[lZ3,lZ7];omega))
    have f7:=Akc hlf H b0
    have o9:=Apl (b:=k)
    refine Arw (Ch j Bui Pi h72_74 a4 (q:=(j:Int)) h72_76 rfl b0) fun pi cv=>?_
    have⟨ne,nf⟩:=At.rng cv
    refine l_v (Bc Pi rfl cv) (Au (iV k) (l_k hl (Ag rfl rfl (l_v (Ah (v:=ov72_15) h72_15) (Av (iV k) (l_v (Cq (k':=1) ((k).toNat) Bwh ⟨_,Ab Bul,rfl⟩ rfl (q:=k) rfl (by omega) (by omega) (off':=(k).toNat) (by omega)) ?_))))))
    obtain⟨oh,ml,f5⟩:=hg.views
    refine l_v (Aae (v:=.string (bs (Mv k))) ⟨_,Btr,rfl⟩ rfl f5 (Bas f7)) (Arv (Bi (α:=ByteArray) (xs:=[bs (Mv k)]) (vs:=[.string (bs (Mv k))]) Bts ty9 zr9 rfl (by decide) (Dk (os:=[.tmp 83]) ⟨rfl,trivial⟩) ⟨Nl (l:=Mv k) (by first|decide|omega),trivial⟩ rfl (by decide) fun c3 ed e5=>?_))
    have ds:Grow ρ72 9 (.slice (some ⟨c3,0,none⟩) 1 1) ([bs (Mv k)]:List ByteArray) [(c3,oC ed.toArray 9)]:=Bs e5 rfl (by decide)
    refine Ca ds fun qg cd jc=>?_
    replace OG72_15:=Bxl cd OG72_15
    refine Arv (Gc (σ:=og47_8c1++((d,oC #[pV d,ov47_8c1] 83)::σ)) (gr:=og72_15) (xs:=Wj f j) (ys:=([bs (Mv k)]:List ByteArray)) Bts Bts (Ab Bul) rfl nL rfl rfl rfl rfl OG72_15 jc (by first|omega|(simp only[lZ2,lZ3,lZ7]at *;omega)) fun d2 es dt=>?_)
    refine Au d2 (l_k hk (Ag rfl rfl (l_v (Br h72_76 rfl (z:=(((j+1):Nat):Int)) wrE) (Av (iV ((j+1):Nat)) (Ac ?_)))))
    refine⟨_,?_,(j+1),d2,es,rfl,rfl,(Bxn l72 cd),rfl,h72_3,h72_8,h72_9,h72_14,h72_62,h72_63,h72_64,h72_74,h72_75,rfl,rfl,(by omega),(Fy (Ald b0) dt),trivial⟩
    omega
   have i9:=lZ0 ap
   refine Bx (kk hf ?_)
   refine Ag rfl rfl (l_v (Ah (v:=.func (.func 30) #[] #[pV d]) h72_9) (l_v (Ah (v:=.string (ByteArray.mk #[101,114,114,115])) h72_14) (l_v (Ah (v:=ov72_15) h72_15) (Ca OG72_15 fun qh ce jd=>?_))))
   replace OG47_8c1:=Bxl ce OG47_8c1
   refine Bj (Bxk Asd) (Arv (Sq (vs:=[.string (ByteArray.mk #[101,114,114,115]),ov72_15]) (caps:=[pV d]) rfl (Yf (r:=d) (u:=bZ1) (ws:=Wj f j) OG47_8c1 (by omega) jd (by rw[Zy (by omega) (by rw[M];rfl)];have:=bv.2;omega) (by first|decide|(simp only[lZ3,lZ7];omega)|(have:=Aab (t:=f) (j:=j) (by omega);omega))) Bve rfl rfl ⟨rfl,rfl,trivial⟩ fun pv qi qt f3=>?_))
   obtain⟨hz,fm,jx,eo,du,bh⟩:=f3
   replace bh:=bh.symm;subst bh fm
   refine l_k c1 (Ag rfl rfl (l_v (Br h72_64 rfl (z:=(((i+1):Nat):Int)) wrE) (Av (iV ((i+1):Nat)) (Bj (Bxk Asc) (Ac ?_)))))
   refine⟨_,?_,(i+1),jx,eo,rfl,rfl,(Bxn (Bxn (Bxn (Bxn l47 ae) l72) ce) hz),rfl,h72_3,h72_8,h72_9,h72_62,h72_63,rfl,(by omega),(Fy (by rw[Zy (by omega) (by rw[M];rfl)];exact Apj H) du),trivial⟩
   omega
  refine Al (kk c2 ?_)
  refine Asb rfl rfl fun md me hm hn=>Arw (Ba FTest.f_sees Bub rfl Afp ag) fun pj je=>Arw (Ax Afp rfl je) fun jy a5=>?_
  have ng:=Bxo a5
  refine l_v (Ci (el:=75) Bui rfl a5) (Av (iV 0) (l_k hn (Ao (Cc (fun mm ee dd ρ' σ'=>∃(j:Nat) (ov92_15:Value) (og92_15:Own),(f.sees.length-j)=mm∧[]=dd∧Ro.le bp ρ'∧(og92_15++(og47_8c1++((d,oC #[pV d,ov47_8c1] 83)::σ)))=σ'∧ee 3=pV C∧ee 8=pV d∧ee 9=(.func (.func 30) #[] #[pV d])∧ee 14=(.string (ByteArray.mk #[116,101,115,116]))∧ee 62=bo∧ee 63=(iV (l.tests.length:Int))∧ee 64=iV i∧ee 74=jy∧ee 75=(iV (f.sees.length:Int))∧ee 15=ov92_15∧ee 76=iV j∧(j≤f.sees.length)∧Grow ρ' 9 ov92_15 (Wj f j) og92_15∧True) (m:=_) ⟨0,.slice (some ⟨I,0,none⟩) 1 1,[(I,oC ar.toArray 9)],rfl,rfl,Bxm,rfl,h47_3,h47_8,h47_9,rfl,h47_62,h47_63,h47_64,rfl,rfl,rfl,rfl,Gn _,Fy (by rfl) bq,trivial⟩ ?_))))
  rintro m92 e92 _ ρ92 _ ⟨j,ov92_15,og92_15,rfl,rfl,l92,rfl,h92_3,h92_8,h92_9,h92_14,h92_62,h92_63,h92_64,h92_74,h92_75,h92_15,h92_76,p92_0,OG92_15,_⟩
  replace hg:=GlobE.mono l92 hg
  replace OG47_8c1:=Bxl l92 OG47_8c1
  replace a5:=Val.mono l92 a5
  have o8:=Aab (t:=f) (j:=j) (by omega)
  refine w_q rfl rfl fun mf ho=>l_v (Da h92_76 h92_75) (Asa ho fun mg hp=>Bf (t:=decide ((j:Int)<(f.sees.length:Int))) rfl (fun aq=>?_) (fun aq=>?_))
  ·have ia:=lZ1 aq
   refine Al (kk hp ?_)
   refine Ai fun mh hq=>Ao (w_q rfl rfl fun mi hr=>?_)
   obtain⟨p,b1⟩:=Ed (xs:=f.sees) (i:=j) (by first|omega|(simp only[lZ3,lZ7];omega))
   have f8:=Akc hlf H b1
   have oa:=Apl (b:=p)
   refine Arw (Ch j Bui Pi h92_74 a5 (q:=(j:Int)) h92_76 rfl b1) fun pk cw=>?_
   have⟨mo,mp⟩:=At.rng cw
   refine l_v (Bc Pi rfl cw) (Au (iV p) (l_k hr (Ag rfl rfl (l_v (Ah (v:=ov92_15) h92_15) (Av (iV p) (l_v (Cq (k':=1) ((p).toNat) Bwh ⟨_,Ab Bul,rfl⟩ rfl (q:=p) rfl (by omega) (by omega) (off':=(p).toNat) (by omega)) ?_))))))
   obtain⟨og,mj,f4⟩:=hg.views
   refine l_v (Aae (v:=.string (bs (Mv p))) ⟨_,Btr,rfl⟩ rfl f4 (Bas f8)) (Arv (Bi (α:=ByteArray) (xs:=[bs (Mv p)]) (vs:=[.string (bs (Mv p))]) Bts ty9 zr9 rfl (by decide) (Dk (os:=[.tmp 83]) ⟨rfl,trivial⟩) ⟨Nl (l:=Mv p) (by first|decide|omega),trivial⟩ rfl (by decide) fun bx e6 dv=>?_))
   have d5:Grow ρ92 9 (.slice (some ⟨bx,0,none⟩) 1 1) ([bs (Mv p)]:List ByteArray) [(bx,oC e6.toArray 9)]:=Bs dv rfl (by decide)
   refine Ca d5 fun pw c4 ib=>?_
   replace OG92_15:=Bxl c4 OG92_15
   refine Arv (Gc (σ:=og47_8c1++((d,oC #[pV d,ov47_8c1] 83)::σ)) (gr:=og92_15) (xs:=Wj f j) (ys:=([bs (Mv p)]:List ByteArray)) Bts Bts (Ab Bul) rfl nL rfl rfl rfl rfl OG92_15 ib (by first|omega|(simp only[lZ2,lZ3,lZ7]at *;omega)) fun cx ep d6=>?_)
   refine Au cx (l_k hq (Ag rfl rfl (l_v (Br h92_76 rfl (z:=(((j+1):Nat):Int)) wrE) (Av (iV ((j+1):Nat)) (Ac ?_)))))
   refine⟨_,?_,(j+1),cx,ep,rfl,rfl,(Bxn l92 c4),rfl,h92_3,h92_8,h92_9,h92_14,h92_62,h92_63,h92_64,h92_74,h92_75,rfl,rfl,(by omega),(Fy (Ald b1) d6),trivial⟩
   omega
  have ia:=lZ0 aq
  refine Bx (kk hm ?_)
  refine Ag rfl rfl (l_v (Ah (v:=.func (.func 30) #[] #[pV d]) h92_9) (l_v (Ah (v:=.string (ByteArray.mk #[116,101,115,116])) h92_14) (l_v (Ah (v:=ov92_15) h92_15) (Ca OG92_15 fun px c5 ic=>?_))))
  replace OG47_8c1:=Bxl c5 OG47_8c1
  refine Bj (Bxk Asd) (Arv (Sq (vs:=[.string (ByteArray.mk #[116,101,115,116]),ov92_15]) (caps:=[pV d]) rfl (Yf (r:=d) (u:=bZ9) (ws:=Wj f j) OG47_8c1 (by omega) ic (by rw[Zy (by omega) (by rw[M];rfl)];have:=bv.2;omega) (by first|decide|(simp only[lZ3,lZ7];omega)|(have:=Aab (t:=f) (j:=j) (by omega);omega))) Bve rfl rfl ⟨rfl,rfl,trivial⟩ fun pl py qj et=>?_))
  obtain⟨hs,fc,jf,ef,d7,b6⟩:=et
  replace b6:=b6.symm;subst b6 fc
  refine l_k c1 (Ag rfl rfl (l_v (Br h92_64 rfl (z:=(((i+1):Nat):Int)) wrE) (Av (iV ((i+1):Nat)) (Bj (Bxk Asc) (Ac ?_)))))
  refine⟨_,?_,(i+1),jf,ef,rfl,rfl,(Bxn (Bxn (Bxn (Bxn l47 ae) l92) c5) hs),rfl,h92_3,h92_8,h92_9,h92_62,h92_63,rfl,(by omega),(Fy (by rw[Zy (by omega) (by rw[M];rfl)];exact Apj H) d7),trivial⟩
  omega
 have i8:=lZ0 ao
 refine Bx (kk h8 ?_)
 refine w_q rfl rfl fun kb fp=>l_v (Ah (v:=.func (.func 30) #[] #[pV d]) h47_9) (Bj (Bxk Asd) (Arv (Sq (vs:=[.string (ByteArray.mk #[109,97,114,107,101,116]),nS]) (caps:=[pV d]) rfl (Yf (r:=d) (u:=bZ6) (ws:=([]:List ByteArray)) OG47_8c1 (by omega) (Gx (α:=ByteArray)) (by decide) (by first|decide|(simp only[lZ3,lZ7];omega)|(rw[show (([]:List ByteArray)).length=1 from rfl];omega))) Bve rfl rfl ⟨rfl,rfl,trivial⟩ fun pm jz qk eu=>?_)))
 obtain⟨bm,fd,jg,eg,d8,b7⟩:=eu
 replace b7:=b7.symm;subst b7 fd
 replace hg:=GlobE.mono bm hg
 replace e:=At.mono bm e
 refine Ary rfl rfl fp fun kc ke fq fs=>Arw (Ba Market.f_houses Btt rfl Hw e h47_3) fun oi ie=>Arw (Ax Hw rfl ie) fun jh V=>?_
 have mq:=Bxo V
 refine l_v (Ci (el:=9) Bts rfl V) (Av (iV 0) (l_k fs (Ao (Aj (Bxk Asc) (Cc (fun mm ee dd ρ' σ'=>∃(i:Nat) (ov114_8c1:Value) (og114_8c1:Own),(m.houses.length-i)=mm∧[]=dd∧Ro.le jz ρ'∧(og114_8c1++((d,oC #[pV d,ov114_8c1] 83)::σ))=σ'∧ee 3=pV C∧ee 8=pV d∧ee 9=(.func (.func 30) #[] #[pV d])∧ee 95=jh∧ee 96=(iV (m.houses.length:Int))∧ee 97=iV i∧(i≤m.houses.length)∧Grow ρ' 5 ov114_8c1 (tk2 l m i) og114_8c1∧True) (m:=_) ⟨0,jg,eg,rfl,rfl,Bxm,rfl,h47_3,h47_8,h47_9,rfl,rfl,rfl,Gn _,Fy (Bss (by omega)) d8,trivial⟩ ?_)))))
 rintro m114 e114 _ ρ114 _ ⟨i,ov114_8c1,og114_8c1,rfl,rfl,l114,rfl,h114_3,h114_8,h114_9,h114_95,h114_96,h114_97,p114_0,OG114_8c1,_⟩
 replace hg:=GlobE.mono l114 hg
 replace e:=At.mono l114 e
 replace V:=Val.mono l114 V
 have nw:=Bqu lok mok (i:=i)
 refine w_q rfl rfl fun kf ft=>l_v (Da h114_97 h114_96) (Asa ft fun kg fu=>Bf (t:=decide ((i:Int)<(m.houses.length:Int))) rfl (fun ah=>?_) (fun ah=>?_))
 ·have i0:=lZ1 ah
  refine Al (kk fu ?_)
  refine Ai fun kh fv=>Ao (w_q rfl rfl fun ki fw=>?_)
  obtain⟨D,a6⟩:=Ed (xs:=m.houses) (i:=i) (by first|omega|(simp only[lZ3,lZ7];omega))
  have nk:=Rn mok.houses (Hd a6)
  refine Arw (Ch i Bts ty9 h114_95 V (q:=(i:Int)) h114_97 rfl a6) fun ok cf=>?_
  have mr:D.data.toList.length<2^60:=At.slen cf
  refine l_v (Pk ty9 rfl cf) (Au (.string D) (l_k fw (Ag rfl rfl (l_v (Ah (v:=.func (.func 30) #[] #[pV d]) h114_9) (Av (.string D) (Arv (Bi (α:=ByteArray) (xs:=[bs D.data.toList]) (vs:=[.string D]) Bts ty9 zr9 rfl (by decide) (Dk (os:=[.tmp 102]) ⟨rfl,trivial⟩) ⟨Nl (l:=D.data.toList) (by first|decide|omega),trivial⟩ rfl (by decide) fun bi e7 dw=>?_)))))))
  have d9:Grow ρ114 9 (.slice (some ⟨bi,0,none⟩) 1 1) ([bs D.data.toList]:List ByteArray) [(bi,oC e7.toArray 9)]:=Bs dw rfl (by decide)
  refine Ca d9 fun pz c6 ih=>?_
  replace OG114_8c1:=Bxl c6 OG114_8c1
  refine Bj (Bxk Asd) (Arv (Sq (vs:=[.string (ByteArray.mk #[104,111,117,115,101]),.slice (some ⟨bi,0,none⟩) 1 1]) (caps:=[pV d]) rfl (Yf (r:=d) (u:=bZ5) (ws:=([bs D.data.toList]:List ByteArray)) OG114_8c1 (by omega) ih (Sz (Aiq hpl.2.1 a6) nL) (by first|decide|(simp only[lZ3,lZ7];omega)|(rw[show (([bs D.data.toList]:List ByteArray)).length=1 from rfl];omega))) Bve rfl rfl ⟨rfl,rfl,trivial⟩ fun pn q0 ql ev=>?_))
  obtain⟨ht,fe,ji,eh,da,b9⟩:=ev
  replace b9:=b9.symm;subst b9 fe
  refine l_k fv (Ag rfl rfl (l_v (Br h114_97 rfl (z:=(((i+1):Nat):Int)) wrE) (Av (iV ((i+1):Nat)) (Bj (Bxk Asc) (Ac ?_)))))
  refine⟨_,?_,(i+1),ji,eh,rfl,rfl,(Bxn (Bxn l114 c6) ht),rfl,h114_3,h114_8,h114_9,h114_95,h114_96,rfl,(by omega),(Fy (Bis a6) da),trivial⟩
  omega
 have i0:=lZ0 ah
 refine Bx (kk fq ?_)
 refine Asb rfl rfl fun kj kl fx fy=>Arw (Ba Market.f_marks Btt rfl Hw e h114_3) fun ol ii=>Arw (Ax Hw rfl ii) fun jj W=>?_
 have ms:=Bxo W
 refine l_v (Ci (el:=9) Bts rfl W) (Av (iV 0) (l_k fy (Ao (Cc (fun mm ee dd ρ' σ'=>∃(i:Nat) (ov131_8c1:Value) (og131_8c1:Own),(m.marks.length-i)=mm∧[]=dd∧Ro.le ρ114 ρ'∧(og131_8c1++((d,oC #[pV d,ov131_8c1] 83)::σ))=σ'∧ee 3=pV C∧ee 8=pV d∧ee 9=(.func (.func 30) #[] #[pV d])∧ee 107=jj∧ee 108=(iV (m.marks.length:Int))∧ee 109=iV i∧(i≤m.marks.length)∧Grow ρ' 5 ov131_8c1 (tk3 l m i) og131_8c1∧True) (m:=_) ⟨0,ov114_8c1,og114_8c1,rfl,rfl,Bxm,rfl,h114_3,h114_8,h114_9,rfl,rfl,rfl,Gn _,Fy (Bmu (by omega)) OG114_8c1,trivial⟩ ?_))))
 rintro m131 e131 _ ρ131 _ ⟨i,ov131_8c1,og131_8c1,rfl,rfl,l131,rfl,h131_3,h131_8,h131_9,h131_107,h131_108,h131_109,p131_0,OG131_8c1,_⟩
 replace hg:=GlobE.mono l131 hg
 replace e:=At.mono l131 e
 replace W:=Val.mono l131 W
 have nx:=Bqv lok mok (i:=i)
 refine w_q rfl rfl fun kn g0=>l_v (Da h131_109 h131_108) (Asa g0 fun ko g1=>Bf (t:=decide ((i:Int)<(m.marks.length:Int))) rfl (fun ai=>?_) (fun ai=>?_))
 ·have i1:=lZ1 ai
  refine Al (kk g1 ?_)
  refine Ai fun kp g2=>Ao (w_q rfl rfl fun kq g3=>?_)
  obtain⟨E,av⟩:=Ed (xs:=m.marks) (i:=i) (by first|omega|(simp only[lZ3,lZ7];omega))
  refine Arw (Ch i Bts ty9 h131_107 W (q:=(i:Int)) h131_109 rfl av) fun om cg=>?_
  have mt:E.data.toList.length<2^60:=At.slen cg
  refine l_v (Pk ty9 rfl cg) (Au (.string E) (l_k g3 (Ag rfl rfl (l_v (Ah (v:=.func (.func 30) #[] #[pV d]) h131_9) (Av (.string E) (Arv (Bi (α:=ByteArray) (xs:=[bs E.data.toList]) (vs:=[.string E]) Bts ty9 zr9 rfl (by decide) (Dk (os:=[.tmp 114]) ⟨rfl,trivial⟩) ⟨Nl (l:=E.data.toList) (by first|decide|omega),trivial⟩ rfl (by decide) fun bj e8 dx=>?_)))))))
  have db:Grow ρ131 9 (.slice (some ⟨bj,0,none⟩) 1 1) ([bs E.data.toList]:List ByteArray) [(bj,oC e8.toArray 9)]:=Bs dx rfl (by decide)
  refine Ca db fun q1 c7 ij=>?_
  replace OG131_8c1:=Bxl c7 OG131_8c1
  refine Bj (Bxk Asd) (Arv (Sq (vs:=[.string (ByteArray.mk #[109,97,114,107]),.slice (some ⟨bj,0,none⟩) 1 1]) (caps:=[pV d]) rfl (Yf (r:=d) (u:=bZ3) (ws:=([bs E.data.toList]:List ByteArray)) OG131_8c1 (by omega) ij (Sz (Aiq hpl.2.2.1 av) nL) (by first|decide|(simp only[lZ3,lZ7];omega)|(rw[show (([bs E.data.toList]:List ByteArray)).length=1 from rfl];omega))) Bve rfl rfl ⟨rfl,rfl,trivial⟩ fun po q2 qm ew=>?_))
  obtain⟨hu,ff,jk,ei,dc,ba⟩:=ew
  replace ba:=ba.symm;subst ba ff
  refine l_k g2 (Ag rfl rfl (l_v (Br h131_109 rfl (z:=(((i+1):Nat):Int)) wrE) (Av (iV ((i+1):Nat)) (Bj (Bxk Asc) (Ac ?_)))))
  refine⟨_,?_,(i+1),jk,ei,rfl,rfl,(Bxn (Bxn l131 c7) hu),rfl,h131_3,h131_8,h131_9,h131_107,h131_108,rfl,(by omega),(Fy (Bit av) dc),trivial⟩
  omega
 have i1:=lZ0 ai
 refine Bx (kk fx ?_)
 refine Asb rfl rfl fun kr ks g4 g5=>Arw (Ba Market.f_fields Btt rfl Se e h131_3) fun on ik=>Arw (Ax Se rfl ik) fun cy Y=>?_
 have mu:=Bxo Y
 refine l_v (Ci (el:=51) Bue rfl Y) (Av (iV 0) (l_k g5 (Ao (Cc (fun mm ee dd ρ' σ'=>∃(i:Nat) (ov148_8c1:Value) (og148_8c1:Own),(m.fields.length-i)=mm∧[]=dd∧Ro.le ρ131 ρ'∧(og148_8c1++((d,oC #[pV d,ov148_8c1] 83)::σ))=σ'∧ee 3=pV C∧ee 8=pV d∧ee 9=(.func (.func 30) #[] #[pV d])∧ee 119=cy∧ee 120=(iV (m.fields.length:Int))∧ee 121=iV i∧(i≤m.fields.length)∧Grow ρ' 5 ov148_8c1 (Acd l m i) og148_8c1∧True) (m:=_) ⟨0,ov131_8c1,og131_8c1,rfl,rfl,Bxm,rfl,h131_3,h131_8,h131_9,rfl,rfl,rfl,Gn _,Fy (Bmv (by omega)) OG131_8c1,trivial⟩ ?_))))
 rintro m148 e148 _ ρ148 _ ⟨i,ov148_8c1,og148_8c1,rfl,rfl,l148,rfl,h148_3,h148_8,h148_9,h148_119,h148_120,h148_121,p148_0,OG148_8c1,_⟩
 replace hg:=GlobE.mono l148 hg
 replace e:=At.mono l148 e
 replace Y:=Val.mono l148 Y
 have ny:=Bap lok mok (i:=i)
 refine w_q rfl rfl fun kt g6=>l_v (Da h148_121 h148_120) (Asa g6 fun kv g8=>Bf (t:=decide ((i:Int)<(m.fields.length:Int))) rfl (fun aj=>?_) (fun aj=>?_))
 ·have i3:=lZ1 aj
  refine Al (kk g8 ?_)
  refine Ai fun kw g9=>Ao (w_q rfl rfl fun kx ga=>?_)
  obtain⟨g,O⟩:=Ed (xs:=m.fields) (i:=i) (by first|omega|(simp only[lZ3,lZ7];omega))
  have b2:=mok.field i g O;have f9:=Bfq lok mok (Hd O);have ni:=Ys b2.1;have f6:=Adp mok (Hd O);have o4:=Aea b2.2.2.2.1
  refine Arw (Ch i Bue Lo h148_119 Y (q:=(i:Int)) h148_121 rfl O) fun oo il=>Arw (Ax Lo rfl il) fun jl ch=>Arv (Ct Xu fun ob=>?_)
  refine Cx rfl (Dv (v:=jl) (a:=g) (c:=Aah) Lo rfl rfl ch rfl ?_)
  refine Bb (a:=g) ch fun d3 aa af=>?_
  replace hg:=GlobE.mono aa hg
  replace e:=At.mono aa e
  replace OG148_8c1:=Bxl aa OG148_8c1
  refine Asa ga fun ky gb=>Pr (De 0 (zT 1 12) rfl (Ba FField.f_name Btx rfl ty9 af) fun op ci=>?_)
  have mv:g.name.data.toList.length<2^60:=At.slen ci
  refine Bu 1 (zT 2 11) rfl (Pk ty9 rfl ci) (De 2 (zT 3 10) rfl (Ba Market.f_houses Btt rfl Hw e h148_3) fun oq im=>De 3 (zT 4 9) rfl (Ax Hw rfl im) fun ot io=>De 4 (zT 5 8) rfl (Ba FField.f_house Btx rfl ty3 af) fun ou cj=>?_)
  have⟨mw,mx⟩:=At.rng cj
  refine Bu 5 (zT 6 7) rfl (Bc ty3 rfl cj) ?_
  obtain⟨B,a7⟩:=Ed (xs:=m.houses) (i:=(g.house).toNat) (by first|omega|(simp only[lZ3,lZ7];omega))
  have nl:=Rn mok.houses (Hd a7)
  refine De 6 (zT 7 6) rfl (Ch ((g.house).toNat) Bts ty9 rfl io (q:=g.house) rfl (by omega) a7) fun ov ck=>?_
  have my:B.data.toList.length<2^60:=At.slen ck
  refine Bu 7 (zT 8 5) rfl (Pk ty9 rfl ck) (Ho 8 (zT 9 4) rfl (Ba FField.f_grows Btx rfl Mx af) fun ow ip=>Ho 9 (zT 10 3) rfl (Ax Mx rfl ip) fun ox iq=>Ww 10 (zT 11 2) rfl (Bm (Bnr hg iq b2.2.2.2.1) Tryz.func34 rfl rfl ⟨rfl,trivial⟩ ⟨Bxm,?_⟩))
  refine Ww 11 (zT 12 1) rfl (Bi (α:=ByteArray) (xs:=[bs g.name.data.toList,bs B.data.toList,bs (Lg g.grows)]) (vs:=[.string g.name,.string B,.string (bs (Lg g.grows))]) Bts ty9 zr9 rfl (by decide) (Dk (os:=[.tmp 126,.tmp 132,.tmp 135]) ⟨rfl,rfl,rfl,trivial⟩) ⟨Nl (l:=g.name.data.toList) (by first|decide|omega),Nl (l:=B.data.toList) (by first|decide|omega),Nl (l:=Lg g.grows) (by first|decide|omega),trivial⟩ rfl (by decide) fun P br dy=>⟨Bxm,?_⟩)
  have de:Grow d3 9 (.slice (some ⟨P,0,none⟩) 3 3) ([bs g.name.data.toList,bs B.data.toList,bs (Lg g.grows)]:List ByteArray) [(P,oC br.toArray 9)]:=Bs dy rfl (by decide)
  refine Cj 12 (zT 13 0) rfl (Cp (v:=.slice (some ⟨P,0,none⟩) 3 3) rfl) (Ec rfl (kk gb ?_))
  refine Asb rfl rfl fun l0 l1 gd ge=>Arw (Ba FField.f_marks Btx rfl Uo af) fun oy ir=>Arw (Ax Uo rfl ir) fun jm Z=>?_
  have mz:=Bxo Z
  refine l_v (Ci (el:=48) Bug rfl Z) (Av (iV 0) (l_k ge (Ao (Cc (fun mm ee dd ρ' σ'=>∃(j:Nat) (ov177_24:Value) (og177_24:Own),(g.marks.length-j)=mm∧[]=dd∧Ro.le d3 ρ'∧(og177_24++(og148_8c1++((d,oC #[pV d,ov148_8c1] 83)::σ)))=σ'∧ee 3=pV C∧ee 8=pV d∧ee 9=(.func (.func 30) #[] #[pV d])∧ee 119=cy∧ee 120=(iV (m.fields.length:Int))∧ee 121=iV i∧ee 138=jm∧ee 139=(iV (g.marks.length:Int))∧ee 24=ov177_24∧ee 140=iV j∧(j≤g.marks.length)∧Grow ρ' 9 ov177_24 (Sn B g j) og177_24∧True) (m:=_) ⟨0,.slice (some ⟨P,0,none⟩) 3 3,[(P,oC br.toArray 9)],rfl,rfl,Bxm,rfl,h148_3,h148_8,h148_9,h148_119,h148_120,h148_121,rfl,rfl,rfl,rfl,Gn _,Fy (by unfold Sn;rw[Ajh];rfl) de,trivial⟩ ?_))))
  rintro m177 e177 _ ρ177 _ ⟨j,ov177_24,og177_24,rfl,rfl,l177,rfl,h177_3,h177_8,h177_9,h177_119,h177_120,h177_121,h177_138,h177_139,h177_24,h177_140,p177_0,OG177_24,_⟩
  replace hg:=GlobE.mono l177 hg
  replace OG148_8c1:=Bxl l177 OG148_8c1
  replace Z:=Val.mono l177 Z
  have nj:=Aix (a:=B) (x:=g) (j:=j) (by omega)
  refine w_q rfl rfl fun l4 gf=>l_v (Da h177_140 h177_139) (Asa gf fun l5 gg=>Bf (t:=decide ((j:Int)<(g.marks.length:Int))) rfl (fun ak=>?_) (fun ak=>?_))
  ·have i4:=lZ1 ak
   refine Al (kk gg ?_)
   refine Ai fun l7 gi=>Ao (w_q rfl rfl fun l8 gj=>?_)
   obtain⟨G,aw⟩:=Ed (xs:=g.marks) (i:=j) (by first|omega|(simp only[lZ3,lZ7];omega))
   have bu:=f6 _ (Hd aw);have nn:=Aea bu
   refine Arw (Ch j Bug Mx h177_138 Z (q:=(j:Int)) h177_140 rfl aw) fun oz it=>Arw (Ax Mx rfl it) fun jn cl=>Arv (Ct Aak fun oc=>?_)
   refine Cx rfl (Dv (v:=jn) (a:=G) (c:=Arm) Mx rfl rfl cl rfl ?_)
   refine Bb (a:=G) cl fun k0 bn iu=>?_
   replace hg:=GlobE.mono bn hg
   replace OG177_24:=Bxl bn OG177_24
   refine l_k gj (Ag rfl rfl (l_v (Ah (v:=ov177_24) h177_24) (Arw (Ax Mx rfl iu) fun p1 iv=>Arv (Bw (Bnr hg iv bu) Tryz.func34 ?_))))
   refine Arv (Bi (α:=ByteArray) (xs:=[bs (Lg G)]) (vs:=[.string (bs (Lg G))]) Bts ty9 zr9 rfl (by decide) (Dk (os:=[.tmp 146]) ⟨rfl,trivial⟩) ⟨Nl (l:=Lg G) (by first|decide|omega),trivial⟩ rfl (by decide) fun bz e9 dz=>?_)
   have df:Grow k0 9 (.slice (some ⟨bz,0,none⟩) 1 1) ([bs (Lg G)]:List ByteArray) [(bz,oC e9.toArray 9)]:=Bs dz rfl (by decide)
   refine Ca df fun q3 c8 iw=>?_
   replace OG177_24:=Bxl c8 OG177_24
   refine Arv (Gc (σ:=og148_8c1++((d,oC #[pV d,ov148_8c1] 83)::σ)) (gr:=og177_24) (xs:=Sn B g j) (ys:=([bs (Lg G)]:List ByteArray)) Bts Bts (Ab Bul) rfl nL rfl rfl rfl rfl OG177_24 iw (by first|omega|(simp only[lZ2,lZ3,lZ7]at *;omega)) fun cz eq dh=>?_)
   refine Au cz (l_k gi (Ag rfl rfl (l_v (Br h177_140 rfl (z:=(((j+1):Nat):Int)) wrE) (Av (iV ((j+1):Nat)) (Ac ?_)))))
   refine⟨_,?_,(j+1),cz,eq,rfl,rfl,(Bxn (Bxn l177 bn) c8),rfl,h177_3,h177_8,h177_9,h177_119,h177_120,h177_121,h177_138,h177_139,rfl,rfl,(by omega),(Fy (Atg aw) dh),trivial⟩
   omega
  have i4:=lZ0 ak
  refine Bx (kk gd ?_)
  refine Ag rfl rfl (l_v (Ah (v:=.func (.func 30) #[] #[pV d]) h177_9) (l_v (Ah (v:=ov177_24) h177_24) (Ca OG177_24 fun q4 c9 ix=>?_)))
  replace OG148_8c1:=Bxl c9 OG148_8c1
  refine Bj (Bxk Asd) (Arv (Sq (vs:=[.string (ByteArray.mk #[102,105,101,108,100]),ov177_24]) (caps:=[pV d]) rfl (Yf (r:=d) (u:=bZ4) (ws:=Sn B g j) OG148_8c1 (by omega) ix (by rw[show (bZ4:List UInt8)=Ib from rfl,Aiw a7 (by omega)];have:=f9.2;omega) (by first|decide|(simp only[lZ3,lZ7];omega)|(rw[show (Sn B g j).length=1 from rfl];omega)|(have:=Aix (a:=B) (x:=g) (j:=j) (by omega);omega))) Bve rfl rfl ⟨rfl,rfl,trivial⟩ fun pp q5 qn ex=>?_))
  obtain⟨hv,fg,jo,ej,di,bb⟩:=ex
  replace bb:=bb.symm;subst bb fg
  refine l_k g9 (Ag rfl rfl (l_v (Br h177_121 rfl (z:=(((i+1):Nat):Int)) wrE) (Av (iV ((i+1):Nat)) (Bj (Bxk Asc) (Ac ?_)))))
  refine⟨_,?_,(i+1),jo,ej,rfl,rfl,(Bxn (Bxn (Bxn (Bxn l148 aa) l177) c9) hv),rfl,h177_3,h177_8,h177_9,h177_119,h177_120,rfl,(by omega),(Fy (by rw[show bZ4=Ib from rfl,Aiw a7 (by omega)];exact Bdq O) di),trivial⟩
  omega
 have i3:=lZ0 aj
 refine Bx (kk g4 ?_)
 refine Asb rfl rfl fun la lb gl gm=>Arw (Ba Market.f_sales Btt rfl Qn e h148_3) fun p2 iy=>Arw (Ax Qn rfl iy) fun d0 a0=>?_
 have n0:=Bxo a0
 refine l_v (Ci (el:=54) Buf rfl a0) (Av (iV 0) (l_k gm (Ao (Cc (fun mm ee dd ρ' σ'=>∃(i:Nat) (ov199_8c1:Value) (og199_8c1:Own),(m.sales.length-i)=mm∧[]=dd∧Ro.le ρ148 ρ'∧(og199_8c1++((d,oC #[pV d,ov199_8c1] 83)::σ))=σ'∧ee 3=pV C∧ee 8=pV d∧ee 9=(.func (.func 30) #[] #[pV d])∧ee 155=d0∧ee 156=(iV (m.sales.length:Int))∧ee 157=iV i∧(i≤m.sales.length)∧Grow ρ' 5 ov199_8c1 (Aee l m i) og199_8c1∧True) (m:=_) ⟨0,ov148_8c1,og148_8c1,rfl,rfl,Bxm,rfl,h148_3,h148_8,h148_9,rfl,rfl,rfl,Gn _,Fy ((show Acd l m i=Acd l m m.fields.length by rw[show i=m.fields.length by omega]).trans txt5_0.symm) OG148_8c1,trivial⟩ ?_))))
 rintro m199 e199 _ ρ199 _ ⟨i,ov199_8c1,og199_8c1,rfl,rfl,l199,rfl,h199_3,au,h199_9,h199_155,h199_156,h199_157,p199_0,OG199_8c1,_⟩
 replace hg:=GlobE.mono l199 hg
 replace e:=At.mono l199 e
 replace a0:=Val.mono l199 a0
 have nz:=Baq lok mok (i:=i)
 refine w_q rfl rfl fun lc gn=>l_v (Da h199_157 h199_156) (Asa gn fun ld go=>Bf (t:=decide ((i:Int)<(m.sales.length:Int))) rfl (fun al=>?_) (fun al=>?_))
 ·have i5:=lZ1 al
  refine Al (kk go ?_)
  refine Ai fun lf gp=>Ao (w_q rfl rfl fun lg gq=>?_)
  obtain⟨h,a8⟩:=Ed (xs:=m.sales) (i:=i) (by first|omega|(simp only[lZ3,lZ7];omega))
  have a9:=mok.sale i h a8;have fa:=Bmk lok mok (Hd a8);have nu:=Ur (n:=h.grams) (by have:=a9.1;omega);have nh:=Asn (n:=m.houses.length) a9.2.2.1 a9.2.2.2
  refine Arw (Ch i Buf Up h199_155 a0 (q:=(i:Int)) h199_157 rfl a8) fun p4 iz=>Arw (Ax Up rfl iz) fun jp cn=>Arv (Ct Agb fun od=>?_)
  refine Cx rfl (Dv (v:=jp) (a:=h) (c:=Akd) Up rfl rfl cn rfl ?_)
  refine Bb (a:=h) cn fun d4 ab co=>?_
  replace hg:=GlobE.mono ab hg
  replace e:=At.mono ab e
  replace OG199_8c1:=Bxl ab OG199_8c1
  refine Arx rfl rfl gq fun lh gs=>Arw (Ba Sale.f_grams Buh rfl ty3 co) fun p5 cp=>?_
  have⟨n1,n2⟩:=At.rng cp
  refine l_v (Bc ty3 rfl cp) (Arv (Bw (Aia (n:=h.grams) hg (by omega)) Bwj ?_))
  refine Arv (Bi (α:=ByteArray) (xs:=[bs (Hv h.grams)]) (vs:=[.string (bs (Hv h.grams))]) Bts ty9 zr9 rfl (by decide) (Dk (os:=[.tmp 163]) ⟨rfl,trivial⟩) ⟨Nl (l:=Hv h.grams) (by first|decide|omega),trivial⟩ rfl (by decide) fun R bt e0=>?_)
  have dj:Grow d4 9 (.slice (some ⟨R,0,none⟩) 1 1) ([bs (Hv h.grams)]:List ByteArray) [(R,oC bt.toArray 9)]:=Bs e0 rfl (by decide)
  refine Au (.slice (some ⟨R,0,none⟩) 1 1) (Ary rfl rfl gs fun li lj gt gu=>Arw (Ba Sale.f_sellers Buh rfl Vh co) fun p6 j0=>Arw (Ax Vh rfl j0) fun jq a1=>?_)
  have n3:=Bxo a1
  refine l_v (Ci (el:=3) Buk rfl a1) (Av (iV 0) (l_k gu (Ao (Cc (fun mm ee dd ρ' σ'=>∃(j:Nat) (ov219_29:Value) (og219_29:Own),(h.sellers.length-j)=mm∧[]=dd∧Ro.le d4 ρ'∧(og219_29++(og199_8c1++((d,oC #[pV d,ov199_8c1] 83)::σ)))=σ'∧ee 3=pV C∧ee 8=pV d∧ee 9=(.func (.func 30) #[] #[pV d])∧ee 155=d0∧ee 156=(iV (m.sales.length:Int))∧ee 157=iV i∧ee 166=jq∧ee 167=(iV (h.sellers.length:Int))∧ee 29=ov219_29∧ee 168=iV j∧(j≤h.sellers.length)∧Grow ρ' 9 ov219_29 (Yz m h j) og219_29∧True) (m:=_) ⟨0,.slice (some ⟨R,0,none⟩) 1 1,[(R,oC bt.toArray 9)],rfl,rfl,Bxm,rfl,h199_3,au,h199_9,h199_155,h199_156,h199_157,rfl,rfl,rfl,rfl,Gn _,Fy (by rfl) dj,trivial⟩ ?_))))
  rintro m219 e219 _ ρ219 _ ⟨j,ov219_29,og219_29,rfl,rfl,l219,rfl,h219_3,h219_8,h219_9,h219_155,h219_156,h219_157,h219_166,h219_167,h219_29,h219_168,p219_0,OG219_29,_⟩
  replace e:=At.mono l219 e
  replace OG199_8c1:=Bxl l219 OG199_8c1
  replace a1:=Val.mono l219 a1
  have o5:=Apb (m:=m) (s:=h) (j:=j) (by omega)
  refine w_q rfl rfl fun lk gv=>l_v (Da h219_168 h219_167) (Asa gv fun ll gw=>Bf (t:=decide ((j:Int)<(h.sellers.length:Int))) rfl (fun am=>?_) (fun am=>?_))
  ·have i6:=lZ1 am
   refine Al (kk gw ?_)
   refine Ai fun lm gx=>Ao (w_q rfl rfl fun ln gy=>?_)
   obtain⟨J,ax⟩:=Ed (xs:=h.sellers) (i:=j) (by first|omega|(simp only[lZ3,lZ7];omega))
   have nv:=a9.2.2.1 j J ax
   refine Arw (Ch j Buk ty3 h219_166 a1 (q:=(j:Int)) h219_168 rfl ax) fun p7 cq=>?_
   have⟨n6,n7⟩:=At.rng cq
   refine l_v (Bc ty3 rfl cq) (Au (iV J) (l_k gy (Ag rfl rfl (l_v (Ah (v:=ov219_29) h219_29) (Arw (Ba Market.f_houses Btt rfl Hw e h219_3) fun p8 j1=>Arw (Ax Hw rfl j1) fun p9 j2=>Av (iV J) ?_)))))
   obtain⟨K,ay⟩:=Ed (xs:=m.houses) (i:=(J).toNat) (by first|omega|(simp only[lZ3,lZ7];omega))
   have nm:=Rn mok.houses (Hd ay)
   refine Arw (Ch ((J).toNat) Bts ty9 rfl j2 (q:=J) rfl (by omega) ay) fun pa cr=>?_
   have n8:K.data.toList.length<2^60:=At.slen cr
   refine l_v (Pk ty9 rfl cr) (Arv (Bi (α:=ByteArray) (xs:=[bs K.data.toList]) (vs:=[.string K]) Bts ty9 zr9 rfl (by decide) (Dk (os:=[.tmp 177]) ⟨rfl,trivial⟩) ⟨Nl (l:=K.data.toList) (by first|decide|omega),trivial⟩ rfl (by decide) fun c0 eb e2=>?_))
   have dl:Grow ρ219 9 (.slice (some ⟨c0,0,none⟩) 1 1) ([bs K.data.toList]:List ByteArray) [(c0,oC eb.toArray 9)]:=Bs e2 rfl (by decide)
   refine Ca dl fun q9 ca j4=>?_
   replace OG219_29:=Bxl ca OG219_29
   refine Arv (Gc (σ:=og199_8c1++((d,oC #[pV d,ov199_8c1] 83)::σ)) (gr:=og219_29) (xs:=Yz m h j) (ys:=([bs K.data.toList]:List ByteArray)) Bts Bts (Ab Bul) rfl nL rfl rfl rfl rfl OG219_29 j4 (by first|omega|(simp only[lZ2,lZ3,lZ7]at *;omega)) fun d1 er dm=>?_)
   refine Au d1 (l_k gx (Ag rfl rfl (l_v (Br h219_168 rfl (z:=(((j+1):Nat):Int)) wrE) (Av (iV ((j+1):Nat)) (Ac ?_)))))
   refine⟨_,?_,(j+1),d1,er,rfl,rfl,(Bxn l219 ca),rfl,h219_3,h219_8,h219_9,h219_155,h219_156,h219_157,h219_166,h219_167,rfl,rfl,(by omega),(Fy (Ayb ax ay) dm),trivial⟩
   omega
  have i6:=lZ0 am
  refine Bx (kk gt ?_)
  refine Ag rfl rfl (l_v (Ah (v:=.func (.func 30) #[] #[pV d]) h219_9) (l_v (Ah (v:=ov219_29) h219_29) (Ca OG219_29 fun qa cb j5=>?_)))
  replace OG199_8c1:=Bxl cb OG199_8c1
  refine Bj (Bxk Asd) (Arv (Sq (vs:=[.string (ByteArray.mk #[115,97,108,101]),ov219_29]) (caps:=[pV d]) rfl (Yf (r:=d) (u:=bZ7) (ws:=Yz m h j) OG199_8c1 (by omega) j5 (by rw[show (bZ7:List UInt8)=Pc from rfl,Apa (by omega)];have:=fa.2;omega) (by first|decide|(simp only[lZ3,lZ7];omega)|(rw[show (Yz m h j).length=1 from rfl];omega)|(have:=Apb (m:=m) (s:=h) (j:=j) (by omega);omega))) Bve rfl rfl ⟨rfl,rfl,trivial⟩ fun pq qb qo ey=>?_))
  obtain⟨hx,fh,jr,ek,dn,bc⟩:=ey
  replace bc:=bc.symm;subst bc fh
  refine l_k gp (Ag rfl rfl (l_v (Br h219_157 rfl (z:=(((i+1):Nat):Int)) wrE) (Av (iV ((i+1):Nat)) (Bj (Bxk Asc) (Ac ?_)))))
  refine⟨_,?_,(i+1),jr,ek,rfl,rfl,(Bxn (Bxn (Bxn (Bxn l199 ab) l219) cb) hx),rfl,h219_3,h219_8,h219_9,h219_155,h219_156,rfl,(by omega),(Fy (by rw[show bZ7=Pc from rfl,Apa (by omega)];exact Bdr a8) dn),trivial⟩
  omega
 have i5:=lZ0 al
 refine Bx (kk gl ?_)
 refine Asb rfl rfl fun lo lp gz h0=>Bj (Bxk Asd) (Arv (Cm (vs:=[pV d]) (Bon (r:=d) OG199_8c1) Tryz.func35 rfl rfl ⟨au,trivial⟩ fun ps qc qq f0=>?_))
 obtain⟨b3,be,fj⟩:=f0
 replace b3:=b3.symm;replace be:=be.symm;subst b3 be fj
 refine l_v (Gl rfl rfl) (l_k h0 (Cg rfl (Hn (by omega)) (Al (kk gz ?_))))
 refine w_q rfl rfl fun lq h1=>Bj (Bxk Asc) (Bj (Bxk Asd) (Arv (Cm (vs:=[pV d]) (Anc (r:=d) OG199_8c1 Bmy) Tryz.func36 rfl rfl ⟨au,trivial⟩ fun pt qd qr f1=>?_)))
 obtain⟨b4,bf,fk⟩:=f1
 replace b4:=b4.symm;replace bf:=bf.symm;subst b4 bf fk
 refine Au (.string (bs (Aee l m i))) (Au (iV 0) (l_k h1 (Aq (b5 ?_))))
 refine⟨(Bxn (Bxn (Bxn (Bxn (Bxn (Bxn (Bxn (Bxn (Bxn (Bxn T U) ac) ad) l30) l47) bm) l114) l131) l148) l199),rfl,Eq.trans (Mp (r:=4) (r':=5) (rs:=[]) (v:=.string (bs (Aee l m i))) (v':=iV 0) (vs:=[]) ⟨rfl,rfl,trivial⟩) ?_⟩;rw[Yx hlf hmf,Akt hlf hmf,show i=m.sales.length by omega,Avk]
end
end Go.Proofs.YtninnkechkolnaaGreatDoor
