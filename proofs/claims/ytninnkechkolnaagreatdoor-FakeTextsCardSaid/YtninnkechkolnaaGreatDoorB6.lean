/- Part 6 of what all laws of layer 8 need: a logic of programs that start goroutines, and what the functions yield. -/
import Derived.Test.YtninnkechkolnaaGreatDoorB5
set_option linter.unusedVariables false
set_option linter.unusedSimpArgs false
set_option maxRecDepth 100000
set_option maxHeartbeats 4000000
namespace Go.Proofs.YtninnkechkolnaaGreatDoor
section
open Go
theorem Bne{mn X ρ σ p vk vt vh vm vf vs gk gt gh gm gf gs u ws vw}(hmo:I64 p.l.most)(hB:RdB p 60001)(hk:Grow ρ 9 vk p.l.kinds gk)(ht:Grow ρ 46 vt p.l.tests gt)(hh:Grow ρ 9 vh p.m.houses gh)(hm:Grow ρ 9 vm p.m.marks gm)(hf:Grow ρ 51 vf p.m.fields gf)(hs:Grow ρ 54 vs p.m.sales gs)(rw_:Val ρ vw ws)(hn:ws.length≤60001)(hw:∀w∈ws,w.data.toList.length≤60000):CallsH (CX mn X) 97 #[.agg #[vk,iV p.l.most,vt,vh,vm,vf,vs],.string (bs u),vw] ρ (gk++(gt++(gh++(gm++(gf++(gs++σ)))))) (fun w ρ' σ'=>Ro.le ρ ρ'∧((∃(e:Int) (v:Value) (z:Jk7),Afe p u (wl ws) = .inl e∧e≠0∧Val ρ' v z∧w = .tuple #[v,.int .i64 e]∧σ'=σ)∨∃(q:PSt) (v:Value) (gr:Own),Afe p u (wl ws) = .inr q∧w = .tuple #[v,z0]∧Bbk ρ' v q.l q.m gr∧σ'=gr++σ)):=by
 obtain⟨bn,bo⟩:=hmo
 obtain⟨bg,bh,bi,bj,bk,bl⟩:=hB
 refine Lt (n:=51) (args:=[.agg #[vk,iV p.l.most,vt,vh,vm,vf,vs],.string (bs u),vw]) [.cell 6 109,.tmp 7] Tryz.func97 rfl rfl rfl rfl fun Q K bp=>w_q rfl rfl fun K1 k1=>Arv (Eb (v:=.agg #[vk,iV p.l.most,vt,vh,vm,vf,vs]) rfl fun V=>?_)
 refine Arv (Ct Aot fun W=>?_)
 refine Au _ (Ds k1 fun K4 K5 k4 k5=>Av vw ?_)
 have g6:=Can rw_
 refine l_v (Pc (el:=9) Bwy rw_) (l_v (Hs) (l_k k5 (Cw (fun G=>?_) (fun G=>?_))))
 ·have q7:=Jr G
  refine Cr fun K8 k8=>Arv (Ma (i:=1) (cs:=[vk,iV p.l.most,vt,vh,vm,vf,vs]) (rs:=[]) ⟨_,Bxc,rfl⟩ ⟨_,Ab Bxb,rfl⟩ rfl ?_)
  refine Ee (Li (i:=0) ⟨_,Ab Bxb,rfl⟩ rfl rfl rfl rfl (Zh ⟨Cak hk,rfl,Cak ht,Cak hh,Cak hm,Cak hf,Cak hs,trivial⟩) rfl nL rfl ?_)
  refine Au _ (l_k k8 (Aj (Cai Arz) (Aj Cag (Aq (K _ _ _ _ _ [.agg #[vk,iV p.l.most,vt,vh,vm,vf,vs],iV 3] ⟨Ez ⟨_,Bxc,rfl⟩ ⟨_,Ab Bxb,rfl⟩ rfl (i:=0),rfl,trivial⟩ (Ghost.drop.trans ((Gk hk).trans ((Gk ht).trans ((Gk hh).trans ((Gk hm).trans ((Gk hf).trans (Gk hs))))))) ⟨Cal,.inl ⟨_,_,⟨⟩,Bgd (by omega),by decide,jk7 ⟨Cak hk,rfl,Cak ht,Cak hh,Cak hm,Cak hf,Cak hs,trivial⟩,rfl,rfl⟩⟩)))))
 have q7:=Jq G
 refine Al (kk k4 ?_)
 refine Cr fun K9 k9=>Av vw ?_
 obtain⟨a,J⟩:=Ed (xs:=ws) (i:=0) (by omega)
 have bq:=hw _ (lZ8 J)
 refine Arw (Em 0 Bwy ty9 rw_ (q:=0) J) fun c0 N=>?_
 have bb:a.data.toList.length<2^60:=At.slen N
 have be:=At.slen N
 refine l_v (Fd ty9 N) (Av _ (l_v (Tw) ?_))
 have bz:Val ρ (.agg #[.string a,nS,.bool (u==bZ1)]) (⟨a,[],u==bZ1⟩:FTest):=FTest.shut (show (a).size<2^60 by omega) Gx
 refine l_v (Dn (ns:=[1,1,1]) (vs:=[(0,(.string a)),(2,(.bool (u==bZ1)))]) (zc:=Aag) (cs:=[.string a,nS,.bool (u==bZ1)]) Bxh Ws rfl ⟨ty9.2,Afp.2,ty4.2,trivial⟩ (EvB.map ⟨⟨rfl,rfl⟩,⟨rfl,rfl⟩,trivial⟩) ((Be (cs:=[.string a]) rfl rfl nL).trans ((Be (cs:=[.bool (u==bZ1)]) rfl rfl nL).trans rfl))) (Arv (Ct Ws fun U=>?_))
 refine Ee (Li (i:=0) Um.2 rfl rfl rfl rfl (Zh ⟨rfl,rfl,rfl,trivial⟩) rfl nL rfl ?_)
 refine Ds k9 fun ay az ac ad=>Au (iV 1) (l_k ad (Ao (Cc (fun mm ee dd ρ' σ'=>∃(i:Nat) (nv:List Int) (k:Value) (L:Own),(ws.length-i)=mm∧[]=dd∧Ro.le ρ ρ'∧(L++((U,oC #[.string a,k,.bool (u==bZ1)] 46)::((W,oC #[nS,iV 0,nS,nS,nS,nS,nS] 109)::((V,oC #[vk,iV p.l.most,vt,vh,vm,vf,vs] 109)::(gk++(gt++(gh++(gm++(gf++(gs++σ))))))))))=σ'∧ee 2=vw∧ee 3=pV V∧ee 6=pV W∧ee 8=pV U∧ee 9=iV i∧(1≤i∧i≤ws.length)∧(Hy Qi (((wl ws).take i).drop 1)=some nv)∧(nv.length≤i)∧Grow ρ' 75 k nv L∧True) (m:=_) ⟨1,[],nS,[],rfl,rfl,Cal,rfl,rfl,rfl,rfl,rfl,rfl,⟨Lb _,by omega⟩,(by rw[show ((wl ws).take 1).drop 1=[] from Amn];rfl),Hz _,Hm,trivial⟩ ?_)))
 rintro bt ba _ c3 _ ⟨i,nv,k,L,rfl,rfl,c,rfl,H,t,y,B,I,an,a1,bu,f,_⟩
 replace rw_:=Val.mono c rw_
 replace hk:=Caj c hk
 replace ht:=Caj c ht
 replace hh:=Caj c hh
 replace hm:=Caj c hm
 replace hf:=Caj c hf
 replace hs:=Caj c hs
 obtain⟨bv,bx⟩:=an
 refine Gw fun b0 b1 ae af=>l_v (Ah I) (l_v (Ah H) ?_)
 have bc:=Can rw_
 refine l_v (Pc (el:=9) Bwy rw_) (l_v (Fk) (l_k af (Cw (fun E=>?_) (fun E=>?_))))
 ·have ao:=lZ2 E
  refine Al (kk ae ?_)
  refine Ai fun b2 ag=>Ao (Ai fun b3 ah=>Px (Bw 1 [o0,o1,o0,o0,o0,o0,o0] rfl (Ah H) (Bw 2 [o0,o1,o1,o0,o0,o0,o0] rfl (Ah I) ?_)))
  obtain⟨d,C⟩:=Ed (xs:=ws) (i:=i) (by omega)
  have br:=hw _ (lZ8 C)
  refine Cu 3 [o0,o1,o1,o1,o0,o0,o0] rfl (Em i Bwy ty9 rw_ (q:=(i:Int)) C) fun c1 O=>?_
  have bd:d.data.toList.length<2^60:=At.slen O
  have bf:=At.slen O
  refine Bw 4 [o0,o1,o1,o1,o1,o0,o0] rfl (Fd ty9 O) (Hr 0 (zT 5 2) rfl (Fj Akn Tryz.func40 trivial fun c2 ax c6 ab=>?_))
  obtain⟨b,P,ap⟩:=ab
  replace P:=P.symm;subst P
  replace hk:=Caj b hk
  replace ht:=Caj b ht
  replace hh:=Caj b hh
  replace hm:=Caj b hm
  replace hf:=Caj b hf
  replace hs:=Caj b hs
  replace f:=Caj b f
  refine⟨b,?_⟩
  have bm:=Bdg (x:=d.data.toList)
  refine Hr 5 (zT 6 1) rfl (Bm (Akc (s:=bs d.data.toList) ap) Bzf rfl rfl ⟨rfl,rfl,trivial⟩ ⟨b,?_⟩)
  refine Jg 6 (zT 7 0) rfl b rfl (Cp rfl) (Ec rfl (kk ah ?_))
  refine Gw fun b4 b5 ai aj=>Av (iV (findI [bs Rb,bs Nj,bs wNo] (bs d.data.toList))) (l_v (Fk) (l_k aj (Cw (fun F=>?_) (fun F=>?_))))
  ·have M:=lZ2 F
   refine Cr fun b6 ak=>Bj (Cai (Ea (Iq Arz))) (Arv (Ma (i:=0) (cs:=[vk,iV p.l.most,vt,vh,vm,vf,vs]) (rs:=[]) ⟨_,Bxc,rfl⟩ ⟨_,Ab Bxb,rfl⟩ t ?_))
   refine Bj (Cai (Iq (Ea Arz))) (Ee (Li (i:=0) ⟨_,Ab Bxb,rfl⟩ y rfl rfl rfl (Zh ⟨Cak hk,rfl,Cak ht,Cak hh,Cak hm,Cak hf,Cak hs,trivial⟩) rfl nL rfl ?_))
   refine Au _ (l_k ak (Aj (Cai Arz) (Aj Cag (Aj (Cai Asc) (Aj (drops f.1) (Aj (Cai Arz) (Aj Cag (Aq (K _ _ _ _ _ [.agg #[vk,iV p.l.most,vt,vh,vm,vf,vs],iV 3] ⟨Ez ⟨_,Bxc,rfl⟩ ⟨_,Ab Bxb,rfl⟩ y (i:=0),rfl,trivial⟩ (Ghost.drop.trans ((Gk hk).trans ((Gk ht).trans ((Gk hh).trans ((Gk hm).trans ((Gk hf).trans (Gk hs))))))) ⟨Cam c b,.inl ⟨_,_,⟨⟩,Bgc (by omega) (by omega) C (Bdh M),by decide,jk7 ⟨Cak hk,rfl,Cak ht,Cak hh,Cak hm,Cak hf,Cak hs,trivial⟩,rfl,rfl⟩⟩)))))))))
  have M:=lZ1 F
  refine Al (kk ai ?_)
  refine Bf (l_v (Cb Bxh rfl rfl Afp.2 (by decide) B rfl) (Arv (Gu (v:=k) Afp.1 rfl (Pz _ mC) rfl ?_)))
  refine Av _ (Arv (Cj (xs:=[findI [bs Rb,bs Nj,bs wNo] (bs d.data.toList)]) (vs:=[iV (findI [bs Rb,bs Nj,bs wNo] (bs d.data.toList))]) Bxq Pi Acl (by decide) (Dk (os:=[.tmp 38]) ⟨rfl,trivial⟩) ⟨Cv.2 ⟨rfl,by constructor<;>omega⟩,trivial⟩ (by decide) fun Y a7 a5=>?_))
  have a3:Grow ax 75 (.slice (some ⟨Y,0,none⟩) 1 1) ([findI [bs Rb,bs Nj,bs wNo] (bs d.data.toList)]:List Int) [(Y,oC a7.toArray 75)]:=Bs a5 rfl (by decide)
  refine Ca a3 fun c4 a0 aq=>?_
  replace f:=Caj a0 f
  refine Arv (Ge Bxq Bxq (Ab Bzl) nL f aq (by simp only[lZ0,lZ3,lZ4]at *;omega) fun aw a9 T=>?_)
  refine l_v (Cb Bxh rfl rfl Afp.2 (by decide) B rfl) (Bj (Cai Asd) (Ee (Cz (j:=0) Afp.2 rfl rfl (Cak T) rfl nL ?_)))
  refine l_k ag (Bf (l_v (Ah I) (l_v (Dm (((i+1):Nat):Int)) (Au _ (Bj (Cai Asc) (Ac ?_))))))
  refine⟨_,?_,(i+1),(nv++([findI [bs Rb,bs Nj,bs wNo] (bs d.data.toList)]:List Int)),aw,a9,rfl,rfl,(Cam (Cam c b) a0),rfl,H,t,y,B,rfl,⟨by omega,by omega⟩,(Aqj a1 (by omega) (Pw C) (Bdi M)),(by rw[lZ0];simp only[lZ3,lZ4];omega),(Fy rfl T),trivial⟩
  omega
 have ao:=lZ1 E
 refine Bx (kk ac ?_)
 refine Ai fun b8 al=>Hc f fun a2 g ar=>?_
 replace hk:=Caj g hk
 replace ht:=Caj g ht
 replace hh:=Caj g hh
 replace hm:=Caj g hm
 replace hf:=Caj g hf
 replace hs:=Caj g hs
 refine Bf (l_v (Cb Bxc rfl rfl Zu.2 (by decide) t rfl) (l_v (Cb Bxd rfl rfl Vi.2 (by decide) rfl rfl) (Arv (Dt (i:=2) Vi.1 rfl rfl rfl ?_))))
 refine Arv (Ma (i:=0) (cs:=[.string a,k,.bool (u==bZ1)]) (rs:=[]) Um.1 Um.2 B ?_)
 have au:Val a2 (.agg #[.string a,k,.bool (u==bZ1)]) (⟨a,nv,u==bZ1⟩:FTest):=FTest.shut (show (a).size<2^60 by omega) ar
 refine Arv (Cj (xs:=[(⟨a,nv,u==bZ1⟩:FTest)]) (vs:=[.agg #[.string a,k,.bool (u==bZ1)]]) Bxg Um Ws (by decide) (Dk (os:=[.tmp 45]) ⟨rfl,trivial⟩) ⟨au,trivial⟩ (by decide) fun Z a8 a6=>?_)
 have a4:Grow a2 46 (.slice (some ⟨Z,0,none⟩) 1 1) ([(⟨a,nv,u==bZ1⟩:FTest)]:List FTest) [(Z,oC a8.toArray 46)]:=Bs a6 rfl (by decide)
 refine Ca a4 fun c5 h av=>?_
 replace hk:=Caj h hk
 replace ht:=Caj h ht
 replace hh:=Caj h hh
 replace hm:=Caj h hm
 replace hf:=Caj h hf
 replace hs:=Caj h hs
 refine Bj (Cai (Dz (Dz (Dz Ase)))) (Arv (Ge Bxg Bxg (Ab Bzi) nL ht av (by simp only[lZ0,lZ3,lZ4]at *;omega) fun R aa D=>?_))
 refine l_v (Cb Bxc rfl rfl Zu.2 (by decide) t rfl) (l_v (Cb Bxd rfl rfl Vi.2 (by decide) rfl rfl) (Bj (Cai (Ea (Iq Arz))) (Ee (Cz (j:=0) Vi.2 rfl rfl (Cak D) rfl nL ?_))))
 refine Dr al fun b9 am=>Arv (Ma (i:=0) (cs:=[vk,iV p.l.most,R,vh,vm,vf,vs]) (rs:=[]) ⟨_,Bxc,rfl⟩ ⟨_,Ab Bxb,rfl⟩ t ?_)
 refine Bj (Cai (Iq (Ea Arz))) (Ee (Li (i:=0) ⟨_,Ab Bxb,rfl⟩ y rfl rfl rfl (Zh ⟨Cak hk,rfl,Cak D,Cak hh,Cak hm,Cak hf,Cak hs,trivial⟩) rfl nL rfl ?_))
 refine Au _ (l_k am (Aj (Cai Arz) (Aj Cag (Aj (Cai (Iq Asd)) (Aj Cag (Aj (Cai (Dz Ase)) (Aj (Cai Asd) (Aq (K _ _ _ _ _ [.agg #[vk,iV p.l.most,R,vh,vm,vf,vs],iV 0] ⟨Ez ⟨_,Bxc,rfl⟩ ⟨_,Ab Bxb,rfl⟩ y (i:=0),rfl,trivial⟩ Cag ⟨Cam (Cam c g) h,.inr ⟨_,_,_,Blc J (by omega) a1,rfl,⟨vk,R,vh,vm,vf,vs,gk,aa,gh,gm,gf,gs,rfl,rfl,(by constructor<;>omega),hk,D,hh,hm,hf,hs⟩,by simp only[lZ9]⟩⟩)))))))))
theorem Bhi{W0 ρ σ p vk vt vh vm vf vs gk gt gh gm gf gs ws vw}(hmo:I64 p.l.most)(hB:RdB p 60001)(hk:Grow ρ 9 vk p.l.kinds gk)(ht:Grow ρ 46 vt p.l.tests gt)(hh:Grow ρ 9 vh p.m.houses gh)(hm:Grow ρ 9 vm p.m.marks gm)(hf:Grow ρ 51 vf p.m.fields gf)(hs:Grow ρ 54 vs p.m.sales gs)(rw_:Val ρ vw ws)(hn:ws.length≤60001)(hw:∀w∈ws,w.data.toList.length≤60000)(hnr:Jp σ):CallsH (CY W0) 98 #[.agg #[vk,iV p.l.most,vt,vh,vm,vf,vs],vw] ρ (gk++(gt++(gh++(gm++(gf++(gs++σ)))))) (fun w ρ' σ'=>Ro.le ρ ρ'∧((∃(e:Int) (v:Value) (z:Jk7),Aaw p (wl ws) = .inl e∧e≠0∧Val ρ' v z∧w = .tuple #[v,.int .i64 e]∧σ'=σ)∨∃(q:PSt) (v:Value) (gr:Own),Aaw p (wl ws) = .inr q∧w = .tuple #[v,z0]∧Bbk ρ' v q.l q.m gr∧σ'=gr++σ)):=by
 obtain⟨bi,bj⟩:=hmo
 obtain⟨bb,bc,bd,be,bf,bg⟩:=hB
 refine Lt (n:=50) (args:=[.agg #[vk,iV p.l.most,vt,vh,vm,vf,vs],vw]) [.cell 4 109,.tmp 5] Tryz.func98 rfl rfl rfl rfl fun Q D bk=>w_q rfl rfl fun K1 k1=>Arv (Eb (v:=.agg #[vk,iV p.l.most,vt,vh,vm,vf,vs]) rfl fun k2=>?_)
 refine Arv (Ct Aot fun k3=>?_)
 refine Au _ (Ds k1 fun K4 K5 k4 k5=>Av vw ?_)
 have g6:=Can rw_
 refine l_v (Pc (el:=9) Bwy rw_) (l_v (Fk) (l_k k5 (Cw (fun H=>?_) (fun H=>?_))))
 ·have q7:=lZ2 H
  refine Cr fun K8 k8=>Arv (Ma (i:=1) (cs:=[vk,iV p.l.most,vt,vh,vm,vf,vs]) (rs:=[]) ⟨_,Bxc,rfl⟩ ⟨_,Ab Bxb,rfl⟩ rfl ?_)
  refine Ee (Li (i:=0) ⟨_,Ab Bxb,rfl⟩ rfl rfl rfl rfl (Zh ⟨Cak hk,rfl,Cak ht,Cak hh,Cak hm,Cak hf,Cak hs,trivial⟩) rfl nL rfl ?_)
  refine Au _ (l_k k8 (Aj (Cai Arz) (Aj Cag (Aq (D _ _ _ _ _ [.agg #[vk,iV p.l.most,vt,vh,vm,vf,vs],iV 3] ⟨Ez ⟨_,Bxc,rfl⟩ ⟨_,Ab Bxb,rfl⟩ rfl (i:=0),rfl,trivial⟩ (Ghost.drop.trans ((Gk hk).trans ((Gk ht).trans ((Gk hh).trans ((Gk hm).trans ((Gk hf).trans (Gk hs))))))) ⟨Cal,.inl ⟨_,_,⟨⟩,Bfx (by omega),by decide,jk7 ⟨Cak hk,rfl,Cak ht,Cak hh,Cak hm,Cak hf,Cak hs,trivial⟩,rfl,rfl⟩⟩)))))
 have q7:=lZ1 H
 refine Al (kk k4 ?_)
 refine Cr fun K9 T=>Av vw (Arw (Ack 2 Bwy ty9 rfl rw_ (q:=2) rfl rfl (by omega)) fun bt B=>Arv (Fj (Bhg B (by rw[lZ5];omega) (fun w h=>hw w (Apj h))) Tryz.func126 ⟨rfl,trivial⟩ fun bz W c2 J=>?_))
 obtain⟨c,J⟩:=J
 replace rw_:=Val.mono c rw_
 replace hk:=Caj c hk
 replace ht:=Caj c ht
 replace hh:=Caj c hh
 replace hm:=Caj c hm
 replace hf:=Caj c hf
 replace hs:=Caj c hs
 replace B:=Val.mono c B
 rcases J with⟨k,⟨y,K⟩|⟨u,au,y,K,t⟩⟩
 ·replace k:=k.symm;subst k K
  refine Av (.tuple #[nS,bF]) (l_v (Bp nS) (l_v (Bp bF) (Au nS (Au bF (Ds T fun av aw br a4=>Av bF (l_v (Iy rfl) (l_k a4 (Co rfl (Amc rfl) (Cr fun ax a5=>Arv (Ma (i:=1) (cs:=[vk,iV p.l.most,vt,vh,vm,vf,vs]) (rs:=[]) ⟨_,Bxc,rfl⟩ ⟨_,Ab Bxb,rfl⟩ rfl ?_))))))))))
  refine Ee (Li (i:=0) ⟨_,Ab Bxb,rfl⟩ rfl rfl rfl rfl (Zh ⟨Cak hk,rfl,Cak ht,Cak hh,Cak hm,Cak hf,Cak hs,trivial⟩) rfl nL rfl ?_)
  refine Au _ (l_k a5 (Aj (Cai Arz) (Aj Cag (Aq (D _ _ _ _ _ [.agg #[vk,iV p.l.most,vt,vh,vm,vf,vs],iV 3] ⟨Ez ⟨_,Bxc,rfl⟩ ⟨_,Ab Bxb,rfl⟩ rfl (i:=0),rfl,trivial⟩ (Ghost.drop.trans ((Gk hk).trans ((Gk ht).trans ((Gk hh).trans ((Gk hm).trans ((Gk hf).trans (Gk hs))))))) ⟨c,.inl ⟨_,_,⟨⟩,Bfw (by omega) (Sr (by omega)) (Sr (by omega)) y,by decide,jk7 ⟨Cak hk,rfl,Cak ht,Cak hh,Cak hm,Cak hf,Cak hs,trivial⟩,rfl,rfl⟩⟩)))))
 replace k:=k.symm;subst k K
 refine Av (.tuple #[au,bT]) (l_v (Bp _) (l_v (Bp bT) (Au _ (Au bT (Ds T fun ay az a6 a7=>Av bT (l_v (Iy rfl) (l_k a7 (Dy (not_t rfl) (Al (kk a6 ?_))))))))))
 refine Ai fun b0 a8=>Aj (Cai (Dz (Dz (Bv Ase)))) ?_
 have aq:=rw_
 have al:=hk
 have ao:=ht
 have ak:=hh
 have am:=hm
 have aj:=hf
 have an:=hs
 have ap:=B
 have ar:=t
 refine Ajg hh fun c0 g ae Y=>?_
 replace rw_:=Val.mono g rw_
 replace hk:=Caj g hk
 replace ht:=Caj g ht
 replace hh:=Caj g hh
 replace hm:=Caj g hm
 replace hf:=Caj g hf
 replace hs:=Caj g hs
 replace t:=Val.mono g t
 refine Px (Bw 0 (zT 1 7) rfl (Cb Bxc rfl rfl Ln.2 (by decide) rfl rfl) (Bw 1 (zT 2 6) rfl (Cb Bxa rfl rfl Hw.2 (by decide) rfl rfl) (Bw 3 [o1,o1,o0,o1,o0,o0,o0,o0] rfl (Ah rfl) ?_)))
 obtain⟨b,C⟩:=Ed (xs:=ws) (i:=1) (by omega)
 have bl:=hw _ (lZ8 C)
 refine Cu 4 [o1,o1,o0,o1,o1,o0,o0,o0] rfl (Em 1 Bwy ty9 rw_ (q:=1) C) fun bu M=>?_
 have b6:b.data.toList.length<2^60:=At.slen M
 have b9:=At.slen M
 refine Bw 5 [o1,o1,o0,o1,o1,o1,o0,o0] rfl (Fd ty9 M) (Hr 2 (zT 6 2) rfl (Dt (i:=1) Hw.1 rfl rfl rfl ⟨Cal,?_⟩))
 have bh:=Aiy (l:=p.m.houses) (s:=bs b.data.toList)
 refine Hr 6 (zT 7 1) rfl (Bm (Akc (s:=bs b.data.toList) ae) Bzf rfl rfl ⟨rfl,rfl,trivial⟩ ⟨Cal,?_⟩)
 refine Dp 7 (zT 8 0) rfl (Cp rfl) (Ec rfl (kk a8 ?_))
 refine Ai fun b1 a9=>Ai fun b2 aa=>Ajf Y (Gv (Gv (Gp hk (Gp ht (Gp hm (Gp hf (Gp hs hnr))))))) ?_
 replace rw_:=aq
 replace hk:=al
 replace ht:=ao
 replace hh:=ak
 replace hm:=am
 replace hf:=aj
 replace hs:=an
 replace B:=ap
 replace t:=ar
 refine Bf (Av (iV (findI p.m.houses (bs b.data.toList))) (l_v (Fk) (l_k aa (Cw (fun G=>?_) (fun G=>?_)))))
 ·have L:=lZ2 G
  refine Cr fun b3 ab=>Bj (Cai (Ea Arz)) (Arv (Ma (i:=0) (cs:=[vk,iV p.l.most,vt,vh,vm,vf,vs]) (rs:=[]) ⟨_,Bxc,rfl⟩ ⟨_,Ab Bxb,rfl⟩ rfl ?_))
  refine Bj (Cai (Iq Asd)) (Ee (Li (i:=0) ⟨_,Ab Bxb,rfl⟩ rfl rfl rfl rfl (Zh ⟨Cak hk,rfl,Cak ht,Cak hh,Cak hm,Cak hf,Cak hs,trivial⟩) rfl nL rfl ?_))
  refine Au _ (l_k ab (Aj (Cai Arz) (Aj Cag (Aq (D _ _ _ _ _ [.agg #[vk,iV p.l.most,vt,vh,vm,vf,vs],iV 6] ⟨Ez ⟨_,Bxc,rfl⟩ ⟨_,Ab Bxb,rfl⟩ rfl (i:=0),rfl,trivial⟩ (Ghost.drop.trans ((Gk hh).trans ((Gk hk).trans ((Gk ht).trans ((Gk hm).trans ((Gk hf).trans (Gk hs))))))) ⟨c,.inl ⟨_,_,⟨⟩,Bky (by omega) (Sr (by omega)) C y (Aek L),by decide,jk7 ⟨Cak hk,rfl,Cak ht,Cak hh,Cak hm,Cak hf,Cak hs,trivial⟩,rfl,rfl⟩⟩)))))
 have L:=lZ1 G
 refine Al (kk a9 ?_)
 refine Ai fun b4 ac=>?_
 have hrl:0<u.length:=Ark y (by rw[lZ5];omega)
 refine Oj ((k3,oC #[nS,iV 0,nS,nS,nS,nS,nS] 109)::((k2,oC #[vk,iV p.l.most,vt,vh,vm,vf,vs] 109)::[])) [0,1,2,3,4,5,6,7,8,9,10,11,12,13,14,16] (by kernel_rfl) rfl rfl (Df 0 (zT 1 17) rfl ⟨Cal,sB⟩ rfl (Yld.o (Cb Bxc rfl rfl Ln.2 (by decide) rfl rfl)) (Df 1 (zT 2 16) rfl ⟨Cal,sB⟩ rfl (Yld.o (Cb Bxa rfl rfl Se.2 (by decide) rfl rfl)) (Df 2 (zT 3 15) rfl ⟨Cal,sB⟩ rfl (Hv (v:=vf) Se.1 rfl (lZ7 _ mC) rfl) (Df 3 (zT 4 14) rfl ⟨Cal,sB⟩ rfl (Yld.o (Ah rfl)) ?_))))
 obtain⟨d,I⟩:=Ed (xs:=ws) (i:=0) (by omega)
 have bm:=hw _ (lZ8 I)
 refine Zc 4 (zT 5 13) rfl ⟨Cal,sB⟩ rfl (Qj (Em 0 Bwy ty9 rw_ (q:=0) I)) fun bv N=>?_
 have b8:d.data.toList.length<2^60:=At.slen N
 have ba:=At.slen N
 refine Df 5 (zT 6 12) rfl ⟨Cal,sB⟩ rfl (Yld.o (Fd ty9 N)) (Df 6 (zT 7 11) rfl ⟨Cal,sB⟩ rfl (Yld.o (Ah rfl)) (Df 7 (zT 8 10) rfl ⟨Cal,sB⟩ rfl (Yld.o (Ah rfl)) ?_))
 obtain⟨a,P⟩:=Ed (xs:=u) (i:=0) (by omega)
 refine Zc 8 (zT 9 9) rfl ⟨Cal,sB⟩ rfl (Qj (Em 0 Bxi Mx t (q:=0) P)) fun bx af=>Zc 9 (zT 10 8) rfl ⟨Cal,sB⟩ rfl (Qj (Gz Mx af)) fun V ag=>Fc 10 (zT 11 7) rfl ⟨Cal,sB⟩ rfl (Yld.o (Ah rfl)) ⟨Cal,sB⟩ (Ri 11 (zT 12 6) rfl ⟨Cal,sB⟩ rfl (Qj (Ack 1 Bxi Mx rfl t (q:=1) rfl rfl (by omega))) ⟨Cal,sB⟩ fun E U=>?_)
 obtain⟨a1,⟨bn,bo⟩,⟨bp,bq⟩⟩:=Span.open_ ag
 have a2:V.cells=[iV a.low,iV a.high].toArray:=by rw[a1];rfl
 have ah:Val W (.agg #[.string d,iV (findI p.m.houses (bs b.data.toList)),iV a.low,iV a.high,E]) (⟨d,findI p.m.houses (bs b.data.toList),⟨a.low,a.high⟩,u.drop 1⟩:FField):=FField.shut (x:=(⟨d,findI p.m.houses (bs b.data.toList),⟨a.low,a.high⟩,u.drop 1⟩:FField)) (show (d).size<2^60 by omega) (iC (findI p.m.houses (bs b.data.toList))) (iC a.low) (iC a.high) U
 refine Fc 12 (zT 13 5) rfl ⟨Cal,sB⟩ rfl (Yld.o (Dn (ns:=[1,1,2,1]) (vs:=[(0,(.string d)),(1,(iV (findI p.m.houses (bs b.data.toList)))),(2,V),(3,E)]) (zc:=Aah) (cs:=[.string d,iV (findI p.m.houses (bs b.data.toList)),iV a.low,iV a.high,E]) Bxf Xu rfl ⟨ty9.2,ty3.2,Mx.2,Uo.2,trivial⟩ (EvB.map ⟨⟨rfl,rfl⟩,⟨rfl,rfl⟩,⟨rfl,rfl⟩,⟨rfl,rfl⟩,trivial⟩) ((Be rfl rfl nL).trans ((Be rfl rfl nL).trans ((Be a2 rfl nL).trans ((Be (Val.cells_l U) rfl nL).trans rfl)))))) ⟨Cal,sB⟩ (Lp 13 (zT 14 4) rfl rfl (Cj (xs:=[(⟨d,findI p.m.houses (bs b.data.toList),⟨a.low,a.high⟩,u.drop 1⟩:FField)]) (vs:=[.agg #[.string d,iV (findI p.m.houses (bs b.data.toList)),iV a.low,iV a.high,E]]) Bxn Lo Xu (by decide) (Dk (os:=[.tmp 44]) ⟨rfl,trivial⟩) ⟨ah,trivial⟩ (by decide) fun R a0 Z=>⟨⟨Cal,sB⟩,?_⟩))
 have X:Grow W 51 (.slice (some ⟨R,0,none⟩) 1 1) ([(⟨d,findI p.m.houses (bs b.data.toList),⟨a.low,a.high⟩,u.drop 1⟩:FField)]:List FField) [(R,oC a0.toArray 51)]:=Bs Z rfl (by decide)
 refine Pp X sB fun c1 f ai=>?_
 replace hk:=Caj f hk
 replace ht:=Caj f ht
 replace hh:=Caj f hh
 replace hm:=Caj f hm
 replace hf:=Caj f hf
 replace hs:=Caj f hs
 refine Lg (Bv (Dz (Dz (Bv (Bv Ase))))) (Lp 14 (zT 15 3) rfl rfl (Ge Bxn Bxn (Ab Bzj) nL hf ai (by simp only[lZ0,lZ3,lZ4]at *;omega) fun O a3 F=>⟨⟨f,sB⟩,?_⟩))
 refine Fc 15 (zT 16 2) rfl ⟨f,sB⟩ rfl (Yld.o (Cb Bxc rfl rfl Ln.2 (by decide) rfl rfl)) ⟨Cal,sB⟩ (Fc 16 (zT 17 1) rfl ⟨f,sB⟩ rfl (Yld.o (Cb Bxa rfl rfl Se.2 (by decide) rfl rfl)) ⟨Cal,sB⟩ (Lg (Ea (Ea Arz)) (Qg 17 (zT 18 0) rfl rfl (Cz (j:=0) Se.2 rfl rfl (Cak F) rfl nL ?_))))
 refine Te rfl (kk ac ?_)
 refine Cr fun b5 ad=>Arv (Ma (i:=0) (cs:=[vk,iV p.l.most,vt,vh,vm,O,vs]) (rs:=[]) ⟨_,Bxc,rfl⟩ ⟨_,Ab Bxb,rfl⟩ rfl ?_)
 refine Bj (Cai (Iq (Ea Asd))) (Ee (Li (i:=0) ⟨_,Ab Bxb,rfl⟩ rfl rfl rfl rfl (Zh ⟨Cak hk,rfl,Cak ht,Cak hh,Cak hm,Cak F,Cak hs,trivial⟩) rfl nL rfl ?_))
 refine Au _ (l_k ad (Aj (Cai Arz) (Aj Cag (Aj (Cai (Dz (Bv (Bv (Bv Ase))))) (Aj (Cai (Bv (Dz Ase))) (Aj (Cai (Bv (Bv (Dz (Bv Ase))))) (Aj (Cai (Bv (Bv (Bv (Dz Ase))))) (Aj (Cai (Ea (Ea (Ea Asd)))) (Aq (D _ _ _ _ _ [.agg #[vk,iV p.l.most,vt,vh,vm,O,vs],iV 0] ⟨Ez ⟨_,Bxc,rfl⟩ ⟨_,Ab Bxb,rfl⟩ rfl (i:=0),rfl,trivial⟩ Cag ⟨Cam c f,.inr ⟨_,_,_,Bkz (by omega) I C y P (Ael L),rfl,⟨vk,vt,vh,vm,O,vs,gk,gt,gh,gm,a3,gs,rfl,rfl,(by constructor<;>omega),hk,ht,hh,hm,F,hs⟩,by simp only[lZ9]⟩⟩))))))))))
theorem Bnb{W0 ρ σ p vk vt vh vm vf vs gk gt gh gm gf gs ws vw}(hmo:I64 p.l.most)(hB:RdB p 60001)(hk:Grow ρ 9 vk p.l.kinds gk)(ht:Grow ρ 46 vt p.l.tests gt)(hh:Grow ρ 9 vh p.m.houses gh)(hm:Grow ρ 9 vm p.m.marks gm)(hf:Grow ρ 51 vf p.m.fields gf)(hs:Grow ρ 54 vs p.m.sales gs)(rw_:Val ρ vw ws)(hn:ws.length≤60001)(hw:∀w∈ws,w.data.toList.length≤60000)(hnr:Jp σ):CallsH (CY W0) 99 #[.agg #[vk,iV p.l.most,vt,vh,vm,vf,vs],vw] ρ (gk++(gt++(gh++(gm++(gf++(gs++σ)))))) (fun w ρ' σ'=>Ro.le ρ ρ'∧((∃(e:Int) (v:Value) (z:Jk7),Aax p (wl ws) = .inl e∧e≠0∧Val ρ' v z∧w = .tuple #[v,.int .i64 e]∧σ'=σ)∨∃(q:PSt) (v:Value) (gr:Own),Aax p (wl ws) = .inr q∧w = .tuple #[v,z0]∧Bbk ρ' v q.l q.m gr∧σ'=gr++σ)):=by
 obtain⟨c6,c7⟩:=hmo
 obtain⟨bz,c0,c1,c2,c3,c4⟩:=hB
 refine Lt (n:=59) (args:=[.agg #[vk,iV p.l.most,vt,vh,vm,vf,vs],vw]) [.cell 4 109,.tmp 5] Tryz.func99 rfl rfl rfl rfl fun Q D c9=>w_q rfl rfl fun K1 k1=>Arv (Eb (v:=.agg #[vk,iV p.l.most,vt,vh,vm,vf,vs]) rfl fun T=>?_)
 refine Arv (Ct Aot fun V=>?_)
 refine Au _ (Ds k1 fun K4 K5 k4 k5=>Av vw ?_)
 have g6:=Can rw_
 refine l_v (Pc (el:=9) Bwy rw_) (l_v (Hs) (l_k k5 (Cw (fun I=>?_) (fun I=>?_))))
 ·have q7:=Jr I
  refine Cr fun K8 k8=>Arv (Ma (i:=1) (cs:=[vk,iV p.l.most,vt,vh,vm,vf,vs]) (rs:=[]) ⟨_,Bxc,rfl⟩ ⟨_,Ab Bxb,rfl⟩ rfl ?_)
  refine Ee (Li (i:=0) ⟨_,Ab Bxb,rfl⟩ rfl rfl rfl rfl (Zh ⟨Cak hk,rfl,Cak ht,Cak hh,Cak hm,Cak hf,Cak hs,trivial⟩) rfl nL rfl ?_)
  refine Au _ (l_k k8 (Aj (Cai Arz) (Aj Cag (Aq (D _ _ _ _ _ [.agg #[vk,iV p.l.most,vt,vh,vm,vf,vs],iV 3] ⟨Ez ⟨_,Bxc,rfl⟩ ⟨_,Ab Bxb,rfl⟩ rfl (i:=0),rfl,trivial⟩ (Ghost.drop.trans ((Gk hk).trans ((Gk ht).trans ((Gk hh).trans ((Gk hm).trans ((Gk hf).trans (Gk hs))))))) ⟨Cal,.inl ⟨_,_,⟨⟩,Bga (by omega),by decide,jk7 ⟨Cak hk,rfl,Cak ht,Cak hh,Cak hm,Cak hf,Cak hs,trivial⟩,rfl,rfl⟩⟩)))))
 have q7:=Jq I
 refine Al (kk k4 ?_)
 refine Cr fun K9 k9=>Av vw ?_
 obtain⟨a,x⟩:=Ed (xs:=ws) (i:=0) (by omega)
 have ca:=hw _ (lZ8 x)
 refine Arw (Em 0 Bwy ty9 rw_ (q:=0) x) fun ch N=>?_
 have br:a.data.toList.length<2^60:=At.slen N
 have bv:=At.slen N
 refine l_v (Fd ty9 N) ?_
 have c8:=Vo (s:=a.data.toList)
 refine Arv (Ce (Xx (s:=a.data.toList) (by first|omega|(simp only[lZ6,lZ5]at *;omega))) Byv ?_)
 refine Av (.tuple #[iV (De a.data.toList),.bool (Gn a.data.toList)]) (l_v (Bp _) (l_v (Bp _) (Au _ (Au _ (Ds k9 fun bb bc ac ad=>Av (.bool (Gn a.data.toList)) (l_v (Iy rfl) (l_k ad (Cw (fun F=>?_) (fun F=>?_)))))))))
 ·have a6:=not_eq_t F
  have C:=a6
  refine Cr fun bd ae=>Arv (Ma (i:=1) (cs:=[vk,iV p.l.most,vt,vh,vm,vf,vs]) (rs:=[]) ⟨_,Bxc,rfl⟩ ⟨_,Ab Bxb,rfl⟩ rfl ?_)
  refine Ee (Li (i:=0) ⟨_,Ab Bxb,rfl⟩ rfl rfl rfl rfl (Zh ⟨Cak hk,rfl,Cak ht,Cak hh,Cak hm,Cak hf,Cak hs,trivial⟩) rfl nL rfl ?_)
  refine Au _ (l_k ae (Aj (Cai Arz) (Aj Cag (Aq (D _ _ _ _ _ [.agg #[vk,iV p.l.most,vt,vh,vm,vf,vs],iV 3] ⟨Ez ⟨_,Bxc,rfl⟩ ⟨_,Ab Bxb,rfl⟩ rfl (i:=0),rfl,trivial⟩ (Ghost.drop.trans ((Gk hk).trans ((Gk ht).trans ((Gk hh).trans ((Gk hm).trans ((Gk hf).trans (Gk hs))))))) ⟨Cal,.inl ⟨_,_,⟨⟩,Bgb x C,by decide,jk7 ⟨Cak hk,rfl,Cak ht,Cak hh,Cak hm,Cak hf,Cak hs,trivial⟩,rfl,rfl⟩⟩)))))
 have a7:=not_eq_f F
 have C:=a7
 refine Al (kk ac ?_)
 refine Cr fun be af=>Av (iV (De a.data.toList)) ?_
 have cg:Val ρ (.agg #[iV (De a.data.toList),nS]) (⟨De a.data.toList,[]⟩:Sale):=Sale.shut (iC (De a.data.toList)) Gx
 refine l_v (Dn (ns:=[1,1]) (vs:=[(0,(iV (De a.data.toList)))]) (zc:=Akd) (cs:=[iV (De a.data.toList),nS]) Bxm Agb rfl ⟨ty3.2,Vh.2,trivial⟩ (EvB.map ⟨⟨rfl,rfl⟩,trivial⟩) ((Be (cs:=[iV (De a.data.toList)]) rfl rfl nL).trans rfl)) (Arv (Ct Agb fun U=>?_))
 refine Ee (Li (i:=0) Up.2 rfl rfl rfl rfl (Zh ⟨rfl,rfl,trivial⟩) rfl nL rfl ?_)
 refine Ds af fun bf bg ag ah=>Au (iV 1) (l_k ah (Ao (Cc (fun mm ee dd ρ' σ'=>∃(i:Nat) (nv:List Int) (k:Value) (L:Own),(ws.length-i)=mm∧[]=dd∧Ro.le ρ ρ'∧(L++((U,oC #[iV (De a.data.toList),k] 54)::((V,oC #[nS,iV 0,nS,nS,nS,nS,nS] 109)::((T,oC #[vk,iV p.l.most,vt,vh,vm,vf,vs] 109)::(gk++(gt++(gh++(gm++(gf++(gs++σ))))))))))=σ'∧ee 1=vw∧ee 2=pV T∧ee 4=pV V∧ee 8=pV U∧ee 9=iV i∧(1≤i∧i≤ws.length)∧(Hy (Nq p.m) (((wl ws).take i).drop 1)=some nv)∧(nv.length≤i)∧Grow ρ' 3 k nv L∧True) (m:=_) ⟨1,[],nS,[],rfl,rfl,Cal,rfl,rfl,rfl,rfl,rfl,rfl,⟨Lb _,by omega⟩,(by rw[show ((wl ws).take 1).drop 1=[] from Amn];rfl),Hz _,Hm,trivial⟩ ?_)))
 rintro cc bq _ ba _ ⟨i,nv,k,L,rfl,rfl,c,rfl,J,t,u,y,K,ar,Z,cd,b,_⟩
 replace rw_:=Val.mono c rw_
 replace hk:=Caj c hk
 replace ht:=Caj c ht
 replace hh:=Caj c hh
 replace hm:=Caj c hm
 replace hf:=Caj c hf
 replace hs:=Caj c hs
 obtain⟨ce,cf⟩:=ar
 refine Gw fun bh bi ai aj=>l_v (Ah K) (l_v (Ah J) ?_)
 have bt:=Can rw_
 refine l_v (Pc (el:=9) Bwy rw_) (l_v (Fk) (l_k aj (Cw (fun G=>?_) (fun G=>?_))))
 ·have au:=lZ2 G
  refine Al (kk ai ?_)
  refine Ai fun bj ak=>Ao (Ai fun bk al=>Aj (Cai (Bv (Dz (Dz (Dz (Bv Ase)))))) ?_)
  have b8:=rw_
  have b3:=hk
  have b6:=ht
  have b2:=hh
  have b4:=hm
  have b1:=hf
  have b5:=hs
  have b0:=b
  refine Ajg hh fun cj f av a3=>?_
  replace rw_:=Val.mono f rw_
  replace hk:=Caj f hk
  replace ht:=Caj f ht
  replace hh:=Caj f hh
  replace hm:=Caj f hm
  replace hf:=Caj f hf
  replace hs:=Caj f hs
  replace b:=Caj f b
  refine Px (Bw 0 zZ0 rfl (Cb Bxc rfl rfl Ln.2 (by decide) t rfl) (Bw 1 zZ1 rfl (Cb Bxa rfl rfl Hw.2 (by decide) rfl rfl) (Bw 3 [o1,o1,o0,o1,o0,o0,o0,o0,o0] rfl (Ah J) (Bw 4 [o1,o1,o0,o1,o1,o0,o0,o0,o0] rfl (Ah K) ?_))))
  obtain⟨d,B⟩:=Ed (xs:=ws) (i:=i) (by omega)
  have cb:=hw _ (lZ8 B)
  refine Cu 5 [o1,o1,o0,o1,o1,o1,o0,o0,o0] rfl (Em i Bwy ty9 rw_ (q:=(i:Int)) B) fun ci O=>?_
  have bu:d.data.toList.length<2^60:=At.slen O
  have bx:=At.slen O
  refine Bw 6 [o1,o1,o0,o1,o1,o1,o1,o0,o0] rfl (Fd ty9 O) (Hr 2 zZ2 rfl (Gu (v:=vh) Hw.1 rfl (Pz _ (lZ7 _ (lZ7 _ mC))) rfl ⟨Cal,?_⟩))
  have c5:=Aiy (l:=p.m.houses) (s:=bs d.data.toList)
  refine Hr 7 zZ3 rfl (Bm (Akc (s:=bs d.data.toList) av) Bzf rfl rfl ⟨rfl,rfl,trivial⟩ ⟨Cal,?_⟩)
  refine Dp 8 zZ4 rfl (Cp rfl) (Ec rfl (kk al ?_))
  refine Ai fun bl am=>Ai fun bm an=>Ajf a3 (Gp b (Gv (Gv (Gv (Gp hk (Gp ht (Gp hm (Gp hf (Gp hs hnr))))))))) ?_
  replace rw_:=b8
  replace hk:=b3
  replace ht:=b6
  replace hh:=b2
  replace hm:=b4
  replace hf:=b1
  replace hs:=b5
  replace b:=b0
  refine Bf (Av (iV (findI p.m.houses (bs d.data.toList))) (l_v (Fk) (l_k an (Cw (fun H=>?_) (fun H=>?_)))))
  ·have M:=lZ2 H
   refine Cr fun bn ao=>Bj (Cai (Ea (Ea (Iq Arz)))) (Arv (Ma (i:=0) (cs:=[vk,iV p.l.most,vt,vh,vm,vf,vs]) (rs:=[]) ⟨_,Bxc,rfl⟩ ⟨_,Ab Bxb,rfl⟩ t ?_))
   refine Bj (Cai (Iq (Ea (Ea Arz)))) (Ee (Li (i:=0) ⟨_,Ab Bxb,rfl⟩ u rfl rfl rfl (Zh ⟨Cak hk,rfl,Cak ht,Cak hh,Cak hm,Cak hf,Cak hs,trivial⟩) rfl nL rfl ?_))
   refine Au _ (l_k ao (Aj (Cai Arz) (Aj Cag (Aj (Cai (Dz Ase)) (Aj (drops b.1) (Aj (Cai (Iq Asd)) (Aj Cag (Aq (D _ _ _ _ _ [.agg #[vk,iV p.l.most,vt,vh,vm,vf,vs],iV 6] ⟨Ez ⟨_,Bxc,rfl⟩ ⟨_,Ab Bxb,rfl⟩ u (i:=0),rfl,trivial⟩ (Ghost.drop.trans ((Gk hh).trans ((Gk hk).trans ((Gk ht).trans ((Gk hm).trans ((Gk hf).trans (Gk hs))))))) ⟨c,.inl ⟨_,_,⟨⟩,Bfz x C (by omega) B (Aek M),by decide,jk7 ⟨Cak hk,rfl,Cak ht,Cak hh,Cak hm,Cak hf,Cak hs,trivial⟩,rfl,rfl⟩⟩)))))))))
  have M:=lZ1 H
  refine Al (kk am ?_)
  refine Bf (l_v (Cb Bxm rfl rfl Vh.2 (by decide) y rfl) (Arv (Gu (v:=k) Vh.1 rfl (Pz _ (Pz _ mC)) rfl ?_)))
  refine Av (iV (findI p.m.houses (bs d.data.toList))) (Arv (Cj (xs:=[findI p.m.houses (bs d.data.toList)]) (vs:=[iV (findI p.m.houses (bs d.data.toList))]) Bxj ty3 zr3 (by decide) (Dk (os:=[.tmp 46]) ⟨rfl,trivial⟩) ⟨Cv.2 ⟨rfl,by constructor<;>omega⟩,trivial⟩ (by decide) fun W a8 a4=>?_))
  have a1:Grow ba 3 (.slice (some ⟨W,0,none⟩) 1 1) ([findI p.m.houses (bs d.data.toList)]:List Int) [(W,oC a8.toArray 3)]:=Bs a4 rfl (by decide)
  refine Ca a1 fun ck Y aw=>?_
  replace b:=Caj Y b
  refine Bj (Cai Ase) (Arv (Ge Bxj Bxj (Ab Bzc) nL b aw (by simp only[lZ0,lZ3,lZ4]at *;omega) fun b9 aa R=>?_))
  refine l_v (Cb Bxm rfl rfl Vh.2 (by decide) y rfl) (Bj (Cai (Ea Asd)) (Ee (Cz (j:=0) Vh.2 rfl rfl (Cak R) rfl nL ?_)))
  refine l_k ak (Bf (l_v (Ah K) (l_v (Dm (((i+1):Nat):Int)) (Au _ (Bj (Cai (Dz (Bv (Bv (Dz (Dz Ase)))))) (Bj (Cai (Bv (Dz (Bv (Bv (Dz Asc)))))) (Bj (Cai (Ea (Ea (Iq (Ea (Ea Arz)))))) (Bj (Cai (Iq (Ea (Ea (Iq (Ea Asd)))))) (Bj (Cai (Iq (Iq (Ea Asd)))) (Bj (Cai (Dz (Dz (Dz (Bv Ase))))) (Ac ?_)))))))))))
  refine⟨_,?_,(i+1),(nv++([findI p.m.houses (bs d.data.toList)]:List Int)),b9,aa,rfl,rfl,(Cam c Y),rfl,J,t,u,y,rfl,⟨by omega,by omega⟩,(Aqj Z (by omega) (Pw B) (Ael M)),(by rw[lZ0];simp only[lZ3,lZ4];omega),(Fy rfl R),trivial⟩
  omega
 have au:=lZ1 G
 refine Bx (kk ag ?_)
 refine Ai fun bo ap=>Hc b fun a0 g ax=>?_
 replace hk:=Caj g hk
 replace ht:=Caj g ht
 replace hh:=Caj g hh
 replace hm:=Caj g hm
 replace hf:=Caj g hf
 replace hs:=Caj g hs
 refine Bf (l_v (Cb Bxc rfl rfl Ln.2 (by decide) t rfl) (l_v (Cb Bxa rfl rfl Qn.2 (by decide) rfl rfl) (Arv (Dt (i:=2) Qn.1 rfl rfl rfl ?_))))
 refine Arv (Ma (i:=0) (cs:=[iV (De a.data.toList),k]) (rs:=[]) Up.1 Up.2 y ?_)
 have ay:Val a0 (.agg #[iV (De a.data.toList),k]) (⟨De a.data.toList,nv⟩:Sale):=Sale.shut (iC (De a.data.toList)) ax
 refine Arv (Cj (xs:=[(⟨De a.data.toList,nv⟩:Sale)]) (vs:=[.agg #[iV (De a.data.toList),k]]) Bxk Up Agb (by decide) (Dk (os:=[.tmp 53]) ⟨rfl,trivial⟩) ⟨ay,trivial⟩ (by decide) fun X a9 a5=>?_)
 have a2:Grow a0 54 (.slice (some ⟨X,0,none⟩) 1 1) ([(⟨De a.data.toList,nv⟩:Sale)]:List Sale) [(X,oC a9.toArray 54)]:=Bs a5 rfl (by decide)
 refine Ca a2 fun cl h az=>?_
 replace hk:=Caj h hk
 replace ht:=Caj h ht
 replace hh:=Caj h hh
 replace hm:=Caj h hm
 replace hf:=Caj h hf
 replace hs:=Caj h hs
 refine Bj (Cai (Dz (Dz (Dz (Bv (Bv (Bv (Bv Ase)))))))) (Arv (Ge Bxk Bxk (Ab Bzk) nL hs az (by simp only[lZ0,lZ3,lZ4]at *;omega) fun P ab E=>?_))
 refine l_v (Cb Bxc rfl rfl Ln.2 (by decide) t rfl) (l_v (Cb Bxa rfl rfl Qn.2 (by decide) rfl rfl) (Bj (Cai (Ea (Iq Arz))) (Ee (Cz (j:=0) Qn.2 rfl rfl (Cak E) rfl nL ?_))))
 refine Dr ap fun bp aq=>Arv (Ma (i:=0) (cs:=[vk,iV p.l.most,vt,vh,vm,vf,P]) (rs:=[]) ⟨_,Bxc,rfl⟩ ⟨_,Ab Bxb,rfl⟩ t ?_)
 refine Bj (Cai (Iq (Ea Arz))) (Ee (Li (i:=0) ⟨_,Ab Bxb,rfl⟩ u rfl rfl rfl (Zh ⟨Cak hk,rfl,Cak ht,Cak hh,Cak hm,Cak hf,Cak E,trivial⟩) rfl nL rfl ?_))
 refine Au _ (l_k aq (Aj (Cai Arz) (Aj Cag (Aj (Cai (Iq Asd)) (Aj Cag (Aj (Cai (Dz (Bv (Bv (Bv (Bv Ase)))))) (Aj (Cai (Bv (Dz (Bv (Bv (Bv Ase)))))) (Aj (Cai (Bv (Bv (Dz (Bv (Bv Ase)))))) (Aj (Cai (Bv (Bv (Bv (Dz (Bv Ase)))))) (Aj (Cai (Bv (Bv (Bv (Bv (Dz Ase)))))) (Aj (Cai (Ea (Ea (Ea (Ea Asd))))) (Aq (D _ _ _ _ _ [.agg #[vk,iV p.l.most,vt,vh,vm,vf,P],iV 0] ⟨Ez ⟨_,Bxc,rfl⟩ ⟨_,Ab Bxb,rfl⟩ u (i:=0),rfl,trivial⟩ Cag ⟨Cam (Cam c g) h,.inr ⟨_,_,_,Blb x C (by omega) Z,rfl,⟨vk,vt,vh,vm,vf,P,gk,gt,gh,gm,gf,ab,rfl,rfl,(by constructor<;>omega),hk,ht,hh,hm,hf,E⟩,by simp only[lZ9]⟩⟩)))))))))))))
theorem Bmz{W0 ρ σ p vk vt vh vm vf vs gk gt gh gm gf gs u ws vw}(hmo:I64 p.l.most)(hB:RdB p 60001)(hk:Grow ρ 9 vk p.l.kinds gk)(ht:Grow ρ 46 vt p.l.tests gt)(hh:Grow ρ 9 vh p.m.houses gh)(hm:Grow ρ 9 vm p.m.marks gm)(hf:Grow ρ 51 vf p.m.fields gf)(hs:Grow ρ 54 vs p.m.sales gs)(rw_:Val ρ vw ws)(hn:ws.length≤60001)(hw:∀w∈ws,w.data.toList.length≤60000)(hnr:Jp σ):CallsH (CY W0) 48 #[.agg #[vk,iV p.l.most,vt,vh,vm,vf,vs],.string (bs u),vw] ρ (gk++(gt++(gh++(gm++(gf++(gs++σ)))))) (fun w ρ' σ'=>Ro.le ρ ρ'∧((∃(e:Int) (v:Value) (z:Jk7),Ox p u (wl ws) = .inl e∧e≠0∧Val ρ' v z∧w = .tuple #[v,.int .i64 e]∧σ'=σ)∨∃(q:PSt) (v:Value) (gr:Own),Ox p u (wl ws) = .inr q∧w = .tuple #[v,z0]∧Bbk ρ' v q.l q.m gr∧σ'=gr++σ)):=by
 obtain⟨i9,ia⟩:=hmo
 obtain⟨bq,br,bt,bu,bv,bx⟩:=hB
 refine Lt (n:=102) (args:=[.agg #[vk,iV p.l.most,vt,vh,vm,vf,vs],.string (bs u),vw]) [.cell 6 109,.tmp 7] Tryz.func48 rfl rfl rfl rfl fun Q d ib=>w_q rfl rfl fun K1 k1=>Arv (Eb (v:=.agg #[vk,iV p.l.most,vt,vh,vm,vf,vs]) rfl fun J=>?_)
 refine Arv (Ct Aot fun K=>?_)
 refine Au (iV 0) (Ary rfl rfl k1 fun K4 K5 k4 k5=>Av (.string (bs u)) (l_k k5 (Ao (w_q rfl rfl fun K6 k6=>l_v (Sp (p:=u) (q:=bZ6) rfl rfl) (Au (.bool (u==bZ6)) (l_k k6 (Bu (t:=u==bZ6) rfl (fun b7=>?_) (fun b7=>?_))))))))
 ·have b:=Jr b7
  refine w_q rfl rfl fun K8 k8=>Av vw (Arv (Cm (vs:=[vw]) (Ayp rw_ hn hw) Tryz.func96 rfl rfl ⟨rfl,trivial⟩ fun w9 j3 j7 c5=>?_))
  obtain⟨G,c5⟩:=c5
  replace hk:=Caj G hk
  replace ht:=Caj G ht
  replace hh:=Caj G hh
  replace hm:=Caj G hm
  replace hf:=Caj G hf
  replace hs:=Caj G hs
  rcases c5 with⟨T,⟨b6,cc⟩|⟨x9,ai,b6,cc,cj⟩⟩
  ·replace T:=T.symm;subst T cc
   refine Av (.tuple #[nS,bF]) (l_v (Bp nS) (l_v (Bp bF) (Au nS (Au bF (Ary rfl rfl k8 fun gi gj ih fl=>Av bF (l_v (Iy rfl) (Av (.bool (!(false))) (Ap (gN rfl (Amc rfl)) (Ap (gN rfl (Amc rfl)) (Ap (gN rfl (Amc rfl)) (l_v (Bt rfl (Amc rfl) (v:=bT) rfl) (l_k fl (Co rfl rfl (w_q rfl rfl fun gl fm=>Arv (Xo (i:=1) (cs:=[vk,iV p.l.most,vt,vh,vm,vf,vs]) (rs:=[]) ⟨_,Bxc,rfl⟩ ⟨_,Ab Bxb,rfl⟩ rfl rfl rfl rfl ?_)))))))))))))))
   refine Cx rfl (Li (i:=0) (vs:=[vk,iV p.l.most,vt,vh,vm,vf,vs]) (c':=[vk,iV p.l.most,vt,vh,vm,vf,vs]) ⟨_,Ab Bxb,rfl⟩ rfl rfl rfl rfl (Zh ⟨Cak hk,rfl,Cak ht,Cak hh,Cak hm,Cak hf,Cak hs,trivial⟩) rfl nL rfl ?_)
   refine Au (iV 3) (l_k fm (Aj (Cai Arz) (Aj Cag (Aq (d _ _ _ _ _ [.agg #[vk,iV p.l.most,vt,vh,vm,vf,vs],iV 3] ⟨Qh ⟨_,Bxc,rfl⟩ ⟨_,Ab Bxb,rfl⟩ rfl (i:=0) rfl rfl,rfl,trivial⟩ (Ghost.drop.trans ((Gk hk).trans ((Gk ht).trans ((Gk hh).trans ((Gk hm).trans ((Gk hf).trans (Gk hs))))))) ⟨G,.inl ⟨_,_,⟨⟩,(by unfold Ox;rw[if_pos (show u=wLab from b)];exact Bap b6),by decide,jk7 ⟨Cak hk,rfl,Cak ht,Cak hh,Cak hm,Cak hf,Cak hs,trivial⟩,rfl,rfl⟩⟩)))))
  replace T:=T.symm;subst T cc
  refine Av (.tuple #[ai,bT]) (l_v (Bp ai) (l_v (Bp bT) (Au ai (Au bT (Ary rfl rfl k8 fun gn go fn fo=>Av bT (l_v (Iy rfl) (Av (.bool (!(true))) (l_M ai (gY rfl (not_t rfl)) rfl ?_))))))))
  have hj:=Can cj
  refine Aa (gY rfl (not_t rfl)) (Ci (el:=3) Bxj rfl cj) (Aa (gY rfl (not_t rfl)) (Dg rfl rfl) (l_v (Bn rfl (not_t rfl) (v:=.bool ((x9.length:Int) != 1)) rfl) (l_k fo (Bu (t:=(x9.length:Int) != 1) rfl (fun bd=>?_) (fun bd=>?_)))))
  ·have ce:=Ls bd
   refine w_q rfl rfl fun gp fp=>Arv (Xo (i:=1) (cs:=[vk,iV p.l.most,vt,vh,vm,vf,vs]) (rs:=[]) ⟨_,Bxc,rfl⟩ ⟨_,Ab Bxb,rfl⟩ rfl rfl rfl rfl ?_)
   refine Cx rfl (Li (i:=0) (vs:=[vk,iV p.l.most,vt,vh,vm,vf,vs]) (c':=[vk,iV p.l.most,vt,vh,vm,vf,vs]) ⟨_,Ab Bxb,rfl⟩ rfl rfl rfl rfl (Zh ⟨Cak hk,rfl,Cak ht,Cak hh,Cak hm,Cak hf,Cak hs,trivial⟩) rfl nL rfl ?_)
   refine Au (iV 3) (l_k fp (Aj (Cai Arz) (Aj Cag (Aq (d _ _ _ _ _ [.agg #[vk,iV p.l.most,vt,vh,vm,vf,vs],iV 3] ⟨Qh ⟨_,Bxc,rfl⟩ ⟨_,Ab Bxb,rfl⟩ rfl (i:=0) rfl rfl,rfl,trivial⟩ (Ghost.drop.trans ((Gk hk).trans ((Gk ht).trans ((Gk hh).trans ((Gk hm).trans ((Gk hf).trans (Gk hs))))))) ⟨G,.inl ⟨_,_,⟨⟩,(by unfold Ox;rw[if_pos (show u=wLab from b)];exact Bfy b6 ce),by decide,jk7 ⟨Cak hk,rfl,Cak ht,Cak hh,Cak hm,Cak hf,Cak hs,trivial⟩,rfl,rfl⟩⟩)))))
  have ce:=Jh bd
  refine Al (kk fn ?_)
  refine w_q rfl rfl fun gq fq=>Av ai ?_
  obtain⟨R,cl⟩:=Ed (xs:=x9) (i:=0) (by omega)
  refine Arw (Ch 0 Bxj ty3 rfl cj (q:=0) rfl rfl cl) fun ii de=>?_
  have⟨hl,ho⟩:=At.rng de
  refine l_v (Bc ty3 rfl de) (l_v (Cb Bxc rfl rfl Zu.2 (by decide) rfl rfl) (l_v (Cb Bxd rfl rfl ty3.2 (by decide) rfl rfl) (Cx rfl (Cz (j:=1) (v:=iV R) ty3.2 rfl rfl rfl rfl nL ?_))))
  refine Arx rfl rfl fq fun gu fr=>Arv (Xo (i:=1) (cs:=[vk,iV R,vt,vh,vm,vf,vs]) (rs:=[]) ⟨_,Bxc,rfl⟩ ⟨_,Ab Bxb,rfl⟩ rfl rfl rfl rfl ?_)
  refine Cx rfl (Li (i:=0) (vs:=[vk,iV R,vt,vh,vm,vf,vs]) (c':=[vk,iV R,vt,vh,vm,vf,vs]) ⟨_,Ab Bxb,rfl⟩ rfl rfl rfl rfl (Zh ⟨Cak hk,rfl,Cak ht,Cak hh,Cak hm,Cak hf,Cak hs,trivial⟩) rfl nL rfl ?_)
  refine Au (iV 0) (l_k fr (Aj (Cai Arz) (Aj Cag (Aq (d _ _ _ _ _ [.agg #[vk,iV R,vt,vh,vm,vf,vs],iV 0] ⟨Qh ⟨_,Bxc,rfl⟩ ⟨_,Ab Bxb,rfl⟩ rfl (i:=0) rfl rfl,rfl,trivial⟩ Cag ⟨G,.inr ⟨(⟨⟨p.l.kinds,R,p.l.tests⟩,⟨p.m.houses,p.m.marks,p.m.fields,p.m.sales⟩,p.last⟩:PSt),_,_,(by unfold Ox;rw[if_pos (show u=wLab from b)];exact Bla b6 ce cl),rfl,⟨vk,vt,vh,vm,vf,vs,gk,gt,gh,gm,gf,gs,rfl,rfl,(by constructor<;>omega),hk,ht,hh,hm,hf,hs⟩,by simp only[lZ9]⟩⟩)))))
 have b:=Jq b7
 refine Ai fun e8 fs=>?_
 have d8:∀(te:Bool) (ee:Env),(ee 1=(.string (bs u)))∧(ee 2=vw)∧(ee 3=pV J)∧(ee 6=pV K)∧(ee 10=(.string (bs u)))∧(ee 32=(.bool te))∧(te=true→u=Pt∨u=Ot)∧(te=false→¬(u=Pt∨u=Ot))∧True→e8 ee [] ρ (((K,oC #[nS,iV 0,nS,nS,nS,nS,nS] 109)::((J,oC #[vk,iV p.l.most,vt,vh,vm,vf,vs] 109)::(gk++(gt++(gh++(gm++(gf++(gs++σ))))))))):=by
  rintro te hi ⟨ck,I,c,a,bp,f8,dc,F,_⟩
  apply fs
  refine Bu (t:=te) f8 (fun f=>?_) (fun f=>?_)
  ·refine w_q rfl rfl fun gv d2=>Arv (Xo (i:=1) (cs:=[vk,iV p.l.most,vt,vh,vm,vf,vs]) (rs:=[]) ⟨_,Bxc,rfl⟩ ⟨_,Ab Bxb,rfl⟩ c rfl rfl rfl ?_)
   refine l_v (Ah (v:=.string (bs u)) ck) (l_v (Ah (v:=vw) I) (Bj (Cai (Dz (Dz (Bv (Bv (Bv (Bv Ase))))))) (Bj (Cai (Bv (Dz (Dz (Bv (Bv (Bv Ase))))))) (Bj (Cai (Bv (Bv (Dz (Dz (Bv (Bv Ase))))))) (Bj (Cai (Bv (Bv (Bv (Dz (Dz (Bv Ase))))))) (Bj (Cai (Bv (Bv (Bv (Bv (Dz (Dz Ase))))))) (Bj (Cai (Bv (Bv (Bv (Bv (Bv (Dz Asc))))))) (Arv (Cm (vs:=[.agg #[vk,iV p.l.most,vt,vh,vm,vf,vs],.string (bs u),vw]) (Bne (p:=p) (u:=u) (by constructor<;>omega) ⟨bq,br,bt,bu,bv,bx⟩ hk ht hh hm hf hs rw_ hn hw) Tryz.func97 rfl rfl ⟨rfl,rfl,rfl,trivial⟩ fun iq ix j4 c2=>?_)))))))))
   obtain⟨d9,c2⟩:=c2
   rcases c2 with⟨bm,e2,iu,c6,ff,gd,c9,g⟩|⟨X,im,hx,c6,c9,⟨a6,af,a3,a9,a0,ac,et,f5,eq,ew,en,f2,fi,f9,fc,ct,cz,cp,cw,cm,g⟩,g⟩
   ·replace g:=g.symm;subst g c9
    refine l_v (Bp e2) (l_v (Bp (iV bm)) ?_)
    obtain⟨aj,ak,al,am,an,ao,ap,eg,df,dh,di,dj,dk,dl,dm⟩:=Jk7.open_ gd
    have eh:e2.cells=[aj,ak,al,am,an,ao,ap].toArray:=by rw[eg];rfl
    refine Cx rfl (Li (i:=0) (vs:=[aj,ak,al,am,an,ao,ap]) (c':=[aj,ak,al,am,an,ao,ap]) ⟨_,Ab Bxb,rfl⟩ a rfl eh rfl (Zh ⟨df,dh,di,dj,dk,dl,dm,trivial⟩) rfl nL rfl ?_)
    refine Au (iV bm) (l_k d2 (Aj (Cai Arz) (Aj Cag (Aq (d _ _ _ _ _ [.agg #[aj,ak,al,am,an,ao,ap],iV bm] ⟨Qh ⟨_,Bxc,rfl⟩ ⟨_,Ab Bxb,rfl⟩ a (i:=0) rfl rfl,rfl,trivial⟩ Cag ⟨d9,.inl ⟨_,_,⟨⟩,(by unfold Ox;rw[if_neg (show ¬u=wLab from b),if_pos (dc f)];exact c6),ff,jk7 ⟨df,dh,di,dj,dk,dl,dm,trivial⟩,rfl,rfl⟩⟩)))))
   subst fi f9 c9
   simp only[lZ9]at g
   replace g:=g.symm;subst g
   obtain⟨i3,i6⟩:=fc
   refine l_v (Bp (.agg #[a6,iV X.l.most,af,a3,a9,a0,ac])) (l_v (Bp (iV 0)) (Bj (Cai (Ea (Ea (Ea (Ea (Ea Asd)))))) (Cx rfl (Li (i:=0) (vs:=[a6,iV X.l.most,af,a3,a9,a0,ac]) (c':=[a6,iV X.l.most,af,a3,a9,a0,ac]) ⟨_,Ab Bxb,rfl⟩ a rfl rfl rfl (Zh ⟨Cak ct,rfl,Cak cz,Cak cp,Cak cw,Cak cm,Cak g,trivial⟩) rfl nL rfl ?_))))
   refine Au (iV 0) (l_k d2 (Aj (Cai (Iq (Ea (Ea (Ea (Ea (Ea Asd))))))) (Aj Cag (Aq (d _ _ _ _ _ [.agg #[a6,iV X.l.most,af,a3,a9,a0,ac],iV 0] ⟨Qh ⟨_,Bxc,rfl⟩ ⟨_,Ab Bxb,rfl⟩ a (i:=0) rfl rfl,rfl,trivial⟩ Cag ⟨d9,.inr ⟨X,_,_,(by unfold Ox;rw[if_neg (show ¬u=wLab from b),if_pos (dc f)];exact c6),rfl,⟨a6,af,a3,a9,a0,ac,et,f5,eq,ew,en,f2,rfl,rfl,(by constructor<;>omega),ct,cz,cp,cw,cm,g⟩,by simp only[lZ9]⟩⟩)))))
  refine w_q rfl rfl fun gw ft=>l_v (Sp (p:=u) (q:=bZ2) bp rfl) (Au (.bool (u==bZ2)) (l_k ft (Bu (t:=u==bZ2) rfl (fun be=>?_) (fun be=>?_))))
  ·have B:=Jr be
   refine Asb rfl rfl fun gx gy fu fv=>l_v (Ah (v:=vw) I) ?_
   have hp:=Can rw_
   refine l_v (Ci (el:=9) Bwy rfl rw_) (l_v (Gl rfl rfl) (l_k fv (Bu (t:=decide ((ws.length:Int)>0)) rfl (fun bf=>?_) (fun bf=>?_))))
   ·have dd:=lZ2 bf
    refine w_q rfl rfl fun gz fw=>Arv (Xo (i:=1) (cs:=[vk,iV p.l.most,vt,vh,vm,vf,vs]) (rs:=[]) ⟨_,Bxc,rfl⟩ ⟨_,Ab Bxb,rfl⟩ c rfl rfl rfl ?_)
    refine Cx rfl (Li (i:=0) (vs:=[vk,iV p.l.most,vt,vh,vm,vf,vs]) (c':=[vk,iV p.l.most,vt,vh,vm,vf,vs]) ⟨_,Ab Bxb,rfl⟩ a rfl rfl rfl (Zh ⟨Cak hk,rfl,Cak ht,Cak hh,Cak hm,Cak hf,Cak hs,trivial⟩) rfl nL rfl ?_)
    refine Au (iV 3) (l_k fw (Aj (Cai Arz) (Aj Cag (Aq (d _ _ _ _ _ [.agg #[vk,iV p.l.most,vt,vh,vm,vf,vs],iV 3] ⟨Qh ⟨_,Bxc,rfl⟩ ⟨_,Ab Bxb,rfl⟩ a (i:=0) rfl rfl,rfl,trivial⟩ (Ghost.drop.trans ((Gk hk).trans ((Gk ht).trans ((Gk hh).trans ((Gk hm).trans ((Gk hf).trans (Gk hs))))))) ⟨Cal,.inl ⟨_,_,⟨⟩,(by unfold Ox;rw[if_neg (show ¬u=wLab from b),if_neg (F f),if_pos (show u=Fv from B)];exact if_neg (Btx dd)),by decide,jk7 ⟨Cak hk,rfl,Cak ht,Cak hh,Cak hm,Cak hf,Cak hs,trivial⟩,rfl,rfl⟩⟩)))))
   have dd:=lZ1 bf
   refine Al (kk fu ?_)
   refine w_q rfl rfl fun h0 fx=>Arv (Xo (i:=1) (cs:=[vk,iV p.l.most,vt,vh,vm,vf,vs]) (rs:=[]) ⟨_,Bxc,rfl⟩ ⟨_,Ab Bxb,rfl⟩ c rfl rfl rfl ?_)
   refine Cx rfl (Li (i:=0) (vs:=[vk,iV p.l.most,vt,vh,vm,vf,vs]) (c':=[vk,iV p.l.most,vt,vh,vm,vf,vs]) ⟨_,Ab Bxb,rfl⟩ a rfl rfl rfl (Zh ⟨Cak hk,rfl,Cak ht,Cak hh,Cak hm,Cak hf,Cak hs,trivial⟩) rfl nL rfl ?_)
   refine Au (iV 0) (l_k fx (Aj (Cai Arz) (Aj Cag (Aq (d _ _ _ _ _ [.agg #[vk,iV p.l.most,vt,vh,vm,vf,vs],iV 0] ⟨Qh ⟨_,Bxc,rfl⟩ ⟨_,Ab Bxb,rfl⟩ a (i:=0) rfl rfl,rfl,trivial⟩ Cag ⟨Cal,.inr ⟨(⟨⟨p.l.kinds,p.l.most,p.l.tests⟩,⟨p.m.houses,p.m.marks,p.m.fields,p.m.sales⟩,p.last⟩:PSt),_,_,(by unfold Ox;rw[if_neg (show ¬u=wLab from b),if_neg (F f),if_pos (show u=Fv from B)];exact if_pos (Btw (by omega))),rfl,⟨vk,vt,vh,vm,vf,vs,gk,gt,gh,gm,gf,gs,rfl,rfl,(by constructor<;>omega),hk,ht,hh,hm,hf,hs⟩,by simp only[lZ9]⟩⟩)))))
  have B:=Jq be
  refine w_q rfl rfl fun h1 fy=>l_v (Sp (p:=u) (q:=bZ0) bp rfl) (Au (.bool (u==bZ0)) (l_k fy (Bu (t:=u==bZ0) rfl (fun bg=>?_) (fun bg=>?_))))
  ·have H:=Jr bg
   refine w_q rfl rfl fun h2 d3=>Arv (Xo (i:=1) (cs:=[vk,iV p.l.most,vt,vh,vm,vf,vs]) (rs:=[]) ⟨_,Bxc,rfl⟩ ⟨_,Ab Bxb,rfl⟩ c rfl rfl rfl ?_)
   refine l_v (Ah (v:=vw) I) (Bj (Cai (Dz (Dz (Bv (Bv (Bv (Bv Ase))))))) (Bj (Cai (Bv (Dz (Dz (Bv (Bv (Bv Ase))))))) (Bj (Cai (Bv (Bv (Dz (Dz (Bv (Bv Ase))))))) (Bj (Cai (Bv (Bv (Bv (Dz (Dz (Bv Ase))))))) (Bj (Cai (Bv (Bv (Bv (Bv (Dz (Dz Ase))))))) (Bj (Cai (Bv (Bv (Bv (Bv (Bv (Dz Asc))))))) (Arv (Cm (vs:=[.agg #[vk,iV p.l.most,vt,vh,vm,vf,vs],vw]) (Bhi (p:=p) (by constructor<;>omega) ⟨bq,br,bt,bu,bv,bx⟩ hk ht hh hm hf hs rw_ hn hw (Gv (Gv hnr))) Tryz.func98 rfl rfl ⟨rfl,rfl,trivial⟩ fun ir iy j5 c3=>?_))))))))
   obtain⟨da,c3⟩:=c3
   rcases c3 with⟨bn,e3,iv,c7,fg,ge,ca,x⟩|⟨Y,io,hy,c7,ca,⟨a7,ag,a4,aa,a1,ad,eu,f6,er,ex,eo,f3,fj,fa,fd,cu,d0,cq,cx,cn,x⟩,x⟩
   ·replace x:=x.symm;subst x ca
    refine l_v (Bp e3) (l_v (Bp (iV bn)) ?_)
    obtain⟨aq,ar,au,av,aw,ax,ay,ei,dn,dp,dq,dr,ds,dt,du⟩:=Jk7.open_ ge
    have ej:e3.cells=[aq,ar,au,av,aw,ax,ay].toArray:=by rw[ei];rfl
    refine Cx rfl (Li (i:=0) (vs:=[aq,ar,au,av,aw,ax,ay]) (c':=[aq,ar,au,av,aw,ax,ay]) ⟨_,Ab Bxb,rfl⟩ a rfl ej rfl (Zh ⟨dn,dp,dq,dr,ds,dt,du,trivial⟩) rfl nL rfl ?_)
    refine Au (iV bn) (l_k d3 (Aj (Cai Arz) (Aj Cag (Aq (d _ _ _ _ _ [.agg #[aq,ar,au,av,aw,ax,ay],iV bn] ⟨Qh ⟨_,Bxc,rfl⟩ ⟨_,Ab Bxb,rfl⟩ a (i:=0) rfl rfl,rfl,trivial⟩ Cag ⟨da,.inl ⟨_,_,⟨⟩,(by unfold Ox;rw[if_neg (show ¬u=wLab from b),if_neg (F f),if_neg (show ¬u=Fv from B),if_pos (show u=Im from H)];exact c7),fg,jk7 ⟨dn,dp,dq,dr,ds,dt,du,trivial⟩,rfl,rfl⟩⟩)))))
   subst fj fa ca
   simp only[lZ9]at x
   replace x:=x.symm;subst x
   obtain⟨i4,i7⟩:=fd
   refine l_v (Bp (.agg #[a7,iV Y.l.most,ag,a4,aa,a1,ad])) (l_v (Bp (iV 0)) (Bj (Cai (Ea (Ea (Ea (Ea (Ea Asd)))))) (Cx rfl (Li (i:=0) (vs:=[a7,iV Y.l.most,ag,a4,aa,a1,ad]) (c':=[a7,iV Y.l.most,ag,a4,aa,a1,ad]) ⟨_,Ab Bxb,rfl⟩ a rfl rfl rfl (Zh ⟨Cak cu,rfl,Cak d0,Cak cq,Cak cx,Cak cn,Cak x,trivial⟩) rfl nL rfl ?_))))
   refine Au (iV 0) (l_k d3 (Aj (Cai (Iq (Ea (Ea (Ea (Ea (Ea Asd))))))) (Aj Cag (Aq (d _ _ _ _ _ [.agg #[a7,iV Y.l.most,ag,a4,aa,a1,ad],iV 0] ⟨Qh ⟨_,Bxc,rfl⟩ ⟨_,Ab Bxb,rfl⟩ a (i:=0) rfl rfl,rfl,trivial⟩ Cag ⟨da,.inr ⟨Y,_,_,(by unfold Ox;rw[if_neg (show ¬u=wLab from b),if_neg (F f),if_neg (show ¬u=Fv from B),if_pos (show u=Im from H)];exact c7),rfl,⟨a7,ag,a4,aa,a1,ad,eu,f6,er,ex,eo,f3,rfl,rfl,(by constructor<;>omega),cu,d0,cq,cx,cn,x⟩,by simp only[lZ9]⟩⟩)))))
  have H:=Jq bg
  refine w_q rfl rfl fun h3 fz=>l_v (Sp (p:=u) (q:=bZ7) bp rfl) (Au (.bool (u==bZ7)) (l_k fz (Bu (t:=u==bZ7) rfl (fun bh=>?_) (fun bh=>?_))))
  ·have O:=Jr bh
   refine w_q rfl rfl fun h4 d4=>Arv (Xo (i:=1) (cs:=[vk,iV p.l.most,vt,vh,vm,vf,vs]) (rs:=[]) ⟨_,Bxc,rfl⟩ ⟨_,Ab Bxb,rfl⟩ c rfl rfl rfl ?_)
   refine l_v (Ah (v:=vw) I) (Bj (Cai (Dz (Dz (Bv (Bv (Bv (Bv Ase))))))) (Bj (Cai (Bv (Dz (Dz (Bv (Bv (Bv Ase))))))) (Bj (Cai (Bv (Bv (Dz (Dz (Bv (Bv Ase))))))) (Bj (Cai (Bv (Bv (Bv (Dz (Dz (Bv Ase))))))) (Bj (Cai (Bv (Bv (Bv (Bv (Dz (Dz Ase))))))) (Bj (Cai (Bv (Bv (Bv (Bv (Bv (Dz Asc))))))) (Arv (Cm (vs:=[.agg #[vk,iV p.l.most,vt,vh,vm,vf,vs],vw]) (Bnb (p:=p) (by constructor<;>omega) ⟨bq,br,bt,bu,bv,bx⟩ hk ht hh hm hf hs rw_ hn hw (Gv (Gv hnr))) Tryz.func99 rfl rfl ⟨rfl,rfl,trivial⟩ fun it iz j6 c4=>?_))))))))
   obtain⟨db,c4⟩:=c4
   rcases c4 with⟨bo,e4,iw,c8,fh,gg,cb,y⟩|⟨Z,ip,hz,c8,cb,⟨a8,ah,a5,ab,a2,ae,ev,f7,es,ey,ep,f4,fk,fb,fe,cv,d1,cr,cy,co,y⟩,y⟩
   ·replace y:=y.symm;subst y cb
    refine l_v (Bp e4) (l_v (Bp (iV bo)) ?_)
    obtain⟨az,b0,b1,b2,b3,b4,b5,ek,dv,dw,dx,dy,dz,e0,e1⟩:=Jk7.open_ gg
    have em:e4.cells=[az,b0,b1,b2,b3,b4,b5].toArray:=by rw[ek];rfl
    refine Cx rfl (Li (i:=0) (vs:=[az,b0,b1,b2,b3,b4,b5]) (c':=[az,b0,b1,b2,b3,b4,b5]) ⟨_,Ab Bxb,rfl⟩ a rfl em rfl (Zh ⟨dv,dw,dx,dy,dz,e0,e1,trivial⟩) rfl nL rfl ?_)
    refine Au (iV bo) (l_k d4 (Aj (Cai Arz) (Aj Cag (Aq (d _ _ _ _ _ [.agg #[az,b0,b1,b2,b3,b4,b5],iV bo] ⟨Qh ⟨_,Bxc,rfl⟩ ⟨_,Ab Bxb,rfl⟩ a (i:=0) rfl rfl,rfl,trivial⟩ Cag ⟨db,.inl ⟨_,_,⟨⟩,(by unfold Ox;rw[if_neg (show ¬u=wLab from b),if_neg (F f),if_neg (show ¬u=Fv from B),if_neg (show ¬u=Im from H),if_pos (show u=Od from O)];exact c8),fh,jk7 ⟨dv,dw,dx,dy,dz,e0,e1,trivial⟩,rfl,rfl⟩⟩)))))
   subst fk fb cb
   simp only[lZ9]at y
   replace y:=y.symm;subst y
   obtain⟨i5,i8⟩:=fe
   refine l_v (Bp (.agg #[a8,iV Z.l.most,ah,a5,ab,a2,ae])) (l_v (Bp (iV 0)) (Bj (Cai (Ea (Ea (Ea (Ea (Ea Asd)))))) (Cx rfl (Li (i:=0) (vs:=[a8,iV Z.l.most,ah,a5,ab,a2,ae]) (c':=[a8,iV Z.l.most,ah,a5,ab,a2,ae]) ⟨_,Ab Bxb,rfl⟩ a rfl rfl rfl (Zh ⟨Cak cv,rfl,Cak d1,Cak cr,Cak cy,Cak co,Cak y,trivial⟩) rfl nL rfl ?_))))
   refine Au (iV 0) (l_k d4 (Aj (Cai (Iq (Ea (Ea (Ea (Ea (Ea Asd))))))) (Aj Cag (Aq (d _ _ _ _ _ [.agg #[a8,iV Z.l.most,ah,a5,ab,a2,ae],iV 0] ⟨Qh ⟨_,Bxc,rfl⟩ ⟨_,Ab Bxb,rfl⟩ a (i:=0) rfl rfl,rfl,trivial⟩ Cag ⟨db,.inr ⟨Z,_,_,(by unfold Ox;rw[if_neg (show ¬u=wLab from b),if_neg (F f),if_neg (show ¬u=Fv from B),if_neg (show ¬u=Im from H),if_pos (show u=Od from O)];exact c8),rfl,⟨a8,ah,a5,ab,a2,ae,ev,f7,es,ey,ep,f4,rfl,rfl,(by constructor<;>omega),cv,d1,cr,cy,co,y⟩,by simp only[lZ9]⟩⟩)))))
  have O:=Jq bh
  refine Al (kk k4 ?_)
  refine Asb rfl rfl fun h5 h6 g0 g1=>l_v (Ah (v:=vw) I) ?_
  have hq:=Can rw_
  refine l_v (Ci (el:=9) Bwy rfl rw_) (l_v (Dg rfl rfl) (l_k g1 (Bu (t:=(ws.length:Int) != 1) rfl (fun bi=>?_) (fun bi=>?_))))
  ·have P:=Ls bi
   refine w_q rfl rfl fun h7 g2=>Arv (Xo (i:=1) (cs:=[vk,iV p.l.most,vt,vh,vm,vf,vs]) (rs:=[]) ⟨_,Bxc,rfl⟩ ⟨_,Ab Bxb,rfl⟩ c rfl rfl rfl ?_)
   refine Cx rfl (Li (i:=0) (vs:=[vk,iV p.l.most,vt,vh,vm,vf,vs]) (c':=[vk,iV p.l.most,vt,vh,vm,vf,vs]) ⟨_,Ab Bxb,rfl⟩ a rfl rfl rfl (Zh ⟨Cak hk,rfl,Cak ht,Cak hh,Cak hm,Cak hf,Cak hs,trivial⟩) rfl nL rfl ?_)
   refine Au (iV 3) (l_k g2 (Aj (Cai Arz) (Aj Cag (Aq (d _ _ _ _ _ [.agg #[vk,iV p.l.most,vt,vh,vm,vf,vs],iV 3] ⟨Qh ⟨_,Bxc,rfl⟩ ⟨_,Ab Bxb,rfl⟩ a (i:=0) rfl rfl,rfl,trivial⟩ (Ghost.drop.trans ((Gk hk).trans ((Gk ht).trans ((Gk hh).trans ((Gk hm).trans ((Gk hf).trans (Gk hs))))))) ⟨Cal,.inl ⟨_,_,⟨⟩,(by unfold Ox;rw[if_neg (show ¬u=wLab from b),if_neg (F f),if_neg (show ¬u=Fv from B),if_neg (show ¬u=Im from H),if_neg (show ¬u=Od from O)];first|exact Amz P|(split<;>first|exact Amz P|(split<;>exact Amz P))),by decide,jk7 ⟨Cak hk,rfl,Cak ht,Cak hh,Cak hm,Cak hf,Cak hs,trivial⟩,rfl,rfl⟩⟩)))))
  have P:=Jh bi
  refine Al (kk g0 ?_)
  refine Asb rfl rfl fun h8 h9 cd g3=>l_v (Ah (v:=.string (bs u)) ck) (l_k g3 (Ao (w_q rfl rfl fun ha g4=>l_v (Sp (p:=u) (q:=bZ8) rfl rfl) (Au (.bool (u==bZ8)) (l_k g4 (Bu (t:=u==bZ8) rfl (fun bj=>?_) (fun bj=>?_)))))))
  ·have b8:=Jr bj
   refine Oj ((K,oC #[nS,iV 0,nS,nS,nS,nS,nS] 109)::((J,oC #[vk,iV p.l.most,vt,vh,vm,vf,vs] 109)::[])) [0,1,2,3,4,5,6,7,9] (by kernel_rfl) rfl rfl (Df 0 Aod rfl ⟨Cal,sB⟩ rfl (Yld.o (Cb Bxc rfl rfl Zu.2 (by decide) c rfl)) (Df 1 (zT 2 9) rfl ⟨Cal,sB⟩ rfl (Yld.o (Cb Bxd rfl rfl Hw.2 (by decide) rfl rfl)) (Df 2 (zT 3 8) rfl ⟨Cal,sB⟩ rfl (Hv (v:=vk) Hw.1 rfl (lZ7 _ mC) rfl) (Fc 3 (zT 4 7) rfl ⟨Cal,sB⟩ rfl (Yld.o (Ah (v:=vw) I)) ⟨Cal,sB⟩ ?_))))
   obtain⟨L,bz⟩:=Ed (xs:=ws) (i:=0) (by omega)
   have ic:=hw _ (lZ8 bz)
   refine Ri 4 (zT 5 6) rfl ⟨Cal,sB⟩ rfl (Qj (Ch 0 Bwy ty9 rfl rw_ (q:=0) rfl rfl bz)) ⟨Cal,sB⟩ fun ij cg=>?_
   have hr:L.data.toList.length<2^60:=At.slen cg
   have i0:=At.slen cg
   refine Fc 5 (zT 6 5) rfl ⟨Cal,sB⟩ rfl (Yld.o (Pk ty9 rfl cg)) ⟨Cal,sB⟩ (Lp 6 (zT 7 4) rfl rfl (Bi (α:=ByteArray) (xs:=[bs L.data.toList]) (vs:=[.string L]) Bwy ty9 zr9 rfl (by decide) (Dk (os:=[.tmp 84]) ⟨rfl,trivial⟩) ⟨Fp (l:=L.data.toList) (by omega),trivial⟩ rfl (by decide) fun d5 ec e9=>⟨⟨Cal,sB⟩,?_⟩))
   have e5:Grow ρ 9 (.slice (some ⟨d5,0,none⟩) 1 1) ([bs L.data.toList]:List ByteArray) [(d5,oC ec.toArray 9)]:=Bs e9 rfl (by decide)
   refine Pp e5 sB fun j0 C ga=>?_
   replace hk:=Caj C hk
   replace ht:=Caj C ht
   replace hh:=Caj C hh
   replace hm:=Caj C hm
   replace hf:=Caj C hf
   replace hs:=Caj C hs
   refine Lg (Dz Asc) (Lp 7 (zT 8 3) rfl rfl (Gc (σ:=(K,oC #[nS,iV 0,nS,nS,nS,nS,nS] 109)::((J,oC #[vk,iV p.l.most,vt,vh,vm,vf,vs] 109)::(gt++(gh++(gm++(gf++(gs++σ))))))) (gr:=gk) (xs:=p.l.kinds) (ys:=([bs L.data.toList]:List ByteArray)) Bwy Bwy (Ab Bxs) rfl nL rfl rfl rfl rfl hk ga (by simp only[lZ0,lZ3,lZ4]at *;omega) fun U ez ba=>⟨⟨C,sB⟩,?_⟩))
   refine Fc 8 Aoc rfl ⟨C,sB⟩ rfl (Yld.o (Cb Bxc rfl rfl Zu.2 (by decide) c rfl)) ⟨Cal,sB⟩ (Fc 9 Aoa rfl ⟨C,sB⟩ rfl (Yld.o (Cb Bxd rfl rfl Hw.2 (by decide) rfl rfl)) ⟨Cal,sB⟩ (Lg (Ea Arz) (Qg 10 Aob rfl rfl (Cz (j:=0) (v:=U) Hw.2 rfl rfl (Cak ba) rfl nL ?_))))
   refine Te rfl (kk cd ?_)
   refine w_q rfl rfl fun hb g5=>Arv (Xo (i:=0) (cs:=[U,iV p.l.most,vt,vh,vm,vf,vs]) (rs:=[]) ⟨_,Bxc,rfl⟩ ⟨_,Ab Bxb,rfl⟩ c rfl rfl rfl ?_)
   refine Bj (Cai (Iq Asd)) (Cx rfl (Li (i:=0) (vs:=[U,iV p.l.most,vt,vh,vm,vf,vs]) (c':=[U,iV p.l.most,vt,vh,vm,vf,vs]) ⟨_,Ab Bxb,rfl⟩ a rfl rfl rfl (Zh ⟨Cak ba,rfl,Cak ht,Cak hh,Cak hm,Cak hf,Cak hs,trivial⟩) rfl nL rfl ?_))
   refine Au (iV 0) (l_k g5 (Aj (Cai Arz) (Aj Cag (Aq (d _ _ _ _ _ [.agg #[U,iV p.l.most,vt,vh,vm,vf,vs],iV 0] ⟨Qh ⟨_,Bxc,rfl⟩ ⟨_,Ab Bxb,rfl⟩ a (i:=0) rfl rfl,rfl,trivial⟩ Cag ⟨C,.inr ⟨(⟨⟨p.l.kinds++([bs L.data.toList]:List ByteArray),p.l.most,p.l.tests⟩,⟨p.m.houses,p.m.marks,p.m.fields,p.m.sales⟩,p.last⟩:PSt),_,_,(by unfold Ox;rw[if_neg (show ¬u=wLab from b),if_neg (F f),if_neg (show ¬u=Fv from B),if_neg (show ¬u=Im from H),if_neg (show ¬u=Od from O),if_pos (show u=Pj from b8)];exact Ana P bz),rfl,⟨U,vt,vh,vm,vf,vs,ez,gt,gh,gm,gf,gs,rfl,rfl,(by constructor<;>omega),ba,ht,hh,hm,hf,hs⟩,by simp only[lZ9]⟩⟩)))))
  have b8:=Jq bj
  refine w_q rfl rfl fun hc g6=>l_v (Sp (p:=u) (q:=bZ4) rfl rfl) (Au (.bool (u==bZ4)) (l_k g6 (Bu (t:=u==bZ4) rfl (fun bk=>?_) (fun bk=>?_))))
  ·have cf:=Jr bk
   refine Oj ((K,oC #[nS,iV 0,nS,nS,nS,nS,nS] 109)::((J,oC #[vk,iV p.l.most,vt,vh,vm,vf,vs] 109)::[])) [0,1,2,3,4,5,6,7,9] (by kernel_rfl) rfl rfl (Df 0 Aod rfl ⟨Cal,sB⟩ rfl (Yld.o (Cb Bxc rfl rfl Ln.2 (by decide) c rfl)) (Df 1 (zT 2 9) rfl ⟨Cal,sB⟩ rfl (Yld.o (Cb Bxa rfl rfl Hw.2 (by decide) rfl rfl)) (Df 2 (zT 3 8) rfl ⟨Cal,sB⟩ rfl (Hv (v:=vh) Hw.1 rfl (lZ7 _ mC) rfl) (Fc 3 (zT 4 7) rfl ⟨Cal,sB⟩ rfl (Yld.o (Ah (v:=vw) I)) ⟨Cal,sB⟩ ?_))))
   obtain⟨M,c0⟩:=Ed (xs:=ws) (i:=0) (by omega)
   have ie:=hw _ (lZ8 c0)
   refine Ri 4 (zT 5 6) rfl ⟨Cal,sB⟩ rfl (Qj (Ch 0 Bwy ty9 rfl rw_ (q:=0) rfl rfl c0)) ⟨Cal,sB⟩ fun ik ch=>?_
   have hu:M.data.toList.length<2^60:=At.slen ch
   have i1:=At.slen ch
   refine Fc 5 (zT 6 5) rfl ⟨Cal,sB⟩ rfl (Yld.o (Pk ty9 rfl ch)) ⟨Cal,sB⟩ (Lp 6 (zT 7 4) rfl rfl (Bi (α:=ByteArray) (xs:=[bs M.data.toList]) (vs:=[.string M]) Bwy ty9 zr9 rfl (by decide) (Dk (os:=[.tmp 96]) ⟨rfl,trivial⟩) ⟨Fp (l:=M.data.toList) (by omega),trivial⟩ rfl (by decide) fun d6 ed ea=>⟨⟨Cal,sB⟩,?_⟩))
   have e6:Grow ρ 9 (.slice (some ⟨d6,0,none⟩) 1 1) ([bs M.data.toList]:List ByteArray) [(d6,oC ed.toArray 9)]:=Bs ea rfl (by decide)
   refine Pp e6 sB fun j1 D gb=>?_
   replace hk:=Caj D hk
   replace ht:=Caj D ht
   replace hh:=Caj D hh
   replace hm:=Caj D hm
   replace hf:=Caj D hf
   replace hs:=Caj D hs
   refine Lg (Dz (Dz (Bv Ase))) (Lp 7 (zT 8 3) rfl rfl (Gc (σ:=(K,oC #[nS,iV 0,nS,nS,nS,nS,nS] 109)::((J,oC #[vk,iV p.l.most,vt,vh,vm,vf,vs] 109)::(gk++(gt++(gm++(gf++(gs++σ))))))) (gr:=gh) (xs:=p.m.houses) (ys:=([bs M.data.toList]:List ByteArray)) Bwy Bwy (Ab Bxs) rfl nL rfl rfl rfl rfl hh gb (by simp only[lZ0,lZ3,lZ4]at *;omega) fun V f0 bb=>⟨⟨D,sB⟩,?_⟩))
   refine Fc 8 Aoc rfl ⟨D,sB⟩ rfl (Yld.o (Cb Bxc rfl rfl Ln.2 (by decide) c rfl)) ⟨Cal,sB⟩ (Fc 9 Aoa rfl ⟨D,sB⟩ rfl (Yld.o (Cb Bxa rfl rfl Hw.2 (by decide) rfl rfl)) ⟨Cal,sB⟩ (Lg (Ea Arz) (Qg 10 Aob rfl rfl (Cz (j:=0) (v:=V) Hw.2 rfl rfl (Cak bb) rfl nL ?_))))
   refine Te rfl (kk cd ?_)
   refine w_q rfl rfl fun hd g7=>Arv (Xo (i:=0) (cs:=[vk,iV p.l.most,vt,V,vm,vf,vs]) (rs:=[]) ⟨_,Bxc,rfl⟩ ⟨_,Ab Bxb,rfl⟩ c rfl rfl rfl ?_)
   refine Bj (Cai (Iq Asd)) (Cx rfl (Li (i:=0) (vs:=[vk,iV p.l.most,vt,V,vm,vf,vs]) (c':=[vk,iV p.l.most,vt,V,vm,vf,vs]) ⟨_,Ab Bxb,rfl⟩ a rfl rfl rfl (Zh ⟨Cak hk,rfl,Cak ht,Cak bb,Cak hm,Cak hf,Cak hs,trivial⟩) rfl nL rfl ?_))
   refine Au (iV 0) (l_k g7 (Aj (Cai Arz) (Aj Cag (Aj (Cai (Dz (Bv Ase))) (Aj (Cai (Bv (Dz Ase))) (Aj (Cai (Ea Asd)) (Aq (d _ _ _ _ _ [.agg #[vk,iV p.l.most,vt,V,vm,vf,vs],iV 0] ⟨Qh ⟨_,Bxc,rfl⟩ ⟨_,Ab Bxb,rfl⟩ a (i:=0) rfl rfl,rfl,trivial⟩ Cag ⟨D,.inr ⟨(⟨⟨p.l.kinds,p.l.most,p.l.tests⟩,⟨p.m.houses++([bs M.data.toList]:List ByteArray),p.m.marks,p.m.fields,p.m.sales⟩,p.last⟩:PSt),_,_,(by unfold Ox;rw[if_neg (show ¬u=wLab from b),if_neg (F f),if_neg (show ¬u=Fv from B),if_neg (show ¬u=Im from H),if_neg (show ¬u=Od from O),if_neg (show ¬u=Pj from b8),if_pos (show u=Md from cf)];exact Ana P c0),rfl,⟨vk,vt,V,vm,vf,vs,gk,gt,f0,gm,gf,gs,rfl,rfl,(by constructor<;>omega),hk,ht,bb,hm,hf,hs⟩,by simp only[lZ9]⟩⟩))))))))
  have cf:=Jq bk
  refine Oj ((K,oC #[nS,iV 0,nS,nS,nS,nS,nS] 109)::((J,oC #[vk,iV p.l.most,vt,vh,vm,vf,vs] 109)::[])) [0,1,2,3,4,5,6,7,9] (by kernel_rfl) rfl rfl (Df 0 Aod rfl ⟨Cal,sB⟩ rfl (Yld.o (Cb Bxc rfl rfl Ln.2 (by decide) c rfl)) (Df 1 (zT 2 9) rfl ⟨Cal,sB⟩ rfl (Yld.o (Cb Bxa rfl rfl Hw.2 (by decide) rfl rfl)) (Df 2 (zT 3 8) rfl ⟨Cal,sB⟩ rfl (Hv (v:=vm) Hw.1 rfl (lZ7 _ mC) rfl) (Fc 3 (zT 4 7) rfl ⟨Cal,sB⟩ rfl (Yld.o (Ah (v:=vw) I)) ⟨Cal,sB⟩ ?_))))
  obtain⟨N,c1⟩:=Ed (xs:=ws) (i:=0) (by omega)
  have ig:=hw _ (lZ8 c1)
  refine Ri 4 (zT 5 6) rfl ⟨Cal,sB⟩ rfl (Qj (Ch 0 Bwy ty9 rfl rw_ (q:=0) rfl rfl c1)) ⟨Cal,sB⟩ fun il ci=>?_
  have hv:N.data.toList.length<2^60:=At.slen ci
  have i2:=At.slen ci
  refine Fc 5 (zT 6 5) rfl ⟨Cal,sB⟩ rfl (Yld.o (Pk ty9 rfl ci)) ⟨Cal,sB⟩ (Lp 6 (zT 7 4) rfl rfl (Bi (α:=ByteArray) (xs:=[bs N.data.toList]) (vs:=[.string N]) Bwy ty9 zr9 rfl (by decide) (Dk (os:=[.tmp 72]) ⟨rfl,trivial⟩) ⟨Fp (l:=N.data.toList) (by omega),trivial⟩ rfl (by decide) fun d7 ef eb=>⟨⟨Cal,sB⟩,?_⟩))
  have e7:Grow ρ 9 (.slice (some ⟨d7,0,none⟩) 1 1) ([bs N.data.toList]:List ByteArray) [(d7,oC ef.toArray 9)]:=Bs eb rfl (by decide)
  refine Pp e7 sB fun j2 E gc=>?_
  replace hk:=Caj E hk
  replace ht:=Caj E ht
  replace hh:=Caj E hh
  replace hm:=Caj E hm
  replace hf:=Caj E hf
  replace hs:=Caj E hs
  refine Lg (Dz (Dz (Bv (Bv Ase)))) (Lp 7 (zT 8 3) rfl rfl (Gc (σ:=(K,oC #[nS,iV 0,nS,nS,nS,nS,nS] 109)::((J,oC #[vk,iV p.l.most,vt,vh,vm,vf,vs] 109)::(gk++(gt++(gh++(gf++(gs++σ))))))) (gr:=gm) (xs:=p.m.marks) (ys:=([bs N.data.toList]:List ByteArray)) Bwy Bwy (Ab Bxs) rfl nL rfl rfl rfl rfl hm gc (by simp only[lZ0,lZ3,lZ4]at *;omega) fun W f1 bc=>⟨⟨E,sB⟩,?_⟩))
  refine Fc 8 Aoc rfl ⟨E,sB⟩ rfl (Yld.o (Cb Bxc rfl rfl Ln.2 (by decide) c rfl)) ⟨Cal,sB⟩ (Fc 9 Aoa rfl ⟨E,sB⟩ rfl (Yld.o (Cb Bxa rfl rfl Hw.2 (by decide) rfl rfl)) ⟨Cal,sB⟩ (Lg (Ea Arz) (Qg 10 Aob rfl rfl (Cz (j:=0) (v:=W) Hw.2 rfl rfl (Cak bc) rfl nL ?_))))
  refine Te rfl (kk cd ?_)
  refine w_q rfl rfl fun he g8=>Arv (Xo (i:=0) (cs:=[vk,iV p.l.most,vt,vh,W,vf,vs]) (rs:=[]) ⟨_,Bxc,rfl⟩ ⟨_,Ab Bxb,rfl⟩ c rfl rfl rfl ?_)
  refine Bj (Cai (Iq Asd)) (Cx rfl (Li (i:=0) (vs:=[vk,iV p.l.most,vt,vh,W,vf,vs]) (c':=[vk,iV p.l.most,vt,vh,W,vf,vs]) ⟨_,Ab Bxb,rfl⟩ a rfl rfl rfl (Zh ⟨Cak hk,rfl,Cak ht,Cak hh,Cak bc,Cak hf,Cak hs,trivial⟩) rfl nL rfl ?_))
  refine Au (iV 0) (l_k g8 (Aj (Cai Arz) (Aj Cag (Aj (Cai (Dz (Bv (Bv Ase)))) (Aj (Cai (Bv (Dz (Bv Ase)))) (Aj (Cai (Bv (Bv (Dz Ase)))) (Aj (Cai (Ea (Ea Asd))) (Aq (d _ _ _ _ _ [.agg #[vk,iV p.l.most,vt,vh,W,vf,vs],iV 0] ⟨Qh ⟨_,Bxc,rfl⟩ ⟨_,Ab Bxb,rfl⟩ a (i:=0) rfl rfl,rfl,trivial⟩ Cag ⟨E,.inr ⟨(⟨⟨p.l.kinds,p.l.most,p.l.tests⟩,⟨p.m.houses,p.m.marks++([bs N.data.toList]:List ByteArray),p.m.fields,p.m.sales⟩,p.last⟩:PSt),_,_,(by unfold Ox;rw[if_neg (show ¬u=wLab from b),if_neg (F f),if_neg (show ¬u=Fv from B),if_neg (show ¬u=Im from H),if_neg (show ¬u=Od from O),if_neg (show ¬u=Pj from b8),if_neg (show ¬u=Md from cf)];exact Ana P c1),rfl,⟨vk,vt,vh,W,vf,vs,gk,gt,gh,f1,gf,gs,rfl,rfl,(by constructor<;>omega),hk,ht,hh,bc,hf,hs⟩,by simp only[lZ9]⟩⟩)))))))))
 refine w_q rfl rfl fun hg g9=>l_v (Sp (p:=u) (q:=bZ9) rfl rfl) (Au (.bool (u==bZ9)) (l_k g9 (Bu (t:=u==bZ9) rfl (fun bl=>?_) (fun bl=>?_))))
 ·have b9:=Jr bl
  refine Al (d8 (u==bZ9) _ ⟨rfl,rfl,rfl,rfl,rfl,rfl,fun _=>.inl (show u=Pt from b9),fun h=>absurd (Jq h) (not_not_intro b9),trivial⟩)
 have b9:=Jq bl
 refine Ag rfl rfl (l_v (Sp (p:=u) (q:=bZ1) rfl rfl) (Au (.bool (u==bZ1)) (Ac ?_)))
 refine d8 (u==bZ1) _ ⟨rfl,rfl,rfl,rfl,rfl,rfl,fun h=>.inr (show u=Ot from eq_of_beq h),fun h k=>k.elim (show ¬u=Pt from b9) (show ¬u=Ot from Jq h),trivial⟩
theorem Aux{W0 ρ σ t}(hnr:Jp σ):CallsH (CY W0) 11 #[.string (bs t)] ρ σ (fun w ρ' σ'=>Ro.le ρ ρ'∧σ'=σ∧∃vl vm,w=(.tuple #[vl,vm,iV ((Gb t).2.2.1),iV ((Gb t).2.2.2)])∧Val ρ' vl ((Gb t).1:Lab)∧Val ρ' vm ((Gb t).2.1:Market)):=by
 refine Lt (n:=105) (args:=[.string (bs t)]) [.cell 2 25,.cell 3 29,.tmp 4,.tmp 5] Tryz.func11 rfl rfl rfl rfl fun Q T hb=>w_q rfl rfl fun K1 k1=>Arv (Ct Aph fun k2=>?_)
 refine Arv (Ct Apg fun k3=>?_)
 refine Au _ (Au _ (Ds k1 fun K4 K5 k4 k5=>Av (.string (bs t)) (l_v (Ga Bwz rfl) (l_v (Rd) (l_k k5 (Cw (fun b6=>?_) (fun b6=>?_)))))))
 ·have q6:=lZ2 b6
  refine Ai fun K7 k7=>?_
  have hP:=Aml (t:=t) (by omega)
  refine Bf ?_
  have r8:Val ρ (.agg #[nS,iV 0,nS]) (⟨[],0,[]⟩:Lab):=Lab.shut (x:=(⟨[],0,[]⟩:Lab)) Gx (iC 0) Gx
  refine l_v (Dn (ns:=[1,1,1]) (vs:=[]) (zc:=Amk) (cs:=[nS,iV 0,nS]) Bxd Aph rfl ⟨Hw.2,ty3.2,Vi.2,trivial⟩ (EvB.map trivial) rfl) ?_
  have r9:Val ρ (.agg #[nS,nS,nS,nS]) (⟨[],[],[],[]⟩:Market):=Market.shut (x:=(⟨[],[],[],[]⟩:Market)) Gx Gx Gx Gx
  refine l_v (Dn (ns:=[1,1,1,1]) (vs:=[]) (zc:=Amj) (cs:=[nS,nS,nS,nS]) Bxa Apg rfl ⟨Hw.2,Hw.2,Se.2,Qn.2,trivial⟩ (EvB.map trivial) rfl) (Ee (Li (i:=1) (vs:=[nS,iV 0,nS]) Zu.2 rfl rfl rfl rfl (Zh ⟨rfl,rfl,rfl,trivial⟩) rfl nL rfl ?_))
  refine Ee (Li (i:=0) (vs:=[nS,nS,nS,nS]) Ln.2 rfl rfl rfl rfl (Zh ⟨rfl,rfl,rfl,rfl,trivial⟩) rfl nL rfl ?_)
  refine Au _ (Au _ (l_k k7 (Aq ?_)))
  have et:Val ρ (.agg #[nS,iV 0,nS]) (⟨[],0,[]⟩:Lab):=Lab.shut (x:=(⟨[],0,[]⟩:Lab)) Gx (iC 0) Gx
  have f1:Val ρ (.agg #[nS,nS,nS,nS]) (⟨[],[],[],[]⟩:Market):=Market.shut (x:=(⟨[],[],[],[]⟩:Market)) Gx Gx Gx Gx
  refine T _ _ _ _ _ [.agg #[nS,iV 0,nS],.agg #[nS,nS,nS,nS],iV 0,iV 2] ⟨Ez Zu.1 Zu.2 rfl (i:=1),Ez Ln.1 Ln.2 rfl (i:=0),rfl,rfl,trivial⟩ (Ghost.drop.trans Cag) ⟨Cal,rfl,.agg #[nS,iV 0,nS],.agg #[nS,nS,nS,nS],eT (.tuple #[.agg #[nS,iV 0,nS],.agg #[nS,nS,nS,nS],iV 0,iV 2]) ?_,Val.cast ?_ et,Val.cast ?_ f1⟩
  ·rw[hP]<;>rfl
  ·rw[hP]<;>rfl
  ·rw[hP]<;>rfl
 have q6:=lZ1 b6
 refine Al (kk k4 ?_)
 refine Cr fun g0 dk=>Arv (Ct Aot fun b0=>?_)
 refine Dr dk fun g1 dl=>Au (iV (-1)) (Dr dl fun g2 dm=>Av (.string (bs t)) (Arv (Fj (Bhd (t:=t) (by omega)) Tryz.func45 ⟨rfl,trivial⟩ fun bp fu ii d9=>?_)))
 obtain⟨a2,bo,aq⟩:=d9
 replace bo:=bo.symm;subst bo
 refine Au bp (Ds dm fun g3 g4 dn dp=>Au (iV 0) (l_k dp (Ao (Cc (fun mm ee dd ρ' σ'=>∃(i:Nat) (la:Int) (p:PSt) (a3:Value) (b1:Own) (a4:Value) (b2:Own) (a5:Value) (b3:Own) (a6:Value) (b4:Own) (a7:Value) (b5:Own) (a8:Value) (b7:Own),((bw (Ix t)).length-i)=mm∧[]=dd∧Ro.le fu ρ'∧(b1++(b2++(b3++(b4++(b5++(b7++((b0,oC #[a3,iV p.l.most,a4,a5,a6,a7,a8] 109)::((k3,oC #[nS,nS,nS,nS] 29)::((k2,oC #[nS,iV 0,nS] 25)::σ)))))))))=σ'∧ee 2=pV k2∧ee 3=pV k3∧ee 6=pV b0∧ee 8=bp∧ee 7=iV la∧ee 9=iV i∧(i≤(bw (Ix t)).length)∧(Wl 0 p0 ((Ix t).take i) = .inr p)∧(RdB p i)∧(la=p.last∨(i=0∧la = -1∧p.last=0))∧(-9223372036854775808≤p.l.most∧p.l.most<9223372036854775808)∧Grow ρ' 9 a3 p.l.kinds b1∧Grow ρ' 46 a4 p.l.tests b2∧Grow ρ' 9 a5 p.m.houses b3∧Grow ρ' 9 a6 p.m.marks b4∧Grow ρ' 51 a7 p.m.fields b5∧Grow ρ' 54 a8 p.m.sales b7∧True) (m:=_) ⟨0,-1,p0,nS,[],nS,[],nS,[],nS,[],nS,[],nS,[],rfl,rfl,Cal,rfl,rfl,rfl,rfl,rfl,rfl,rfl,Hz _,rfl,Bqt,.inr ⟨rfl,rfl,rfl⟩,⟨by decide,by decide⟩,Fy rfl Hm,Fy rfl Hm,Fy rfl Hm,Fy rfl Hm,Fy rfl Hm,Fy rfl Hm,trivial⟩ ?_))))
 rintro hi h0 _ b9 _ ⟨i,la,p,a3,b1,a4,b2,a5,b3,a6,b4,a7,b5,a8,b7,rfl,rfl,N,rfl,e,g,C,M,al,D,hj,ap,cn,O,eh,a0,I,B,z,j,d,_⟩
 replace aq:=Val.mono N aq
 obtain⟨hk,hl⟩:=eh
 have hbl:=show (bw (Ix t)).length=(Ix t).length by simp[bw]
 have hlt:=Bco (t:=t)
 refine Gw fun g5 g6 dq dr=>l_v (Ah D) (l_v (Ah M) ?_)
 have h2:=Can aq
 refine l_v (Pc (el:=9) Bwy aq) (l_v (Fk) (l_k dr (Cw (fun bb=>?_) (fun bb=>?_))))
 ·have ei:=lZ2 bb
  refine Al (kk dq ?_)
  refine Ai fun g7 ds=>Ao (Cr fun g8 ck=>l_v (Ah M) (l_v (Ah D) ?_))
  obtain⟨bz,c8⟩:=Ed (xs:=bw (Ix t)) (i:=i) (by omega)
  obtain⟨aw,h6⟩:=Bsn c8
  refine Arw (Em i Bwy ty9 aq (q:=(i:Int)) c8) fun i2 bm=>?_
  have h3:bz.data.toList.length<2^60:=At.slen bm
  have h5:=At.slen bm
  refine l_v (Fd ty9 bm) (Arv (Fj (Bdy (t:=bz.data.toList) (by omega)) Tryz.func46 ⟨rfl,trivial⟩ fun i8 R ij bf=>?_))
  obtain⟨G,bf⟩:=bf
  replace a0:=Caj G a0
  replace I:=Caj G I
  replace B:=Caj G B
  replace z:=Caj G z
  replace j:=Caj G j
  replace d:=Caj G d
  rcases bf with⟨ai,⟨ao,bi⟩|⟨c,ho,co,ao,az,bi,fj⟩⟩
  ·replace ai:=ai.symm;subst ai bi
   refine Av (.tuple #[.string (bs ([]:List UInt8)),nS,bF]) (l_v (Bp _) (l_v (Bp nS) (l_v (Bp bF) (Au _ (Au nS (Au bF (Dr ck fun g9 dt=>Av (.string (bs ([]:List UInt8))) (Arv (Ce (Bbp (u:=([]:List UInt8))) Tryz.func47 ?_)))))))))
   refine Au _ (Dr dt fun ga du=>Au (iV 3) (Ds du fun gb gc dv dw=>Av bF (Av bF (Ap (gN rfl rfl) (Ap (gN rfl rfl) (Ap (gN rfl rfl) (l_v (En rfl (v:=bF)) (Av bF (Ap (gN rfl rfl) (Ap (gN rfl rfl) (Ap (gN rfl rfl) (Ap (gN rfl rfl) (Ap (gN rfl rfl) (l_v (En rfl (v:=bF)) (Av bF (Ap (gN rfl rfl) (Ap (gN rfl rfl) (Ap (gN rfl rfl) (Ap (Fl) (Ap (Fl) (Ap (gN rfl rfl) (l_v (En rfl (v:=bF)) (Av bF (Ap (gN rfl rfl) (Ap (gN rfl rfl) (Ap (gN rfl rfl) (Ap (Fl) (Ap (Fl) (Ap (gN rfl rfl) (l_v (En rfl (v:=bF)) (l_k dw (Dy rfl (Al (kk dv ?_))))))))))))))))))))))))))))))))))
   refine Gw fun gd ge hf dx=>Av (iV 3) (l_v (Rf) (l_k dx (Et (Ai fun gf dy=>?_))))
   have hP:=Zf (f:=3) (by omega) ap aw (Axj ao)
   refine Bf ?_
   have hp:Val R (.agg #[nS,iV 0,nS]) (⟨[],0,[]⟩:Lab):=Lab.shut (x:=(⟨[],0,[]⟩:Lab)) Gx (iC 0) Gx
   refine l_v (Dn (ns:=[1,1,1]) (vs:=[]) (zc:=Amk) (cs:=[nS,iV 0,nS]) Bxd Aph rfl ⟨Hw.2,ty3.2,Vi.2,trivial⟩ (EvB.map trivial) rfl) ?_
   have hq:Val R (.agg #[nS,nS,nS,nS]) (⟨[],[],[],[]⟩:Market):=Market.shut (x:=(⟨[],[],[],[]⟩:Market)) Gx Gx Gx Gx
   refine l_v (Dn (ns:=[1,1,1,1]) (vs:=[]) (zc:=Amj) (cs:=[nS,nS,nS,nS]) Bxa Apg rfl ⟨Hw.2,Hw.2,Se.2,Qn.2,trivial⟩ (EvB.map trivial) rfl) (l_v (Ah D) (l_v (Dm (((i+1):Nat):Int)) (Av (iV 3) (Bj (Cai (Ea (Ea (Ea (Ea (Ea (Ea (Iq Arz)))))))) (Ee (Li (i:=0) (vs:=[nS,iV 0,nS]) Zu.2 e rfl rfl rfl (Zh ⟨rfl,rfl,rfl,trivial⟩) rfl nL rfl ?_))))))
   refine Bj (Cai (Iq (Ea (Ea (Ea (Ea (Ea (Ea Arz)))))))) (Ee (Li (i:=0) (vs:=[nS,nS,nS,nS]) Ln.2 g rfl rfl rfl (Zh ⟨rfl,rfl,rfl,rfl,trivial⟩) rfl nL rfl ?_))
   refine Au _ (Au _ (l_k dy (Aj (Cai (Dz Asc)) (Aj (drops a0.1) (Aj (Cai (Dz Asc)) (Aj (drops I.1) (Aj (Cai (Dz Asc)) (Aj (drops B.1) (Aj (Cai (Dz Asc)) (Aj (drops z.1) (Aj (Cai (Dz Asc)) (Aj (drops j.1) (Aj (Cai (Dz Asc)) (Aj (drops d.1) (Aj (Cai (Iq Arz)) (Aj Cag (Aq ?_)))))))))))))))))
   have f5:Val R (.agg #[nS,iV 0,nS]) (⟨[],0,[]⟩:Lab):=Lab.shut (x:=(⟨[],0,[]⟩:Lab)) Gx (iC 0) Gx
   have f6:Val R (.agg #[nS,nS,nS,nS]) (⟨[],[],[],[]⟩:Market):=Market.shut (x:=(⟨[],[],[],[]⟩:Market)) Gx Gx Gx Gx
   refine T _ _ _ _ _ [.agg #[nS,iV 0,nS],.agg #[nS,nS,nS,nS],iV ((i+1):Nat),iV 3] ⟨Ez Zu.1 Zu.2 e (i:=1),Ez Ln.1 Ln.2 g (i:=0),rfl,rfl,trivial⟩ (Ghost.drop.trans Cag) ⟨Cam (Cam a2 N) G,rfl,.agg #[nS,iV 0,nS],.agg #[nS,nS,nS,nS],eT (.tuple #[.agg #[nS,iV 0,nS],.agg #[nS,nS,nS,nS],iV ((i+1):Nat),iV 3]) ?_,Val.cast ?_ f5,Val.cast ?_ f6⟩
   ·rw[hP]<;>rfl
   ·rw[hP]<;>rfl
   ·rw[hP]<;>rfl
  replace ai:=ai.symm;subst ai bi
  obtain⟨h9,ha,dc⟩:=Bpq az
  refine Av (.tuple #[.string (bs c),co,bT]) (l_v (Bp _) (l_v (Bp _) (l_v (Bp bT) (Au _ (Au _ (Au bT (Dr ck fun gg dz=>Av (.string (bs c)) (Arv (Ce (Bbp (u:=c)) Tryz.func47 ?_)))))))))
  refine Au _ (Dr dz fun gh e0=>Au (iV 3) (Asa e0 fun gi bk=>Ai fun cq e1=>?_))
  have a1:∀  (ee:Env),(ee 2=pV k2)∧(ee 3=pV k3)∧(ee 6=pV b0)∧(ee 8=bp)∧(ee 9=iV i)∧(ee 10=(.string (bs c)))∧(ee 11=co)∧(ee 13=(iV (Ji c)))∧(ee 14=iV 3)∧(ee 68=(.bool (Nv i p.last (Ji c))))∧True→cq ee [] R ((b1++(b2++(b3++(b4++(b5++(b7++((b0,oC #[a3,iV p.l.most,a4,a5,a6,a7,a8] 109)::((k3,oC #[nS,nS,nS,nS] 29)::((k2,oC #[nS,iV 0,nS] 25)::σ)))))))))):=by
   rintro h1 ⟨am,an,au,d8,be,d4,d5,d6,c7,d7,_⟩
   apply e1
   refine Bu d7 (fun bc=>?_) (fun bc=>?_)
   ·have ax:=bc
    refine Bf (Bj (Cai (Ea (Ea (Ea (Ea (Ea Asd)))))) (Arv (Ma (i:=0) (cs:=[a3,iV p.l.most,a4,a5,a6,a7,a8]) (rs:=[]) ⟨_,Bxc,rfl⟩ ⟨_,Ab Bxb,rfl⟩ au ?_)))
    refine l_v (Ah d4) (l_v (Ah d5) (Bj (Cai (Dz (Bv (Bv (Bv (Bv Ase)))))) (Bj (Cai (Bv (Dz (Bv (Bv (Bv Ase)))))) (Bj (Cai (Bv (Bv (Dz (Bv (Bv Ase)))))) (Bj (Cai (Bv (Bv (Bv (Dz (Bv Ase)))))) (Bj (Cai (Bv (Bv (Bv (Bv (Dz Ase)))))) (Bj (Cai (Bv (Bv (Bv (Bv (Bv Asc)))))) (Arv (Fj (Bmz (p:=p) (u:=c) (by constructor<;>omega) (Axa cn (by omega)) a0 I B z j d fj (by omega) (fun w h=>by have:=dc w h;omega) (Gv (Gv (Gv hnr)))) Tryz.func48 ⟨rfl,rfl,rfl,trivial⟩ fun i9 ba ik bg=>?_)))))))))
    obtain⟨cm,bg⟩:=bg
    rcases bg with⟨ah,cp,ia,av,de,fk,bj,E⟩|⟨a9,i7,h4,av,bj,⟨bt,bx,br,bu,bq,bv,d0,d3,cz,d1,cy,d2,df,da,db,cb,cd,ca,cc,c9,E⟩,E⟩
    ·replace E:=E.symm;subst E bj
     refine Av (.tuple #[cp,iV ah]) (l_v (Bp _) (l_v (Bp _) ?_))
     obtain⟨c0,c1,c2,c3,c4,c5,c6,cw,fl,fm,fn,fo,fp,fq,fr⟩:=Jk7.open_ fk
     have cx:cp.cells=[c0,c1,c2,c3,c4,c5,c6].toArray:=by rw[cw];rfl
     refine Ee (Li (i:=0) (vs:=[c0,c1,c2,c3,c4,c5,c6]) ⟨_,Ab Bxb,rfl⟩ au rfl cx rfl (Zh ⟨fl,fm,fn,fo,fp,fq,fr,trivial⟩) rfl nL rfl ?_)
     refine Au _ (Ds bk fun gj gk hg e2=>Av (iV ah) (l_v (Rf) (l_k e2 (Co rfl (bne_iff_ne.2 de) (Ai fun gl e3=>?_)))))
     have hP:=Zf (f:=ah) (by omega) ap aw (Bdc ao az ax av)
     refine Bf ?_
     have hr:Val ba (.agg #[nS,iV 0,nS]) (⟨[],0,[]⟩:Lab):=Lab.shut (x:=(⟨[],0,[]⟩:Lab)) Gx (iC 0) Gx
     refine l_v (Dn (ns:=[1,1,1]) (vs:=[]) (zc:=Amk) (cs:=[nS,iV 0,nS]) Bxd Aph rfl ⟨Hw.2,ty3.2,Vi.2,trivial⟩ (EvB.map trivial) rfl) ?_
     have hs:Val ba (.agg #[nS,nS,nS,nS]) (⟨[],[],[],[]⟩:Market):=Market.shut (x:=(⟨[],[],[],[]⟩:Market)) Gx Gx Gx Gx
     refine l_v (Dn (ns:=[1,1,1,1]) (vs:=[]) (zc:=Amj) (cs:=[nS,nS,nS,nS]) Bxa Apg rfl ⟨Hw.2,Hw.2,Se.2,Qn.2,trivial⟩ (EvB.map trivial) rfl) (l_v (Ah be) (l_v (Dm (((i+1):Nat):Int)) (Av (iV ah) (Ee (Li (i:=2) (vs:=[nS,iV 0,nS]) Zu.2 am rfl rfl rfl (Zh ⟨rfl,rfl,rfl,trivial⟩) rfl nL rfl ?_)))))
     refine Ee (Li (i:=1) (vs:=[nS,nS,nS,nS]) Ln.2 an rfl rfl rfl (Zh ⟨rfl,rfl,rfl,rfl,trivial⟩) rfl nL rfl ?_)
     refine Au _ (Au _ (l_k e3 (Aj Cag (Aq ?_))))
     have f7:Val ba (.agg #[nS,iV 0,nS]) (⟨[],0,[]⟩:Lab):=Lab.shut (x:=(⟨[],0,[]⟩:Lab)) Gx (iC 0) Gx
     have f8:Val ba (.agg #[nS,nS,nS,nS]) (⟨[],[],[],[]⟩:Market):=Market.shut (x:=(⟨[],[],[],[]⟩:Market)) Gx Gx Gx Gx
     refine T _ _ _ _ _ [.agg #[nS,iV 0,nS],.agg #[nS,nS,nS,nS],iV ((i+1):Nat),iV ah] ⟨Ez Zu.1 Zu.2 am (i:=1),Ez Ln.1 Ln.2 an (i:=0),rfl,rfl,trivial⟩ (Ghost.drop.trans Cag) ⟨Cam (Cam (Cam a2 N) G) cm,rfl,.agg #[nS,iV 0,nS],.agg #[nS,nS,nS,nS],eT (.tuple #[.agg #[nS,iV 0,nS],.agg #[nS,nS,nS,nS],iV ((i+1):Nat),iV ah]) ?_,Val.cast ?_ f7,Val.cast ?_ f8⟩
     ·rw[hP]<;>rfl
     ·rw[hP]<;>rfl
     ·rw[hP]<;>rfl
    subst df da bj
    simp only[lZ9]at E
    replace E:=E.symm;subst E
    obtain⟨h7,h8⟩:=db
    refine Av (.tuple #[.agg #[bt,iV a9.l.most,bx,br,bu,bq,bv],iV 0]) (l_v (Bp _) (l_v (Bp _) (Bj (Cai (Ea (Ea (Ea (Ea (Ea Asd)))))) (Ee (Li (i:=0) (vs:=[bt,iV a9.l.most,bx,br,bu,bq,bv]) ⟨_,Ab Bxb,rfl⟩ au rfl rfl rfl (Zh ⟨Cak cb,rfl,Cak cd,Cak ca,Cak cc,Cak c9,Cak E,trivial⟩) rfl nL rfl ?_)))))
    refine Au _ (Ds bk fun gm gn e4 e5=>Av (iV 0) (l_v (Rf) (l_k e5 (Dy rfl (Al (kk e4 ?_))))))
    refine Bf (l_v (Ah d6) (Au _ (l_k ds (Bf (l_v (Ah be) (l_v (Dm (((i+1):Nat):Int)) (Au _ (Bj (Cai (Dz (Bv (Bv (Bv (Bv Ase)))))) (Bj (Cai (Bv (Dz (Bv (Bv (Bv Ase)))))) (Bj (Cai (Bv (Bv (Dz (Bv (Bv Ase)))))) (Bj (Cai (Bv (Bv (Bv (Dz (Bv Ase)))))) (Bj (Cai (Bv (Bv (Bv (Bv (Dz Ase)))))) (Bj (Cai (Bv (Bv (Bv (Bv (Bv Asc)))))) (Ac ?_))))))))))))))
    refine⟨_,?_,(i+1),(Ji c),(⟨a9.l,a9.m,Ji c⟩:PSt),bt,d0,bx,d3,br,cz,bu,d1,bq,cy,bv,d2,rfl,rfl,(Cam (Cam N G) cm),rfl,am,an,au,d8,rfl,rfl,(by omega),(Axf ap aw (Bkx ao az ax av)),(Bkq (q:=a9) av cn),(.inl rfl),⟨by show _≤a9.l.most;omega,by show a9.l.most<_;omega⟩,(Fy rfl cb),(Fy rfl cd),(Fy rfl ca),(Fy rfl cc),(Fy rfl c9),(Fy rfl E),trivial⟩
    omega
   refine Al (kk bk ?_)
   refine Ai fun go hh=>Ai fun gp e6=>?_
   have ax:=bc
   refine Bf (l_v (Ah c7) (l_v (Rf) (l_k e6 (Et (Ai fun gq e7=>?_)))))
   have hP:=Zf (f:=3) (by omega) ap aw (Amy ao az ax)
   refine Bf ?_
   have ht:Val R (.agg #[nS,iV 0,nS]) (⟨[],0,[]⟩:Lab):=Lab.shut (x:=(⟨[],0,[]⟩:Lab)) Gx (iC 0) Gx
   refine l_v (Dn (ns:=[1,1,1]) (vs:=[]) (zc:=Amk) (cs:=[nS,iV 0,nS]) Bxd Aph rfl ⟨Hw.2,ty3.2,Vi.2,trivial⟩ (EvB.map trivial) rfl) ?_
   have hu:Val R (.agg #[nS,nS,nS,nS]) (⟨[],[],[],[]⟩:Market):=Market.shut (x:=(⟨[],[],[],[]⟩:Market)) Gx Gx Gx Gx
   refine l_v (Dn (ns:=[1,1,1,1]) (vs:=[]) (zc:=Amj) (cs:=[nS,nS,nS,nS]) Bxa Apg rfl ⟨Hw.2,Hw.2,Se.2,Qn.2,trivial⟩ (EvB.map trivial) rfl) (l_v (Ah be) (l_v (Dm (((i+1):Nat):Int)) (l_v (Ah c7) (Bj (Cai (Ea (Ea (Ea (Ea (Ea (Ea (Iq Arz)))))))) (Ee (Li (i:=0) (vs:=[nS,iV 0,nS]) Zu.2 am rfl rfl rfl (Zh ⟨rfl,rfl,rfl,trivial⟩) rfl nL rfl ?_))))))
   refine Bj (Cai (Iq (Ea (Ea (Ea (Ea (Ea (Ea Arz)))))))) (Ee (Li (i:=0) (vs:=[nS,nS,nS,nS]) Ln.2 an rfl rfl rfl (Zh ⟨rfl,rfl,rfl,rfl,trivial⟩) rfl nL rfl ?_))
   refine Au _ (Au _ (l_k e7 (Aj (Cai (Dz Asc)) (Aj (drops a0.1) (Aj (Cai (Dz Asc)) (Aj (drops I.1) (Aj (Cai (Dz Asc)) (Aj (drops B.1) (Aj (Cai (Dz Asc)) (Aj (drops z.1) (Aj (Cai (Dz Asc)) (Aj (drops j.1) (Aj (Cai (Dz Asc)) (Aj (drops d.1) (Aj (Cai (Iq Arz)) (Aj Cag (Aq ?_)))))))))))))))))
   have f9:Val R (.agg #[nS,iV 0,nS]) (⟨[],0,[]⟩:Lab):=Lab.shut (x:=(⟨[],0,[]⟩:Lab)) Gx (iC 0) Gx
   have fa:Val R (.agg #[nS,nS,nS,nS]) (⟨[],[],[],[]⟩:Market):=Market.shut (x:=(⟨[],[],[],[]⟩:Market)) Gx Gx Gx Gx
   refine T _ _ _ _ _ [.agg #[nS,iV 0,nS],.agg #[nS,nS,nS,nS],iV ((i+1):Nat),iV 3] ⟨Ez Zu.1 Zu.2 am (i:=1),Ez Ln.1 Ln.2 an (i:=0),rfl,rfl,trivial⟩ (Ghost.drop.trans Cag) ⟨Cam (Cam a2 N) G,rfl,.agg #[nS,iV 0,nS],.agg #[nS,nS,nS,nS],eT (.tuple #[.agg #[nS,iV 0,nS],.agg #[nS,nS,nS,nS],iV ((i+1):Nat),iV 3]) ?_,Val.cast ?_ f9,Val.cast ?_ fa⟩
   ·rw[hP]<;>rfl
   ·rw[hP]<;>rfl
   ·rw[hP]<;>rfl
  refine Bf (Av bT (Av bT (Me _ (gY rfl rfl) (Aa (gY rfl rfl) (Ah al) (Aa (gY rfl rfl) (Rw) (l_v (Es rfl (v:=.bool (decide ((Ji c)≥la)))) (Av (.bool (decide ((Ji c)≥la))) (Cn (decide ((Ji c)≥la)) (fun k=>?_) (fun k=>?_)))))))))
  ·have ej:=lZ2 k
   refine Aa (gY rfl k) (Ah D) (Aa (gY rfl k) (Hs) (Me _ (gY rfl k) (Aa (gY rfl k) (Hs) (Aa (gY rfl k) (Bud Byl (p:=(i:Int)==0) (q:=(Ji c)==0) rfl rfl) (l_v (Es k (v:=.bool (((i:Int)==0)==((Ji c)==0)))) (Av (.bool (((i:Int)==0)==((Ji c)==0))) (Cn (((i:Int)==0)==((Ji c)==0)) (fun b=>?_) (fun b=>?_))))))))
   ·have ek:=Jr b
    refine Me _ (gY rfl b) (Aa (gY rfl b) (Rf) (Me _ (gY rfl b) (Cn ((Ji c) != 3) (fun J=>?_) (fun J=>?_))))
    ·have em:=Ls J
     refine Ap (gNZ J) (Ap (gNZ J) (Aa (gY rfl b) (Es J (v:=bT)) (l_v (Es b (v:=bT)) (Av bT (Me _ (gY rfl rfl) (Aa (gY rfl rfl) (Uz rfl rfl) (Me _ (gY rfl rfl) (Cn (decide ((Ji c)≤3)) (fun K=>?_) (fun K=>?_)))))))))
     ·have en:=lZ2 K
      refine Ap (gNZ K) (Ap (gNZ K) (Aa (gY rfl rfl) (Es K (v:=bT)) (l_v (Es rfl (v:=bT)) (Ac ?_))))
      refine a1 _ ⟨e,g,C,M,D,rfl,rfl,rfl,rfl,rfl.trans (congrArg Value.bool (Bkh O (by omega) b (by omega) (by omega)).symm),trivial⟩
     have en:=lZ1 K
     refine Aa (gY rfl K) (Ah al) (Aa (gY rfl K) (Rw) (Aa (gY rfl rfl) (En K (v:=.bool (decide (la≥3)))) (l_v (Es rfl (v:=.bool (decide (la≥3)))) (Ac ?_))))
     refine a1 _ ⟨e,g,C,M,D,rfl,rfl,rfl,rfl,rfl.trans (congrArg Value.bool (Bqs O (by omega) b (by omega) (by omega)).symm),trivial⟩
    have em:=Jh J
    refine Aa (gY rfl J) (Ah al) (Aa (gY rfl J) (Fk) (Aa (gY rfl b) (En J (v:=.bool (decide (la<3)))) (l_v (Es b (v:=.bool (decide (la<3)))) (Av (.bool (decide (la<3))) (Cn (decide (la<3)) (fun y=>?_) (fun y=>?_))))))
    ·have eo:=lZ2 y
     refine Me _ (gY rfl y) (Aa (gY rfl y) (Uz rfl rfl) (Me _ (gY rfl y) (Cn (decide ((Ji c)≤3)) (fun L=>?_) (fun L=>?_))))
     ·have ep:=lZ2 L
      refine Ap (gNZ L) (Ap (gNZ L) (Aa (gY rfl y) (Es L (v:=bT)) (l_v (Es y (v:=bT)) (Ac ?_))))
      refine a1 _ ⟨e,g,C,M,D,rfl,rfl,rfl,rfl,rfl.trans (congrArg Value.bool (Bkh O (by omega) b (by omega) (by omega)).symm),trivial⟩
     have ep:=lZ1 L
     refine Aa (gY rfl L) (Ah al) (Aa (gY rfl L) (Rw) (Aa (gY rfl y) (En L (v:=.bool (decide (la≥3)))) (l_v (Es y (v:=.bool (decide (la≥3)))) (Ac ?_))))
     refine a1 _ ⟨e,g,C,M,D,rfl,rfl,rfl,rfl,rfl.trans (congrArg Value.bool (Bqs O (by omega) b (by omega) (by omega)).symm),trivial⟩
    have eo:=lZ1 y
    refine Ap (gNZ y) (Ap (gNZ y) (Ap (gNZ y) (Ap (Fl) (Ap (Fl) (Ap (gNZ y) (l_v (En y (v:=bF)) (Ac ?_)))))))
    refine a1 _ ⟨e,g,C,M,D,rfl,rfl,rfl,rfl,rfl.trans (congrArg Value.bool (Bcv O (.inr (.inr (.inl ⟨by omega,by omega⟩)))).symm),trivial⟩
   have ek:=Jq b
   refine Ap (gNZ b) (Ap (gNZ b) (Ap (gN rfl b) (Ap (Fl) (Ap (Fl) (Ap (gN rfl b) (l_v (En b (v:=bF)) (Av bF (Ap (gN rfl rfl) (Ap (gN rfl rfl) (Ap (gN rfl rfl) (Ap (Fl) (Ap (Fl) (Ap (gN rfl rfl) (l_v (En rfl (v:=bF)) (Ac ?_)))))))))))))))
   refine a1 _ ⟨e,g,C,M,D,rfl,rfl,rfl,rfl,rfl.trans (congrArg Value.bool (Bcv O (.inr (.inl b))).symm),trivial⟩
  have ej:=lZ1 k
  refine Ap (gN rfl k) (Ap (gN rfl k) (Ap (gN rfl k) (Ap (gN rfl k) (Ap (gN rfl k) (l_v (En k (v:=bF)) (Av bF (Ap (gN rfl rfl) (Ap (gN rfl rfl) (Ap (gN rfl rfl) (Ap (Fl) (Ap (Fl) (Ap (gN rfl rfl) (l_v (En rfl (v:=bF)) (Av bF (Ap (gN rfl rfl) (Ap (gN rfl rfl) (Ap (gN rfl rfl) (Ap (Fl) (Ap (Fl) (Ap (gN rfl rfl) (l_v (En rfl (v:=bF)) (Ac ?_))))))))))))))))))))))
  refine a1 _ ⟨e,g,C,M,D,rfl,rfl,rfl,rfl,rfl.trans (congrArg Value.bool (Bcv O (.inl (by omega))).symm),trivial⟩
 have ei:=lZ1 bb
 refine Bx (kk dn ?_)
 refine Ai fun gr e8=>Ai fun gs e9=>?_
 have ay:=Bcy ap (by omega)
 refine Bf (l_v (Ah al) (l_v (Fk) (l_k e9 (Cw (fun bd=>?_) (fun bd=>?_)))))
 ·have eq:=lZ2 bd
  refine Ai fun gt ea=>?_
  have hP:=Amh (by omega) ay (by have:=O;omega)
  refine Bf ?_
  have hv:Val b9 (.agg #[nS,iV 0,nS]) (⟨[],0,[]⟩:Lab):=Lab.shut (x:=(⟨[],0,[]⟩:Lab)) Gx (iC 0) Gx
  refine l_v (Dn (ns:=[1,1,1]) (vs:=[]) (zc:=Amk) (cs:=[nS,iV 0,nS]) Bxd Aph rfl ⟨Hw.2,ty3.2,Vi.2,trivial⟩ (EvB.map trivial) rfl) ?_
  have hx:Val b9 (.agg #[nS,nS,nS,nS]) (⟨[],[],[],[]⟩:Market):=Market.shut (x:=(⟨[],[],[],[]⟩:Market)) Gx Gx Gx Gx
  refine l_v (Dn (ns:=[1,1,1,1]) (vs:=[]) (zc:=Amj) (cs:=[nS,nS,nS,nS]) Bxa Apg rfl ⟨Hw.2,Hw.2,Se.2,Qn.2,trivial⟩ (EvB.map trivial) rfl) (Bj (Cai (Ea (Ea (Ea (Ea (Ea (Ea (Iq Arz)))))))) (Ee (Li (i:=0) (vs:=[nS,iV 0,nS]) Zu.2 e rfl rfl rfl (Zh ⟨rfl,rfl,rfl,trivial⟩) rfl nL rfl ?_)))
  refine Bj (Cai (Iq (Ea (Ea (Ea (Ea (Ea (Ea Arz)))))))) (Ee (Li (i:=0) (vs:=[nS,nS,nS,nS]) Ln.2 g rfl rfl rfl (Zh ⟨rfl,rfl,rfl,rfl,trivial⟩) rfl nL rfl ?_))
  refine Au _ (Au _ (l_k ea (Aj (Cai (Dz Asc)) (Aj (drops a0.1) (Aj (Cai (Dz Asc)) (Aj (drops I.1) (Aj (Cai (Dz Asc)) (Aj (drops B.1) (Aj (Cai (Dz Asc)) (Aj (drops z.1) (Aj (Cai (Dz Asc)) (Aj (drops j.1) (Aj (Cai (Dz Asc)) (Aj (drops d.1) (Aj (Cai (Iq Arz)) (Aj Cag (Aq ?_)))))))))))))))))
  have fb:Val b9 (.agg #[nS,iV 0,nS]) (⟨[],0,[]⟩:Lab):=Lab.shut (x:=(⟨[],0,[]⟩:Lab)) Gx (iC 0) Gx
  have fc:Val b9 (.agg #[nS,nS,nS,nS]) (⟨[],[],[],[]⟩:Market):=Market.shut (x:=(⟨[],[],[],[]⟩:Market)) Gx Gx Gx Gx
  refine T _ _ _ _ _ [.agg #[nS,iV 0,nS],.agg #[nS,nS,nS,nS],iV 0,iV 3] ⟨Ez Zu.1 Zu.2 e (i:=1),Ez Ln.1 Ln.2 g (i:=0),rfl,rfl,trivial⟩ (Ghost.drop.trans Cag) ⟨Cam a2 N,rfl,.agg #[nS,iV 0,nS],.agg #[nS,nS,nS,nS],eT (.tuple #[.agg #[nS,iV 0,nS],.agg #[nS,nS,nS,nS],iV 0,iV 3]) ?_,Val.cast ?_ fb,Val.cast ?_ fc⟩
  ·rw[hP]<;>rfl
  ·rw[hP]<;>rfl
  ·rw[hP]<;>rfl
 have eq:=lZ1 bd
 refine Al (kk e8 ?_)
 refine Ai fun gu eb=>?_
 have bh:¬p.last<3:=by have:=O;omega
 refine Hc a0 fun ib U F=>?_
 replace I:=Caj U I
 replace B:=Caj U B
 replace z:=Caj U z
 replace j:=Caj U j
 replace d:=Caj U d
 refine Hc I fun ic V P=>?_
 replace B:=Caj V B
 replace z:=Caj V z
 replace j:=Caj V j
 replace d:=Caj V d
 replace F:=Val.mono V F
 refine Hc B fun ie W aa=>?_
 replace z:=Caj W z
 replace j:=Caj W j
 replace d:=Caj W d
 replace F:=Val.mono W F
 replace P:=Val.mono W P
 refine Hc z fun ig X ar=>?_
 replace j:=Caj X j
 replace d:=Caj X d
 replace F:=Val.mono X F
 replace P:=Val.mono X P
 replace aa:=Val.mono X aa
 refine Hc j fun ih Y bn=>?_
 replace d:=Caj Y d
 replace F:=Val.mono Y F
 replace P:=Val.mono Y P
 replace aa:=Val.mono Y aa
 replace ar:=Val.mono Y ar
 refine Hc d fun fv Z fd=>?_
 replace F:=Val.mono Z F
 replace P:=Val.mono Z P
 replace aa:=Val.mono Z aa
 replace ar:=Val.mono Z ar
 replace bn:=Val.mono Z bn
 have fe:Val fv (.agg #[a3,iV p.l.most,a4,a5,a6,a7,a8]) (⟨(⟨p.l.kinds,p.l.most,p.l.tests⟩:Lab),(⟨p.m.houses,p.m.marks,p.m.fields,p.m.sales⟩:Market)⟩:Rd8):=Rd8.shut (x:=(⟨(⟨p.l.kinds,p.l.most,p.l.tests⟩:Lab),(⟨p.m.houses,p.m.marks,p.m.fields,p.m.sales⟩:Market)⟩:Rd8)) F (iC p.l.most) P aa ar bn fd
 refine Nt (a:=(⟨p.l,p.m⟩:Rd8)) (v:=.agg #[a3,iV p.l.most,a4,a5,a6,a7,a8]) fe fun H bl b8=>Ag rfl rfl (Arw (Ba Rd8.f_l Bxc rfl Zu b8 C) fun i3 ff=>Arw (Gz Zu ff) fun i4 fg=>Arv (Ce (Ach fg) Tryz.func14 ?_))
 refine Au _ (Ds eb fun gv gw cl ec=>Av (iV (Gh p.l)) (l_v (Hs) (l_k ec (Cw (fun aj=>?_) (fun aj=>?_)))))
 ·have hlf:Gh p.l=0:=Jr aj
  have er:=Jr aj
  refine Bf (Arw (Ba Rd8.f_m Bxc rfl Ln b8 C) fun i5 fh=>Arw (Gz Ln fh) fun i6 fi=>Arv (Ce (Acd fi) Tryz.func15 ?_))
  refine Au _ (Ds cl fun gx gy ed ef=>Av (iV (Cf p.m)) (l_v (Rf) (l_k ef (Cw (fun ak=>?_) (fun ak=>?_)))))
  ·have hmf:Cf p.m≠0:=Ls ak
   have es:=Ls ak
   refine Ai fun gz eg=>?_
   have hP:=Aey (by omega) ay bh hlf hmf
   refine Bf ?_
   have hy:Val H (.agg #[nS,iV 0,nS]) (⟨[],0,[]⟩:Lab):=Lab.shut (x:=(⟨[],0,[]⟩:Lab)) Gx (iC 0) Gx
   refine l_v (Dn (ns:=[1,1,1]) (vs:=[]) (zc:=Amk) (cs:=[nS,iV 0,nS]) Bxd Aph rfl ⟨Hw.2,ty3.2,Vi.2,trivial⟩ (EvB.map trivial) rfl) ?_
   have hz:Val H (.agg #[nS,nS,nS,nS]) (⟨[],[],[],[]⟩:Market):=Market.shut (x:=(⟨[],[],[],[]⟩:Market)) Gx Gx Gx Gx
   refine l_v (Dn (ns:=[1,1,1,1]) (vs:=[]) (zc:=Amj) (cs:=[nS,nS,nS,nS]) Bxa Apg rfl ⟨Hw.2,Hw.2,Se.2,Qn.2,trivial⟩ (EvB.map trivial) rfl) (Av (iV (Cf p.m)) (Ee (Li (i:=1) (vs:=[nS,iV 0,nS]) Zu.2 e rfl rfl rfl (Zh ⟨rfl,rfl,rfl,trivial⟩) rfl nL rfl ?_)))
   refine Ee (Li (i:=0) (vs:=[nS,nS,nS,nS]) Ln.2 g rfl rfl rfl (Zh ⟨rfl,rfl,rfl,rfl,trivial⟩) rfl nL rfl ?_)
   refine Au _ (Au _ (l_k eg (Aq ?_)))
   have eu:Val H (.agg #[nS,iV 0,nS]) (⟨[],0,[]⟩:Lab):=Lab.shut (x:=(⟨[],0,[]⟩:Lab)) Gx (iC 0) Gx
   have ev:Val H (.agg #[nS,nS,nS,nS]) (⟨[],[],[],[]⟩:Market):=Market.shut (x:=(⟨[],[],[],[]⟩:Market)) Gx Gx Gx Gx
   refine T _ _ _ _ _ [.agg #[nS,iV 0,nS],.agg #[nS,nS,nS,nS],iV 0,iV (Cf p.m)] ⟨Ez Zu.1 Zu.2 e (i:=1),Ez Ln.1 Ln.2 g (i:=0),rfl,rfl,trivial⟩ (Ghost.drop.trans Cag) ⟨Cam (Cam (Cam (Cam (Cam (Cam (Cam (Cam a2 N) U) V) W) X) Y) Z) bl,rfl,.agg #[nS,iV 0,nS],.agg #[nS,nS,nS,nS],eT (.tuple #[.agg #[nS,iV 0,nS],.agg #[nS,nS,nS,nS],iV 0,iV (Cf p.m)]) ?_,Val.cast ?_ eu,Val.cast ?_ ev⟩
   ·rw[hP]<;>rfl
   ·rw[hP]<;>rfl
   ·rw[hP]<;>rfl
  have hmf:Cf p.m=0:=Jh ak
  have es:=Jh ak
  refine Al (kk ed ?_)
  refine Ai fun fw dh=>?_
  have hP:=Ami (by omega) ay bh hlf hmf
  refine Px (Cu 0 (zT 1 7) rfl (Ba Rd8.f_l Bxc rfl Zu b8 C) fun i0 ew=>Cu 1 (zT 2 6) rfl (Gz Zu ew) fun fs ex=>Cu 2 (zT 3 5) rfl (Ba Rd8.f_m Bxc rfl Ln b8 C) fun i1 ey=>Cu 3 (zT 4 4) rfl (Gz Ln ey) fun ft ez=>?_)
  obtain⟨ab,ac,cr,ce,⟨hc,hd⟩,cf⟩:=Lab.open_ ex
  have ct:fs.cells=[ab,iV p.l.most,ac].toArray:=by rw[cr];rfl
  refine Oc 4 (zT 5 3) rfl (Li (i:=1) (vs:=[ab,iV p.l.most,ac]) Zu.2 e rfl ct rfl (Zh ⟨Val.single_l ce,rfl,Val.single_l cf,trivial⟩) rfl nL rfl ⟨Cal,?_⟩)
  obtain⟨ad,ae,af,ag,cu,cg,ch,ci,cj⟩:=Market.open_ ez
  have cv:ft.cells=[ad,ae,af,ag].toArray:=by rw[cu];rfl
  refine Oc 5 (zT 6 2) rfl (Li (i:=0) (vs:=[ad,ae,af,ag]) Ln.2 g rfl cv rfl (Zh ⟨Val.single_l cg,Val.single_l ch,Val.single_l ci,Val.single_l cj,trivial⟩) rfl nL rfl ⟨Cal,?_⟩)
  refine Dp 6 (zT 7 1) rfl (Cp rfl) (Dp 7 (zT 8 0) rfl (Cp rfl) (Ec rfl (kk dh ?_)))
  refine Aq ?_
  have f0:Val H (.agg #[ab,iV p.l.most,ac]) (⟨p.l.kinds,p.l.most,p.l.tests⟩:Lab):=Lab.shut (x:=(⟨p.l.kinds,p.l.most,p.l.tests⟩:Lab)) ce (iC p.l.most) cf
  have f2:Val H (.agg #[ad,ae,af,ag]) (⟨p.m.houses,p.m.marks,p.m.fields,p.m.sales⟩:Market):=Market.shut (x:=(⟨p.m.houses,p.m.marks,p.m.fields,p.m.sales⟩:Market)) cg ch ci cj
  refine T _ _ _ _ _ [.agg #[ab,iV p.l.most,ac],.agg #[ad,ae,af,ag],iV 0,iV 0] ⟨Ez Zu.1 Zu.2 e (i:=1),Ez Ln.1 Ln.2 g (i:=0),rfl,rfl,trivial⟩ (Ghost.drop.trans Cag) ⟨Cam (Cam (Cam (Cam (Cam (Cam (Cam (Cam a2 N) U) V) W) X) Y) Z) bl,rfl,.agg #[ab,iV p.l.most,ac],.agg #[ad,ae,af,ag],eT (.tuple #[.agg #[ab,iV p.l.most,ac],.agg #[ad,ae,af,ag],iV 0,iV 0]) ?_,Val.cast ?_ f0,Val.cast ?_ f2⟩
  ·rw[hP]<;>rfl
  ·rw[hP]<;>rfl
  ·rw[hP]<;>rfl
 have hlf:Gh p.l≠0:=Jq aj
 have er:=Jq aj
 refine Al (kk cl ?_)
 refine Gw fun fx fy he di=>Av (iV (Gh p.l)) (l_v (Rf) (l_k di (Co rfl (by rw[bne_iff_ne];exact hlf) (Ai fun fz dj=>?_))))
 have hP:=Arb (by omega) ay bh hlf
 refine Bf ?_
 have hm:Val H (.agg #[nS,iV 0,nS]) (⟨[],0,[]⟩:Lab):=Lab.shut (x:=(⟨[],0,[]⟩:Lab)) Gx (iC 0) Gx
 refine l_v (Dn (ns:=[1,1,1]) (vs:=[]) (zc:=Amk) (cs:=[nS,iV 0,nS]) Bxd Aph rfl ⟨Hw.2,ty3.2,Vi.2,trivial⟩ (EvB.map trivial) rfl) ?_
 have hn:Val H (.agg #[nS,nS,nS,nS]) (⟨[],[],[],[]⟩:Market):=Market.shut (x:=(⟨[],[],[],[]⟩:Market)) Gx Gx Gx Gx
 refine l_v (Dn (ns:=[1,1,1,1]) (vs:=[]) (zc:=Amj) (cs:=[nS,nS,nS,nS]) Bxa Apg rfl ⟨Hw.2,Hw.2,Se.2,Qn.2,trivial⟩ (EvB.map trivial) rfl) (Av (iV (Gh p.l)) (Ee (Li (i:=1) (vs:=[nS,iV 0,nS]) Zu.2 e rfl rfl rfl (Zh ⟨rfl,rfl,rfl,trivial⟩) rfl nL rfl ?_)))
 refine Ee (Li (i:=0) (vs:=[nS,nS,nS,nS]) Ln.2 g rfl rfl rfl (Zh ⟨rfl,rfl,rfl,rfl,trivial⟩) rfl nL rfl ?_)
 refine Au _ (Au _ (l_k dj (Aq ?_)))
 have f3:Val H (.agg #[nS,iV 0,nS]) (⟨[],0,[]⟩:Lab):=Lab.shut (x:=(⟨[],0,[]⟩:Lab)) Gx (iC 0) Gx
 have f4:Val H (.agg #[nS,nS,nS,nS]) (⟨[],[],[],[]⟩:Market):=Market.shut (x:=(⟨[],[],[],[]⟩:Market)) Gx Gx Gx Gx
 refine T _ _ _ _ _ [.agg #[nS,iV 0,nS],.agg #[nS,nS,nS,nS],iV 0,iV (Gh p.l)] ⟨Ez Zu.1 Zu.2 e (i:=1),Ez Ln.1 Ln.2 g (i:=0),rfl,rfl,trivial⟩ (Ghost.drop.trans Cag) ⟨Cam (Cam (Cam (Cam (Cam (Cam (Cam (Cam a2 N) U) V) W) X) Y) Z) bl,rfl,.agg #[nS,iV 0,nS],.agg #[nS,nS,nS,nS],eT (.tuple #[.agg #[nS,iV 0,nS],.agg #[nS,nS,nS,nS],iV 0,iV (Gh p.l)]) ?_,Val.cast ?_ f3,Val.cast ?_ f4⟩
 ·rw[hP]<;>rfl
 ·rw[hP]<;>rfl
 ·rw[hP]<;>rfl
theorem Auq{W0 ρ σ t}{l:Lab}{m:Market}{vl vm}(hg:GlobE ρ)(hnr:Jp σ)(rl:Val ρ vl l)(rm:Val ρ vm m):Agd (CY W0) 3 6 [.string (bs t),vl,vm] ρ σ (rP ρ σ bT):=by
 refine Bmi (n:=84) Tryz.func3 rfl rfl rfl rfl fun Q x b9=>w_q rfl rfl fun K1 k1=>Arv (Eb (v:=vl) rfl fun k2=>?_)
 refine Bb (a:=l) rl fun bq i f=>?_
 replace rm:=Val.mono i rm
 replace hg:=GlobE.mono i hg
 refine Arv (Eb (v:=vm) rfl fun k3=>?_)
 refine Bb (a:=m) rm fun bu j w=>?_
 replace hg:=GlobE.mono j hg
 replace f:=At.mono j f
 refine Au bF (Ary rfl rfl k1 fun K4 K5 k4 K=>Arw (Ax Zu rfl f) fun v6 r6=>Arv (Cm (vs:=[v6]) (Bmn r6) Tryz.func5 rfl rfl ⟨rfl,trivial⟩ fun w7 c1 c6 a4=>?_))
 obtain⟨G,J,W,a7⟩:=a4
 replace G:=G.symm;replace J:=J.symm;subst G J a7
 refine Av (.bool W) (Cn W (fun e=>?_) (fun e=>?_))
 ·refine Ap (gN rfl e) (Ap (gN rfl e) (l_v (Bt rfl e (v:=bT) rfl) (Av bT (Ap (gN rfl rfl) (Ap (gN rfl rfl) (Ap (gN rfl rfl) (l_v (Bt rfl rfl (v:=bT) rfl) (l_k K (Co rfl rfl (w_q rfl rfl fun K9 k9=>Arv (Bm (Aea (Adz hg.g hnr)) Tryz.func7 rfl rfl trivial ?_)))))))))))
  refine Au bT (l_k k9 (Aj (Cah (Cam i j)) (Aq (x _ _ _ (rT bT ?_)))))
  rfl
 refine Ak (gY rfl e) (Ax Ln rfl w) fun au ai=>Ae (gY rfl e) (Cm (vs:=[au]) (Brk ai) Tryz.func6 rfl rfl ⟨rfl,trivial⟩ fun bk bo c2 a0=>?_)
 obtain⟨F,H,D,a5⟩:=a0
 replace F:=F.symm;replace H:=H.symm;subst F H a5
 refine l_v (Bn rfl e (v:=.bool D) rfl) (Av (.bool D) (Cn D (fun b=>?_) (fun b=>?_)))
 ·refine Ap (gN rfl b) (Ap (gN rfl b) (Ap (gN rfl b) (l_v (Bt rfl b (v:=bT) rfl) (l_k K (Co rfl rfl (w_q rfl rfl fun az a8=>Arv (Bm (Aea (Adz hg.g hnr)) Tryz.func7 rfl rfl trivial ?_)))))))
  refine Au bT (l_k a8 (Aj (Cah (Cam i j)) (Aq (x _ _ _ (rT bT ?_)))))
  rfl
 refine l_M (.string (bs t)) (gY rfl b) rfl (Aa (gY rfl b) (Ga Bwz (p:=t) rfl) (Aa (gY rfl b) (Gl rfl rfl) (l_v (Bn rfl b (v:=.bool (decide ((t.length:Int)>2000))) rfl) (l_k K (Bu (t:=decide ((t.length:Int)>2000)) rfl (fun E=>?_) (fun E=>?_))))))
 ·have ah:=lZ2 E
  refine w_q rfl rfl fun b0 a9=>Arv (Bm (Aea (Adz hg.g hnr)) Tryz.func7 rfl rfl trivial ?_)
  refine Au bT (l_k a9 (Aj (Cah (Cam i j)) (Aq (x _ _ _ (rT bT ?_)))))
  rfl
 have ah:=lZ1 E
 refine Al (kk k4 ?_)
 refine w_q rfl rfl fun b1 aa=>Arw (Ax Zu rfl f) fun av aj=>Arw (Ax Ln rfl w) fun aw ak=>Arv (Cm (vs:=[av,aw]) (Bmv hg aj ak) Tryz.func8 rfl rfl ⟨rfl,rfl,trivial⟩ fun bl bp c3 a1=>?_)
 obtain⟨y,I,a6⟩:=a1
 replace I:=I.symm;subst I a6
 replace hg:=GlobE.mono y hg
 replace f:=At.mono y f
 replace w:=At.mono y w
 refine Av (.tuple #[.string (Pb l m),iV (Ow l m)]) (l_v (Bp (.string (Pb l m))) (l_v (Bp (iV (Ow l m))) (Au (.string (Pb l m)) (Au (iV (Ow l m)) (Arx rfl rfl aa fun b2 ab=>Arw (Ax Zu rfl f) fun be al=>Arw (Ax Ln rfl w) fun bf am=>Arv (Ce (Auy al am) Tryz.func9 ?_))))))
 refine Av (.tuple #[.string (Pb l m),iV (Ow l m)]) (l_v (Bp (.string (Pb l m))) (l_v (Bp (iV (Ow l m))) (Au (.string (Pb l m)) (Au (iV (Ow l m)) (Ary rfl rfl ab fun b3 b4 ac ad=>Av (.string (Pb l m)) (Av (.string (Pb l m)) (l_v (Aoq (p:=(Pb l m).data.toList) (q:=(Pb l m).data.toList) rfl rfl) (Av (.bool (((Pb l m).data.toList) != ((Pb l m).data.toList))) (l_M (iV (Ow l m)) (gY rfl (by simp)) rfl (l_M (iV (Ow l m)) (gY rfl (by simp)) rfl (Aa (gY rfl (by simp)) (Dg rfl rfl) (l_v (Bn rfl (by simp) (v:=.bool ((Ow l m) != (Ow l m))) rfl) (l_k ad (Cg rfl (by simp) (Al (kk ac ?_))))))))))))))))
 refine w_q rfl rfl fun b5 ae=>Av (.string (bs t)) (Arv (Cm (vs:=[.string (bs t)]) (Bmu (t:=t) hg hnr) Tryz.func10 rfl rfl ⟨rfl,trivial⟩ fun bm br c4 a2=>?_))
 obtain⟨X,O,R,T,ax,Y,B⟩:=a2
 replace O:=O.symm;subst O ax
 replace hg:=GlobE.mono X hg
 refine Av (.tuple #[R,T,iV ((Gb t).2.2.1),iV ((Gb t).2.2.2)]) (l_v (Bp R) (l_v (Bp T) (l_v (Bp (iV ((Gb t).2.2.1))) (l_v (Bp (iV ((Gb t).2.2.2))) (Arv (Ct Aph fun ba=>?_))))))
 refine Arv (Ct Apg fun bb=>?_)
 refine Bj (Cai Arz) (Cx rfl (Dv (v:=R) (a:=(Gb t).1) (c:=Amk) Zu rfl rfl Y rfl ?_))
 refine Bb (a:=(Gb t).1) Y fun bt L d=>?_
 replace hg:=GlobE.mono L hg
 replace B:=Val.mono L B
 refine Cx rfl (Dv (v:=T) (a:=(Gb t).2.1) (c:=Amj) Ln rfl rfl B rfl ?_)
 refine Bb (a:=(Gb t).2.1) B fun bv M h=>?_
 replace hg:=GlobE.mono M hg
 replace d:=At.mono M d
 refine Au (iV ((Gb t).2.2.1)) (Au (iV ((Gb t).2.2.2)) (Arx rfl rfl ae fun b6 af=>Av (.string (bs t)) (Arv (Cm (vs:=[.string (bs t)]) (Aux (t:=t) hnr) Tryz.func11 rfl rfl ⟨rfl,trivial⟩ fun bn bx c5 a3=>?_))))
 obtain⟨z,P,U,V,ay,Z,C⟩:=a3
 replace P:=P.symm;subst P ay
 replace hg:=GlobE.mono z hg
 replace d:=At.mono z d
 replace h:=At.mono z h
 refine Av (.tuple #[U,V,iV ((Gb t).2.2.1),iV ((Gb t).2.2.2)]) (l_v (Bp U) (l_v (Bp V) (l_v (Bp (iV ((Gb t).2.2.1))) (l_v (Bp (iV ((Gb t).2.2.2))) (Arv (Ct Aph fun bc=>?_))))))
 refine Arv (Ct Apg fun bd=>?_)
 refine Bj (Cai Arz) (Cx rfl (Dv (v:=U) (a:=(Gb t).1) (c:=Amk) Zu rfl rfl Z rfl ?_))
 refine Bb (a:=(Gb t).1) Z fun bz k N=>?_
 replace hg:=GlobE.mono k hg
 replace d:=At.mono k d
 replace h:=At.mono k h
 replace C:=Val.mono k C
 refine Cx rfl (Dv (v:=V) (a:=(Gb t).2.1) (c:=Amj) Ln rfl rfl C rfl ?_)
 refine Bb (a:=(Gb t).2.1) C fun c0 u an=>?_
 replace hg:=GlobE.mono u hg
 replace d:=At.mono u d
 replace h:=At.mono u h
 replace N:=At.mono u N
 refine Au (iV ((Gb t).2.2.1)) (Au (iV ((Gb t).2.2.2)) (Arx rfl rfl af fun b7 ag=>Arw (Ax Zu rfl d) fun bg ao=>Arw (Ax Zu rfl N) fun bh ap=>Arv (Ce (Ayq ao ap) Tryz.func12 ?_)))
 refine Av bT (Ak (gY rfl rfl) (Ax Ln rfl h) fun bi aq=>Ak (gY rfl rfl) (Ax Ln rfl an) fun bj ar=>Ae (gY rfl rfl) (Ce (Aow aq ar) Tryz.func13 ?_))
 refine l_v (Bt rfl rfl (v:=bT) rfl) (Av bT (l_M (iV ((Gb t).2.2.1)) (gY rfl rfl) rfl (l_M (iV ((Gb t).2.2.1)) (gY rfl rfl) rfl (Aa (gY rfl rfl) (Ek rfl rfl) (l_v (Bt rfl rfl (v:=.bool ((Gb t).2.2.1==(Gb t).2.2.1)) rfl) (Av (.bool ((Gb t).2.2.1==(Gb t).2.2.1)) (l_M (iV ((Gb t).2.2.2)) (gY rfl (by simp)) rfl (l_M (iV ((Gb t).2.2.2)) (gY rfl (by simp)) rfl (Aa (gY rfl (by simp)) (Ek rfl rfl) (l_v (Bt rfl (by simp) (v:=.bool ((Gb t).2.2.2==(Gb t).2.2.2)) rfl) (Av (.bool ((Gb t).2.2.2==(Gb t).2.2.2)) (Ae (gY rfl (by simp)) (Bm (Aea (Adz hg.g hnr)) Tryz.func7 rfl rfl trivial ?_)))))))))))))
 refine l_v (Bt rfl (by simp) (v:=bT) rfl) (Au bT (l_k ag (Aj (Cah (Cam (Cam (Cam (Cam (Cam (Cam (Cam (Cam i j) y) X) L) M) z) k) u)) (Aq (x _ _ _ (rT bT ?_))))))
 rfl
end
section
open Go Go.WideShapes Go.ChangeShapes Go.RowKit Go.Conc
theorem Bmf{H:Type}{enc:TypeId×Value→H}{W:World}{r:Go.Reach}{base t:Nat}{v:Value}{d:DataW H}{p:List MemPlace}(ht:Tryz.prog.underlying t=some .string)(hv:Value.okWide Tryz.prog W r base t v)(h:DataW.Trod enc Tryz.prog W 0 (fun _=>true) true t v d p):∃l:List UInt8,v = .string (bs l):=by
 obtain⟨s,rfl⟩:=okWide_string ht hv
 exact⟨s.data.toList,by rw[Aho]⟩
def Aiz:List (String×DataW Unit):=[("math/bits.deBruijn32tab",Rows.laid_math_bits_deBruijn32tab),("math/bits.deBruijn64tab",Rows.laid_math_bits_deBruijn64tab),("internal/strconv.uint64pow10",Rows.laid_internal_strconv_uint64pow10),("unicode/utf8.acceptRanges",Rows.laid_unicode_utf8_acceptRanges),("errors.errorType",Rows.laid_errors_errorType),("strconv.ErrRange",Rows.laid_strconv_ErrRange),("strconv.ErrSyntax",Rows.laid_strconv_ErrSyntax),("crocus/fake.can",Rows.laid_crocus_fake_can),("crocus/fake.over",Rows.laid_crocus_fake_over),("crocus/fake.views",Rows.laid_crocus_fake_views),("unicode/utf8.first",Rows.laid_unicode_utf8_first)]
def Bog:List (String×DataW Unit):=[("math/bits.deBruijn32tab",Rows.laid_math_bits_deBruijn32tab),("math/bits.deBruijn64tab",Rows.laid_math_bits_deBruijn64tab),("internal/strconv.uint64pow10",Rows.laid_internal_strconv_uint64pow10),("unicode/utf8.acceptRanges",Rows.laid_unicode_utf8_acceptRanges),("strconv.ErrRange",Rows.laid_strconv_ErrRange),("strconv.ErrSyntax",Rows.laid_strconv_ErrSyntax),("crocus/fake.over",Rows.laid_crocus_fake_over),("crocus/fake.views",Rows.laid_crocus_fake_views),("unicode/utf8.first",Rows.laid_unicode_utf8_first)]
theorem gViews:Tryz.prog.globalNamed "crocus/fake.views" = some 0:=by kernel_rfl
theorem tViews:(Tryz.prog.globals[0]?).map (·.type)=some 91:=by kernel_rfl
theorem gPow:Tryz.prog.globalNamed "internal/strconv.uint64pow10" = some 5:=by kernel_rfl
theorem tPow:(Tryz.prog.globals[5]?).map (·.type)=some 274:=by kernel_rfl
theorem gEt:Tryz.prog.globalNamed "errors.errorType" = some 1:=by kernel_rfl
theorem Alx{P W a l}(h:laidMet P (a::l) W):laidMet P [a] W:=by
 obtain⟨ps,⟨g,t,cs,c,p,q,d,e,f,i,j,rfl⟩,hn,hc⟩:=h
 exact⟨MemPlace.row ⟨g,0,none⟩ cs.size++p++[],⟨g,t,cs,c,p,[],d,e,f,i,rfl,rfl⟩,by rw[Za];exact(Apn.1 hn).1,fun b off hb=>hc b off (Uf _ (by rw[Za]at hb;exact hb))⟩
theorem Tm{P W a l}(h:laidMet P (a::l) W):laidMet P l W:=by
 obtain⟨ps,⟨g,t,cs,d,p,q,e,f,i,j,c,rfl⟩,hn,hc⟩:=h
 exact⟨q,c,(Apn.1 hn).2.1,fun b off hb=>hc b off (Pz _ hb)⟩
/-- What a variable of cells of one kind holds. -/
theorem Ane{H:Type}{enc:TypeId×Value→H}{W:World}{held:Bool}{n:Nat}{t:TypeId}(hc:Tryz.prog.cellsOf t=1){cs:List Value}{xs:List (DataW H×List MemPlace)}{vs:List Value}{ds:List (DataW H)}(hlen:cs.length=xs.length)(hv:vs.length=xs.length)
  (hf:∀i,i<xs.length→DataW.trod enc Tryz.prog W 0 (fun _=>true) held n t ((cs.drop (i*Tryz.prog.cellsOf t)).take (Tryz.prog.cellsOf t))=xs[i]?) (e:xs.map (·.1)=ds)
  (h1:∀(v d:_) (x:DataW H×List MemPlace) (i:Nat),DataW.trod enc Tryz.prog W 0 (fun _=>true) held n t [v]=some x→x.1=d→ds[i]?=some d→vs[i]?=some v):cs=vs:=by
 apply Awg
 intro i
 rcases Tc i xs.length with hi|hi
 ·have h:=hf i hi
  rw[hc,Ahr]at h
  have hd:(cs.drop i).take 1=[cs[i]'(by omega)]:=by rw[Bof (by omega)];rfl
  rw[hd,Sr hi]at h
  rw[Sr (by omega)]
  exact(h1 _ _ _ i h rfl (by rw[←e,Vl,Sr hi];rfl)).symm
 ·rw[Yd (by omega),Yd (by omega)]
theorem Bdv{s l}(h:s.data.toList=l):s=bs l:=by rw[←h];rfl
def powN:List Int:=[1,10,100,1000,10000,100000,1000000,10000000,100000000,1000000000,10000000000,100000000000,1000000000000,10000000000000,100000000000000,1000000000000000,10000000000000000,100000000000000000,1000000000000000000,10000000000000000000]
theorem Bor:powC=powN.map (Value.int .u64):=by kernel_rfl
theorem Awx{W}(h:laidMet Tryz.prog [("internal/strconv.uint64pow10",Rows.laid_internal_strconv_uint64pow10)] W):∃t fz,roW W 5=some (.cells powC.toArray t fz):=by
 obtain⟨ps,⟨g,t,cs,l,p,q,hg,ht,hv,hd,_,_⟩,_,_⟩:=h
 obtain rfl:=Option.some.inj (gPow.symm.trans hg)
 obtain rfl:=Option.some.inj (tPow.symm.trans ht)
 obtain⟨t',fz,hh⟩:=Zw hg hv
 obtain⟨xs,m,_,k,hcl,hl,hf⟩:=DataW.trod_array Tryz.underlying274 hd
 have a:xs.map (·.1)=powN.map fun z=>.lit (.int .u64 z):=by
  have:=congrArg Prod.fst k
  simp only[Rows.laid_internal_strconv_uint64pow10,DataW.agg.injEq]at this
  exact this.symm
 rw[show Tryz.prog.cellsOf 274=20 from by kernel_rfl]at hcl
 have hcs:cs.toList=powN.map (Value.int .u64):=by
  refine Ane (by kernel_rfl) (hcl.trans hl.symm) (by rw[hl];rfl) (fun i hi=>hf i (by rw[hl]at hi;exact hi)) a ?_
  intro v d x i hx hd' hi
  obtain⟨z,c,e,_⟩:=DataW.trod_int Byg hx
  rw[Vl]at hi ⊢
  cases hz:powN[i]? with
  | none=>rw[hz]at hi;cases hi
  | some y =>
   rw[hz]at hi
   subst e
   have b:(DataW.lit (.int .u64 z):DataW Unit)=d:=hd'
   rw[←b]at hi
   have f:y=z:=by simpa using hi
   have j:v = .int .u64 z:=by simpa using c
   rw[j,f];rfl
 have:cs=powC.toArray:=by apply Array.ext';rw[hcs,Bor]
 exact⟨t',fz,by rw[←this];exact Vz hh⟩
theorem Aps{W}(h:laidMet Tryz.prog [("crocus/fake.views",Rows.laid_crocus_fake_views)] W):∃t fz,roW W 0=some (.cells #[.string (bs Rb),.string (bs Nj),.string (bs wNo)] t fz):=by
 obtain⟨ps,⟨g,t,cs,l,p,q,hg,ht,hv,hd,_,_⟩,_,_⟩:=h
 obtain rfl:=Option.some.inj (gViews.symm.trans hg)
 obtain rfl:=Option.some.inj (tViews.symm.trans ht)
 obtain⟨t',fz,hh⟩:=Zw hg hv
 obtain⟨xs,m,_,k,hcl,hl,hf⟩:=DataW.trod_array Bzp hd
 have a:xs.map (·.1)=[Rb,Nj,wNo].map fun z=>.lit (.string z):=by
  have:=congrArg Prod.fst k
  simp only[Rows.laid_crocus_fake_views,DataW.agg.injEq]at this
  exact this.symm
 rw[show Tryz.prog.cellsOf 91=3 from by kernel_rfl]at hcl
 have hcs:cs.toList=[Rb,Nj,wNo].map fun z=>Value.string (bs z):=by
  refine Ane (by kernel_rfl) (hcl.trans hl.symm) (by rw[hl];rfl) (fun i hi=>hf i (by rw[hl]at hi;exact hi)) a ?_
  intro v d x i hx hd' hi
  obtain⟨z,c,e,_⟩:=DataW.trod_string Bwz hx
  rw[Vl]at hi ⊢
  cases hz:([Rb,Nj,wNo]:List (List UInt8))[i]? with
  | none=>rw[hz]at hi;cases hi
  | some y =>
   rw[hz]at hi
   subst e
   have b:(DataW.lit (.string z.data.toList):DataW Unit)=d:=hd'
   rw[←b]at hi
   have f:y=z.data.toList:=by simpa using hi
   have j:v = .string z:=by simpa using c
   rw[j,Bdv f.symm];rfl
 have:cs = #[.string (bs Rb),.string (bs Nj),.string (bs wNo)]:=by apply Array.ext';exact hcs
 exact⟨t',fz,by rw[←this];exact Vz hh⟩
def ofP(_:Program)(t:TypeId):TypeId:=t
abbrev Bvz:TypeId:=ofP Tryz.prog 85
abbrev Bqv:TypeId:=ofP Tryz.prog 218
theorem Bfi:(List.range Tryz.prog.types.size).all (fun ty=>!Tryz.prog.rowNamed ty [101,114,114,111,114]||ty==Bvz)=true:=by kernel_rfl
/-- The cells of a plain table. -/
def Bwv:DataW Unit→List Value
 | .agg ds=>ds.map fun d=>match d with | .lit (.int k z)=>.int k z|_=>undef
 | _=>[]
/-- The variables as the text lays them,the great table of utf8 with them. -/
noncomputable def doorE(os:Os):World:={World.doorLaid Tryz.prog 2000 os with heap:=(World.doorLaid Tryz.prog 2000 os).heap.setIfInBounds (gno 10) (.cells (Bwv Go.Pinned.utf8First).toArray (ofP Tryz.prog 306) (0,0))}
theorem Azb(os:Os)(args:Array Value):laidMetH Tryz.prog Aiz ((doorE os).forCall (fun _ _=>0) ⟨#[],args,[]⟩).memory :=
 laidMetH_of_parts3 (fuel:=8) (laidMet_of_run' 8 (by kernel_rfl) (by kernel_rfl)) (by kernel_rfl) (by kernel_rfl)
def Ayh(H:Type)(enc:TypeId×Value→H)(s:ChangeSpec)(fn:Func):World→Array Value→Prop :=
 fun w args=>(s.pre enc Tryz.prog fn [] false w args∧laidMetH Tryz.prog Aiz w)∧sizedMet enc Tryz.prog fn (OpenSpec.ofChange s) false w args
theorem Aoy{W}(h:handlesMet Tryz.prog [("errors.errorType",Rows.laid_errors_errorType)] W):∃t fz,roW W 1=some (.cells #[.iface 218 (.agg #[typeHandle Tryz.prog 85])] t fz):=by
 obtain⟨k,u,ty,e,f,g,i,j⟩:=h _ (Sl.2 rfl)
 have b:k=[101,114,114,111,114]:=(Option.some.inj e).symm
 subst b
 have c:u=Bqv:=(Option.some.inj ((show (Tryz.prog.cutTypes.find? (·.1 == "internal/reflectlite.rtype")).map (·.2)=some Bqv by kernel_rfl).symm.trans f)).symm
 subst c
 have a:=Tk.1 Bfi ty (Apo.2 g)
 rw[i]at a
 have d:ty=Bvz:=by simpa using a
 subst d
 obtain⟨t',fz,hh⟩:=Zw gEt j
 exact⟨t',fz,Vz hh⟩
theorem Amb{W}(h:W.ShapedOpen Tryz.prog):∃(z:Int) (t:TypeId) (fz:Nat×Nat),roW W 4=some (.cells #[.int .i64 z] t fz)∧I64 z:=by
 obtain⟨cs,b,c,d⟩:=h.1 (gno 4) #[.int .i64 0] 3 (lZ2 (by kernel_rfl)) (by kernel_rfl)
 obtain⟨ts,e,_,f⟩:=d (by kernel_rfl)
 have a:ts=[3]:=Option.some.inj (e.symm.trans (by kernel_rfl))
 subst a
 obtain⟨v,hv⟩:∃v,cs = #[v]:=by
  match cs,c with
  | ⟨[v]⟩,_=>exact⟨v,rfl⟩
 subst hv
 obtain⟨u,hu,hc⟩:=f 0 v rfl
 obtain rfl:3=u:=by simpa using hu
 unfold Cell.ok at hc
 rw[Bxr]at hc
 cases v with
 | int k n =>
  obtain⟨rfl,hn⟩:k = .i64∧IntKind.i64.has n:=hc
  refine⟨n,3,(0,0),Vz b,?_⟩
  simp[IntKind.has,IntKind.min,IntKind.max,IntKind.signed,IntKind.bits]at hn
  constructor<;>omega
 | _=>exact absurd hc id
theorem Alf{W}(hs:W.ShapedOpen Tryz.prog)(h:laidMetH Tryz.prog Aiz W):GlobE (roW W):=by
 have h':laidMet Tryz.prog Bog W∧handlesMet Tryz.prog [("errors.errorType",Rows.laid_errors_errorType),("crocus/fake.can",Rows.laid_crocus_fake_can)] W:=h
 have a:=Tm (Tm h'.1);have b:=Tm (Tm (Tm (Tm a)))
 have c:laidMetH Tryz.prog Bql W:=⟨Alx b,fun x hx=>h'.2 x (by rw[Sl.1 hx];exact lZ7 _ mC)⟩
 exact⟨Xc c,Aps (Alx (Tm b)),Awx (Alx a),Amb hs,Aoy fun x hx=>h'.2 x (by rw[Sl.1 hx];exact Aiq ..)⟩
/-- As law_liftY,with eleven variables laid. -/
theorem Awk{f r fn s}(os:Os)(started:os.Started)(H:Type)(enc:TypeId×Value→H)(hfn:Tryz.prog.funcs[f]?=some fn)(hvars:s.vars=[])(hres:fn.resultTypes = #[4])(hi:Tryz.prog.inits.idxOf? f=none)(hts:∀t∈fn.params.toList,Tryz.prog.readableRec t=true∧t<Tryz.prog.types.size)(hspec:∀ds:List (DataW H),ds.length=fn.params.toList.length→s.fn H ds={results:=[.lit (.bool true)],args:=ds})(witness:∃(w:World) (tape:Tape) (i:Input),w.os=os∧(w.forCall tape i).Shaped Tryz.prog∧i.vars=[]∧Input.okWide Tryz.prog (w.forCall tape i) .any w.heap.size f i∧Ayh H enc s fn (w.forCall tape i).memory i.args∧({}:Assume).holds Tryz.prog (lone (Frame.enter Tryz.prog f i.args .normal) [] (w.forCall tape i)))(walk:∀(W:World) (args:List Value) (ds:List (DataW H)) (ps:List MemPlace),(∀(j:Nat) t v,fn.params[j]?=some t→args.toArray[j]?=some v→∃b,Value.okWide Tryz.prog W .any b t v)→DataW.TrodAll enc Tryz.prog W 0 (fun _=>true) true fn.params.toList args ds ps →
   (DataW.weightsEach Tryz.prog fn.params.toList ds).all (·≤reachBytes)=true→GlobE (roW W)→Agd (CY W) f r args (roW W) [] (fun w ρ' σ'=>ρ'=roW W∧σ'=[]∧w = .bool true)):
  ReturnsInLeavingWide {} Tryz.checked os f .any (Ayh H enc s fn) (s.post enc Tryz.prog fn false true false false):=by
 refine returnsInLeavingWide_of_good (C:=Tryz.checked) Art started witness ?_
 intro w tape i _ hsh _ hok y _
 obtain⟨_,_,_,fn',n,_,_,_,_,z⟩:=hok
 have e:fn'=fn:=Option.some.inj (n.symm.trans hfn)
 subst e
 obtain⟨⟨⟨ds,gs,D,hw,_⟩,hL⟩,hz⟩:=y
 have hsz:=hz.weights hw
 have hw':=DataW.Whole.of_heap (w':=w.forCall tape i) (by rfl) hw
 have hL':=hL.of_heap (w':=w.forCall tape i) (by rfl)
 generalize w.forCall tape i=W at *
 obtain⟨p,q,hA,hV,hb,hnf,hnd⟩:=hw'
 have hV':DataW.TrodVars enc Tryz.prog W (fun _=>true) [] gs q:=by rw[←hvars];exact hV
 obtain⟨rfl,rfl⟩:=trodVars_none hV'
 simp only[Za]at hb
 replace hb:=hb.symm
 subst hb
 have hvt:s.plain.varTypes Tryz.prog=[]:=by unfold DataSpec.varTypes ChangeSpec.plain;rw[hvars];rfl
 rw[show (OpenSpec.ofChange s).bare.plain.varTypes Tryz.prog=[] from hvt,Za,Za]at hsz
 obtain⟨E,u⟩:=Sb hA
 have g:i.args.toList.toArray=i.args:=by simp
 have m:=walk W i.args.toList ds p (fun j t v c a=>⟨_,z j t v c (by rw[g]at a;exact a)⟩) hA hsz (Alf hsh hL')
 have d:DataW.Whole enc Tryz.prog fn'.params.toList s.vars false W i.args.toList ds [] p:=⟨p,[],hA,hV,by simp,hnf,hnd⟩
 have hlt:∀x∈p,x.block<W.heap.size:=fun x hx=>by simpa using d.lt x hx
 have hgo:=Aty (W0:=W) (Pst:=fun v W'=>s.post enc Tryz.prog fn' false true false false W i.args v W') m hi fun v ρ' σ' ⟨_,hσ,hv⟩=>⟨hσ,fun W' hbw=>by
  subst hv
  have er:(s.fn H (ds++[]))={results:=[.lit (.bool true)],args:=ds}:=by rw[Za];exact hspec ds u
  refine⟨ds,[],p,[],p,[],d,?_,?_,?_,hbw.frame _,fun h=>by cases h⟩
  ·rw[er,hres];exact trodAll_mk1 (shut_bool Byl true)
  ·rw[er];exact Oo hbw hts hlt hA
  ·rw[er,hvars];rfl⟩
 rw[g]at hgo
 obtain⟨M,B,o,w',t',c,a,k,l⟩:=Atw hgo Anl
 exact⟨M,B,o,w',t',c,a,k,l.mono fun v hp=>ChangeSpec.post_blind hp⟩
end
section
open Go Go.WideShapes Go.ChangeShapes Go.RowKit Go.Conc
set_option maxRecDepth 100000
theorem Afu(os:Os)(started:os.Started)(H:Type)(enc:TypeId×Value→H):ReturnsInLeavingWide {} Tryz.checked os 3 .any (Ayh H enc Rows.fakeTextsSpec Tryz.f3) (Rows.fakeTextsSpec.post enc Tryz.prog Tryz.f3 false true false false):=by
 refine Awk (r:=6) os started H enc Tryz.func3 rfl rfl (by kernel_rfl) (by decide) (fun ds hd=>?_)
  (ChangeSpec.witness_shaped (enc:=enc) (C:=Tryz.checked) (os:=os) (X:=fun w _=>laidMetH Tryz.prog Aiz w) false (doorE os) #[.string (ByteArray.mk #[]),.agg #[.slice none 0 0,.int .i64 0,.slice none 0 0],.agg #[.slice none 0 0,.slice none 0 0,.slice none 0 0,.slice none 0 0]] 8 rfl (World.shaped_of_RefB (by kernel_rfl) (by kernel_rfl)) (by kernel_rfl) (by kernel_rfl) (by kernel_rfl) (Azb os _)) ?_
 ·match ds,hd with
  | [d1,d2,d3],_=>rfl
 ·intro W a ds ps hv hA hw hg
  obtain⟨b,d⟩:=Sb hA
  match a,b,ds,d,hA with
  | [v1,v2,v3],_,[d1,d2,d3],_,⟨p1,q1,h1,⟨p2,q2,h2,⟨p3,q3,h3,_,_⟩,_⟩,_⟩ =>
   obtain⟨l,e⟩:=hv 0 9 v1 rfl rfl
   obtain⟨m,f⟩:=hv 1 25 v2 rfl rfl
   obtain⟨n,g⟩:=hv 2 29 v3 rfl rfl
   obtain⟨p,rfl⟩:=Bmf Bwz e h1
   obtain⟨q,i⟩:=Ajn Buz rfl Bxd f h2 (Anj hw (j:=1) rfl rfl)
   obtain⟨t,k⟩:=Ajn Buy rfl Bxa g h3 (Anj hw (j:=2) rfl rfl)
   exact Auq hg (fun c vs h=>by cases h) i k
theorem Aoz:Rows.FakeTextsSaid :=
 OpenClaim.holds_of_wide_leaving 3 Tryz.f3 rfl rfl rfl rfl rfl rfl rfl ⟨rfl,rfl,rfl,rfl,rfl⟩ rfl rfl rfl rfl rfl (by kernel_rfl) Tryz.func3 (by kernel_rfl)
  (lZ2 (by kernel_rfl)) (by unfold Func.isWrapper;first|(rw[if_pos (by decide +kernel)];kernel_rfl)|(rw[if_neg (by decide +kernel)];exact⟨rfl,rfl⟩))
  (fun os a H enc _=>Afu os a H enc)
theorem fakeTexts_holds:Rows.FakeTextsCardSaid :=
 Bgg .later [.data,.data,.data,.data,.handle,.sentinel,.sentinel,.funcs,.data,.widerDeep,.pinned] true (true,"f62f098b50a9b0519b9ff2612b7c8f54850af9b60849ba474db4661544edbe2d") true Aoz (by kernel_rfl) fakeTexts_row_tie rfl ⟨rfl,rfl⟩ (by kernel_rfl) rfl
  (fun f fn hf hfn=>by
   obtain rfl:f=3:=Option.some.inj ((show Tryz.prog.funcNamed "crocus/crocuslaw08.FakeTexts" = some 3 by kernel_rfl).symm.trans hf) |>.symm
   obtain rfl:fn=Tryz.f3:=(Option.some.inj (Tryz.func3.symm.trans hfn)).symm
   exact⟨by kernel_rfl,fun j t ht=>by
    have a:t=9∨t=25∨t=29:=by
     match j,ht with
     | 0,h=>exact .inl (Option.some.inj h).symm
     | 1,h=>exact .inr (.inl (Option.some.inj h).symm)
     | 2,h=>exact .inr (.inr ((Option.some.inj h).symm))
    rcases a with rfl|rfl|rfl
    ·exact(show Tryz.prog.wantsStandIn 9=false by kernel_rfl)
    ·exact(show Tryz.prog.wantsStandIn 25=false by kernel_rfl)
    ·exact(show Tryz.prog.wantsStandIn 29=false by kernel_rfl)⟩)
  (by kernel_rfl)
end
end Go.Proofs.YtninnkechkolnaaGreatDoor
