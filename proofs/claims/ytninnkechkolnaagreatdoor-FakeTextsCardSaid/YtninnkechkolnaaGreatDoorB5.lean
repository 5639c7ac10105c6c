/- Part 5 of what all laws of layer 8 need: a logic of programs that start goroutines, and what the functions yield. -/
import Derived.Test.YtninnkechkolnaaGreatDoorB4
set_option linter.unusedVariables false
set_option linter.unusedSimpArgs false
set_option maxRecDepth 100000
set_option maxHeartbeats 4000000
namespace Go.Proofs.YtninnkechkolnaaGreatDoor
section
open Go
theorem Auu{mn X ρ σ r hs s c0 c1 c2 vh c4 c5 c6 c7}(rh:Val ρ vh hs):CallsH (CX mn X) 147 #[pV r,.string s] ρ ((r,oC #[c0,c1,c2,vh,c4,c5,c6,c7] 101)::σ) (fun w ρ' σ'=>ρ'=ρ∧σ'=(r,oC #[c0,c1,c2,vh,c4,c5,c6,c7] 101)::σ∧w=iV (findI hs s)):=by
 refine Bq 12 [4] Tryz.func147 rfl fun Q a f=>w_q rfl rfl fun d b=>Au (iV 0) (Dr b fun e c=>Av (pV r) (l_v (Ck rfl) (l_v (Cb Bxo rfl rfl Ln.2 (by decide) rfl rfl) (l_v (Cb Bxa rfl rfl Hw.2 (by decide) rfl rfl) (Arv (Dt (i:=0) Hw.1 rfl rfl rfl ?_))))))
 refine Av _ (Arv (Ce (Ake rh) Bzr ?_))
 refine Au _ (l_k c (Aq (a ⟨rfl,rfl,rfl⟩)))
theorem Ays{W0 ρ σ r p vk vt vh vm vf vs gk gt gh gm gf gs n vw}(rw_:Val ρ vw (⟨n⟩:ELab))(hmo:I64 p.l.most)(hla:I64 p.last)(hB:RdB p 60001)(hk:Grow ρ 9 vk p.l.kinds gk)(ht:Grow ρ 46 vt p.l.tests gt)(hh:Grow ρ 9 vh p.m.houses gh)(hm:Grow ρ 9 vm p.m.marks gm)(hf:Grow ρ 51 vf p.m.fields gf)(hs:Grow ρ 54 vs p.m.sales gs):CallsH (CY W0) 120 #[pV r,.iface 262 vw] ρ ((r,oC #[vk,iV p.l.most,vt,vh,vm,vf,vs,iV p.last] 101)::(gk++(gt++(gh++(gm++(gf++(gs++σ))))))) (fun w ρ' σ'=>Ro.le ρ ρ'∧((∃f:Int,Iv p (.lab n) = .inl f∧f≠0∧w = .int .i64 f∧σ'=σ)∨∃(q:PSt) (gr:Own),Iv p (.lab n) = .inr q∧w=z0∧Ads ρ' r q gr∧σ'=gr++σ)):=by
 obtain⟨N,O⟩:=hmo
 obtain⟨L,M⟩:=hla
 obtain⟨F,G,H,I,J,K⟩:=hB
 refine Bq 151 [4] Byj rfl fun Q d P=>w_q rfl rfl fun v e=>Au (iV 0) (Ds e fun y z h i=>Av (.iface 262 vw) (l_k i (Ao (Cr fun B k=>l_v (Wh Bxv rfl rfl) (l_v (Bp bT) (l_v (Bp vw) (l_k k (Et (Cr fun C t=>Arv (Ct Abd fun R=>?_))))))))))
 refine Ee (Wd Btt rw_ ?_)
 refine Bb rw_ fun U a u=>?_
 replace hk:=Caj a hk
 replace ht:=Caj a ht
 replace hh:=Caj a hh
 replace hm:=Caj a hm
 replace hf:=Caj a hf
 replace hs:=Caj a hs
 refine l_k t (Bf (Av (pV r) (Arw (Ba ELab.f_most Bxv rfl ty3 u) fun T c=>?_)))
 have⟨D,E⟩:=At.rng c
 refine l_v (Eo ty3 c) (l_v (Ck rfl) (l_v (Cb Bxo rfl rfl Zu.2 (by decide) rfl rfl) (l_v (Cb Bxd rfl rfl ty3.2 (by decide) rfl rfl) (Ee (Cz (j:=0) ty3.2 rfl rfl rfl rfl nL ?_)))))
 refine Dr h fun x g=>Au (iV 0) (l_k g (Aq (d ⟨a,.inr ⟨(⟨⟨p.l.kinds,n,p.l.tests⟩,⟨p.m.houses,p.m.marks,p.m.fields,p.m.sales⟩,p.last⟩:PSt),_,rfl,rfl,⟨vk,vt,vh,vm,vf,vs,gk,gt,gh,gm,gf,gs,rfl,(by constructor<;>omega),(by constructor<;>omega),hk,ht,hh,hm,hf,hs⟩,Eq.trans (b:=(r,oC #[vk,iV n,vt,vh,vm,vf,vs,iV p.last] 101)::(gk++(gt++(gh++(gm++(gf++(gs++σ))))))) rfl (by simp only[lZ9,Wj,Zm])⟩⟩)))
theorem Ava{W0 ρ σ r p vk vt vh vm vf vs gk gt gh gm gf gs s vw}(rw_:Val ρ vw (⟨s⟩:EKind))(hmo:I64 p.l.most)(hla:I64 p.last)(hB:RdB p 60001)(hk:Grow ρ 9 vk p.l.kinds gk)(ht:Grow ρ 46 vt p.l.tests gt)(hh:Grow ρ 9 vh p.m.houses gh)(hm:Grow ρ 9 vm p.m.marks gm)(hf:Grow ρ 51 vf p.m.fields gf)(hs:Grow ρ 54 vs p.m.sales gs):CallsH (CY W0) 120 #[pV r,.iface 264 vw] ρ ((r,oC #[vk,iV p.l.most,vt,vh,vm,vf,vs,iV p.last] 101)::(gk++(gt++(gh++(gm++(gf++(gs++σ))))))) (fun w ρ' σ'=>Ro.le ρ ρ'∧((∃f:Int,Iv p (.kind s) = .inl f∧f≠0∧w = .int .i64 f∧σ'=σ)∨∃(q:PSt) (gr:Own),Iv p (.kind s) = .inr q∧w=z0∧Ads ρ' r q gr∧σ'=gr++σ)):=by
 obtain⟨Z,a0⟩:=hmo
 obtain⟨X,Y⟩:=hla
 obtain⟨P,R,T,U,V,W⟩:=hB
 refine Bq 151 [4] Byj rfl fun Q u a1=>w_q rfl rfl fun H v=>Au (iV 0) (Ds v fun J K y z=>Av (.iface 264 vw) (l_k z (Ao (Cr fun L B=>l_v (Hx Bxv rfl Abd (by decide) rfl) (l_v (Bp bF) (l_v (Bp _) (l_k B (Dy rfl (Cr fun M C=>l_v (Wh Bxx rfl rfl) (l_v (Bp bT) (l_v (Bp vw) (l_k C (Et (Cr fun N D=>Arv (Ct Adq fun k7=>?_)))))))))))))))
 refine Ee (Wd Btu rw_ ?_)
 refine Bb rw_ fun G c F=>?_
 replace hk:=Caj c hk
 replace ht:=Caj c ht
 replace hh:=Caj c hh
 replace hm:=Caj c hm
 replace hf:=Caj c hf
 replace hs:=Caj c hs
 refine l_k D (Oj ((r,oC #[vk,iV p.l.most,vt,vh,vm,vf,vs,iV p.last] 101)::[]) [0,1,2,3,4,5,6,7,8,9,12] (by kernel_rfl) rfl rfl (Df 0 zZ9 rfl ⟨Cal,sB⟩ rfl (Yld.o (Ah rfl)) (Df 1 Aka rfl ⟨Cal,sB⟩ rfl (Yld.o (Ah rfl)) (Df 2 Akb rfl ⟨Cal,sB⟩ rfl (Yld.o (Ck rfl)) (Df 3 Amg rfl ⟨Cal,sB⟩ rfl (Yld.o (Cb Bxo rfl rfl Zu.2 (by decide) rfl rfl)) (Df 4 Anu rfl ⟨Cal,sB⟩ rfl (Yld.o (Cb Bxd rfl rfl Hw.2 (by decide) rfl rfl)) (Df 5 Anv rfl ⟨Cal,sB⟩ rfl (Hv Hw.1 rfl mC rfl) (Ri 6 Anw rfl ⟨Cal,sB⟩ rfl (Qj (Ba EKind.f_name Bxx rfl ty9 F)) ⟨Cal,sB⟩ fun v9 h=>?_))))))))
 have O:s.data.toList.length<2^60:=At.slen h
 refine Fc 7 Anx rfl ⟨Cal,sB⟩ rfl (Yld.o (Fd ty9 h)) ⟨Cal,sB⟩ (Lp 8 Anz rfl rfl (Cj (xs:=[bs s.data.toList]) (vs:=[.string s]) Bwy ty9 zr9 (by decide) (Dk (os:=[.tmp 35]) ⟨rfl,trivial⟩) ⟨Fp (by first|omega|(simp only[lZ0,lZ3,lZ4,lZ6,lZ5]at *;omega)),trivial⟩ (by decide) fun g t n=>⟨⟨Cal,sB⟩,?_⟩))
 have k:Grow G 9 (.slice (some ⟨g,0,none⟩) 1 1) ([bs s.data.toList]:List ByteArray) [(g,oC t.toArray 9)]:=Bs n rfl (by decide)
 refine Pp k sB fun a2 a E=>?_
 replace hk:=Caj a hk
 replace ht:=Caj a ht
 replace hh:=Caj a hh
 replace hm:=Caj a hm
 replace hf:=Caj a hf
 replace hs:=Caj a hs
 refine Lg Asc (Lp 9 Ajy rfl rfl (Ge Bwy Bwy (Ab Bxs) nL hk E (by simp only[lZ0,lZ3,lZ4]at *;omega) fun i e d=>⟨⟨a,sB⟩,?_⟩))
 refine Fc 10 Ajz rfl ⟨a,sB⟩ rfl (Yld.o (Ck rfl)) ⟨Cal,sB⟩ (Fc 11 zZ5 rfl ⟨a,sB⟩ rfl (Yld.o (Cb Bxo rfl rfl Zu.2 (by decide) rfl rfl)) ⟨Cal,sB⟩ (Fc 12 zZ6 rfl ⟨a,sB⟩ rfl (Yld.o (Cb Bxd rfl rfl Hw.2 (by decide) rfl rfl)) ⟨Cal,sB⟩ (Lg Asd (Qg 13 zZ7 rfl rfl (Cz (j:=0) Hw.2 rfl rfl (Cak d) rfl nL ?_)))))
 refine Te rfl (kk y ?_)
 refine Cr fun I x=>Au (iV 0) (l_k x (Aq (u ⟨Cam c a,.inr ⟨(⟨⟨p.l.kinds++([bs s.data.toList]:List ByteArray),p.l.most,p.l.tests⟩,⟨p.m.houses,p.m.marks,p.m.fields,p.m.sales⟩,p.last⟩:PSt),_,rfl,rfl,⟨i,vt,vh,vm,vf,vs,e,gt,gh,gm,gf,gs,rfl,(by constructor<;>omega),(by constructor<;>omega),d,ht,hh,hm,hf,hs⟩,Eq.trans (b:=(r,oC #[i,iV p.l.most,vt,vh,vm,vf,vs,iV p.last] 101)::(e++(gt++(gh++(gm++(gf++(gs++σ))))))) rfl (by simp only[lZ9,Wj,Zm])⟩⟩)))
theorem Avd{W0 ρ σ r p vk vt vh vm vf vs gk gt gh gm gf gs t vw}(rw_:Val ρ vw (⟨t⟩:ETest))(hmo:I64 p.l.most)(hla:I64 p.last)(hB:RdB p 60001)(hk:Grow ρ 9 vk p.l.kinds gk)(ht:Grow ρ 46 vt p.l.tests gt)(hh:Grow ρ 9 vh p.m.houses gh)(hm:Grow ρ 9 vm p.m.marks gm)(hf:Grow ρ 51 vf p.m.fields gf)(hs:Grow ρ 54 vs p.m.sales gs):CallsH (CY W0) 120 #[pV r,.iface 256 vw] ρ ((r,oC #[vk,iV p.l.most,vt,vh,vm,vf,vs,iV p.last] 101)::(gk++(gt++(gh++(gm++(gf++(gs++σ))))))) (fun w ρ' σ'=>Ro.le ρ ρ'∧((∃f:Int,Iv p (.test t) = .inl f∧f≠0∧w = .int .i64 f∧σ'=σ)∨∃(q:PSt) (gr:Own),Iv p (.test t) = .inr q∧w=z0∧Ads ρ' r q gr∧σ'=gr++σ)):=by
 obtain⟨a3,a4⟩:=hmo
 obtain⟨a1,a2⟩:=hla
 obtain⟨V,W,X,Y,Z,a0⟩:=hB
 refine Bq 151 [4] Byj rfl fun Q u a5=>w_q rfl rfl fun L v=>Au (iV 0) (Ds v fun N O y z=>Av (.iface 256 vw) (l_k z (Ao (Cr fun P B=>l_v (Hx Bxv rfl Abd (by decide) rfl) (l_v (Bp bF) (l_v (Bp _) (l_k B (Dy rfl (Cr fun R C=>l_v (Hx Bxx rfl Adq (by decide) rfl) (l_v (Bp bF) (l_v (Bp _) (l_k C (Dy rfl (Cr fun T D=>l_v (Wh Bxz rfl rfl) (l_v (Bp bT) (l_v (Bp vw) (l_k D (Et (Cr fun U E=>Arv (Ct Ahn fun k8=>?_))))))))))))))))))))
 refine Ee (Wd Btr rw_ ?_)
 refine Bb rw_ fun K c I=>?_
 replace hk:=Caj c hk
 replace ht:=Caj c ht
 replace hh:=Caj c hh
 replace hm:=Caj c hm
 replace hf:=Caj c hf
 replace hs:=Caj c hs
 refine l_k E (Oj ((r,oC #[vk,iV p.l.most,vt,vh,vm,vf,vs,iV p.last] 101)::[]) [0,1,2,3,4,5,6,7,8,9,12] (by kernel_rfl) rfl rfl (Df 0 zZ9 rfl ⟨Cal,sB⟩ rfl (Yld.o (Ah rfl)) (Df 1 Aka rfl ⟨Cal,sB⟩ rfl (Yld.o (Ah rfl)) (Df 2 Akb rfl ⟨Cal,sB⟩ rfl (Yld.o (Ck rfl)) (Df 3 Amg rfl ⟨Cal,sB⟩ rfl (Yld.o (Cb Bxo rfl rfl Zu.2 (by decide) rfl rfl)) (Df 4 Anu rfl ⟨Cal,sB⟩ rfl (Yld.o (Cb Bxd rfl rfl Vi.2 (by decide) rfl rfl)) (Df 5 Anv rfl ⟨Cal,sB⟩ rfl (Hv Vi.1 rfl mC rfl) (Ri 6 Anw rfl ⟨Cal,sB⟩ rfl (Qj (Ba ETest.f_t Bxz rfl Um I)) ⟨Cal,sB⟩ fun a6 F=>Ri 7 Anx rfl ⟨Cal,sB⟩ rfl (Qj (Gz Um F)) ⟨Cal,sB⟩ fun J G=>Lp 8 Anz rfl rfl (Cj (xs:=[t]) (vs:=[J]) Bxg Um Ws (by decide) (Dk (os:=[.tmp 51]) ⟨rfl,trivial⟩) ⟨G,trivial⟩ (by decide) fun g n k=>⟨⟨Cal,sB⟩,?_⟩)))))))))
 have i:Grow K 46 (.slice (some ⟨g,0,none⟩) 1 1) ([t]:List FTest) [(g,oC n.toArray 46)]:=Bs k rfl (by decide)
 refine Pp i sB fun a7 a H=>?_
 replace hk:=Caj a hk
 replace ht:=Caj a ht
 replace hh:=Caj a hh
 replace hm:=Caj a hm
 replace hf:=Caj a hf
 replace hs:=Caj a hs
 refine Lg (Dz Ase) (Lp 9 Ajy rfl rfl (Ge Bxg Bxg (Ab Bzi) nL ht H (by simp only[lZ0,lZ3,lZ4]at *;omega) fun h e d=>⟨⟨a,sB⟩,?_⟩))
 refine Fc 10 Ajz rfl ⟨a,sB⟩ rfl (Yld.o (Ck rfl)) ⟨Cal,sB⟩ (Fc 11 zZ5 rfl ⟨a,sB⟩ rfl (Yld.o (Cb Bxo rfl rfl Zu.2 (by decide) rfl rfl)) ⟨Cal,sB⟩ (Fc 12 zZ6 rfl ⟨a,sB⟩ rfl (Yld.o (Cb Bxd rfl rfl Vi.2 (by decide) rfl rfl)) ⟨Cal,sB⟩ (Lg Asd (Qg 13 zZ7 rfl rfl (Cz (j:=0) Vi.2 rfl rfl (Cak d) rfl nL ?_)))))
 refine Te rfl (kk y ?_)
 refine Cr fun M x=>Au (iV 0) (l_k x (Aj (Cai (Dz Ase)) (Aj (Cai Asd) (Aq (u ⟨Cam c a,.inr ⟨(⟨⟨p.l.kinds,p.l.most,p.l.tests++([t]:List FTest)⟩,⟨p.m.houses,p.m.marks,p.m.fields,p.m.sales⟩,p.last⟩:PSt),_,rfl,rfl,⟨vk,h,vh,vm,vf,vs,gk,e,gh,gm,gf,gs,rfl,(by constructor<;>omega),(by constructor<;>omega),hk,d,hh,hm,hf,hs⟩,Eq.trans (b:=(r,oC #[vk,iV p.l.most,h,vh,vm,vf,vs,iV p.last] 101)::(gk++(e++(gh++(gm++(gf++(gs++σ))))))) rfl (by simp only[lZ9,Wj,Zm])⟩⟩)))))
theorem Bej{W0 ρ σ r p vk vt vh vm vf vs gk gt gh gm gf gs}(hmo:I64 p.l.most)(hla:I64 p.last)(hB:RdB p 60001)(hk:Grow ρ 9 vk p.l.kinds gk)(ht:Grow ρ 46 vt p.l.tests gt)(hh:Grow ρ 9 vh p.m.houses gh)(hm:Grow ρ 9 vm p.m.marks gm)(hf:Grow ρ 51 vf p.m.fields gf)(hs:Grow ρ 54 vs p.m.sales gs):CallsH (CY W0) 120 #[pV r,.iface 172 (.agg #[])] ρ ((r,oC #[vk,iV p.l.most,vt,vh,vm,vf,vs,iV p.last] 101)::(gk++(gt++(gh++(gm++(gf++(gs++σ))))))) (fun w ρ' σ'=>Ro.le ρ ρ'∧((∃f:Int,Iv p (.go) = .inl f∧f≠0∧w = .int .i64 f∧σ'=σ)∨∃(q:PSt) (gr:Own),Iv p (.go) = .inr q∧w=z0∧Ads ρ' r q gr∧σ'=gr++σ)):=by
 obtain⟨N,O⟩:=hmo
 obtain⟨L,M⟩:=hla
 obtain⟨F,G,H,I,J,K⟩:=hB
 refine Bq 151 [4] Byj rfl fun Q a P=>w_q rfl rfl fun t b=>Au (iV 0) (Ds b fun v x d e=>?_)
 refine Av (.iface 172 (.agg #[])) (l_k e (Ao (Cr fun y g=>l_v (Hx Bxv rfl Abd (by decide) rfl) (l_v (Bp bF) (l_v (Bp _) (l_k g (Dy rfl (Cr fun z h=>l_v (Hx Bxx rfl Adq (by decide) rfl) (l_v (Bp bF) (l_v (Bp _) (l_k h (Dy rfl (Cr fun B i=>l_v (Hx Bxz rfl Ahn (by decide) rfl) (l_v (Bp bF) (l_v (Bp _) (l_k i (Dy rfl (Cr fun C j=>l_v (Hx Bxw rfl Aou (by decide) rfl) (l_v (Bp bF) (l_v (Bp _) (l_k j (Dy rfl (Cr fun D k=>l_v (Hx Bya rfl Auj (by decide) rfl) (l_v (Bp bF) (l_v (Bp _) (l_k k (Dy rfl (Cr fun E n=>l_v (Hx Bye rfl Bbi (by decide) rfl) (l_v (Bp bF) (l_v (Bp _) (l_k n (Dy rfl (Al (kk d ?_))))))))))))))))))))))))))))))))))
 refine Cr fun u c=>Au (iV 0) (l_k c (Aq (a ⟨Cal,.inr ⟨(⟨⟨p.l.kinds,p.l.most,p.l.tests⟩,⟨p.m.houses,p.m.marks,p.m.fields,p.m.sales⟩,p.last⟩:PSt),_,rfl,rfl,⟨vk,vt,vh,vm,vf,vs,gk,gt,gh,gm,gf,gs,rfl,(by constructor<;>omega),(by constructor<;>omega),hk,ht,hh,hm,hf,hs⟩,Eq.trans rfl (by simp only[lZ9,Wj,Zm])⟩⟩)))
theorem Avb{W0 ρ σ r p vk vt vh vm vf vs gk gt gh gm gf gs mk s vw}(rw_:Val ρ vw (⟨mk,s⟩:EName))(hmo:I64 p.l.most)(hla:I64 p.last)(hB:RdB p 60001)(hk:Grow ρ 9 vk p.l.kinds gk)(ht:Grow ρ 46 vt p.l.tests gt)(hh:Grow ρ 9 vh p.m.houses gh)(hm:Grow ρ 9 vm p.m.marks gm)(hf:Grow ρ 51 vf p.m.fields gf)(hs:Grow ρ 54 vs p.m.sales gs):CallsH (CY W0) 120 #[pV r,.iface 266 vw] ρ ((r,oC #[vk,iV p.l.most,vt,vh,vm,vf,vs,iV p.last] 101)::(gk++(gt++(gh++(gm++(gf++(gs++σ))))))) (fun w ρ' σ'=>Ro.le ρ ρ'∧((∃f:Int,Iv p (.name mk s) = .inl f∧f≠0∧w = .int .i64 f∧σ'=σ)∨∃(q:PSt) (gr:Own),Iv p (.name mk s) = .inr q∧w=z0∧Ads ρ' r q gr∧σ'=gr++σ)):=by
 obtain⟨ag,ah⟩:=hmo
 obtain⟨ae,af⟩:=hla
 obtain⟨a8,a9,aa,ab,ac,ad⟩:=hB
 refine Bq 151 [4] Byj rfl fun Q y ai=>w_q rfl rfl fun K1 P=>Au (iV 0) (Ds P fun K2 K3 C V=>Av (.iface 266 vw) (l_k V (Ao (Cr fun K4 W=>l_v (Hx (z:=.agg #[z0]) Bxv rfl Abd (by decide) rfl) (l_v (Bp bF) (l_v (Bp _) (l_k W (Dy rfl (Cr fun K5 X=>l_v (Hx (z:=.agg #[.string (ByteArray.mk #[])]) Bxx rfl Adq (by decide) rfl) (l_v (Bp bF) (l_v (Bp _) (l_k X (Dy rfl (Cr fun K6 Y=>l_v (Hx (z:=.agg #[.string (ByteArray.mk #[]),nS,bF]) Bxz rfl Ahn (by decide) rfl) (l_v (Bp bF) (l_v (Bp _) (l_k Y (Dy rfl (Cr fun K7 Z=>l_v (Wh Bxw rfl rfl) (l_v (Bp bT) (l_v (Bp vw) (l_k Z (Et (Cr fun K8 k8=>Arv (Ct Aou fun k9=>?_)))))))))))))))))))))))))
 refine Ee (Wd (v:=vw) (a:=(⟨mk,s⟩:EName)) (c:=Bly) Btv rw_ ?_)
 refine Bb (a:=(⟨mk,s⟩:EName)) rw_ fun I g i=>?_
 replace hk:=Caj g hk
 replace ht:=Caj g ht
 replace hh:=Caj g hh
 replace hm:=Caj g hm
 replace hf:=Caj g hf
 replace hs:=Caj g hs
 refine Dr k8 fun a3 R=>Arw (Ba EName.f_mark Bxw rfl ty4 i) fun aj a0=>l_v (Nx ty4 rfl a0) (l_k R (Cw (t:=mk) (fun h=>?_) (fun h=>?_)))
 ·refine Oj ((r,oC #[vk,iV p.l.most,vt,vh,vm,vf,vs,iV p.last] 101)::[]) [0,1,2,3,4,5,6,7,8,9,12] (by kernel_rfl) rfl rfl (Df 0 zZ9 rfl ⟨Cal,sB⟩ rfl (Yld.o (Ah rfl)) (Df 1 Aka rfl ⟨Cal,sB⟩ rfl (Yld.o (Ah rfl)) (Df 2 Akb rfl ⟨Cal,sB⟩ rfl (Yld.o (Ck rfl)) (Df 3 Amg rfl ⟨Cal,sB⟩ rfl (Yld.o (Cb Bxo rfl rfl Ln.2 (by decide) rfl rfl)) (Df 4 Anu rfl ⟨Cal,sB⟩ rfl (Yld.o (Cb Bxa rfl rfl Hw.2 (by decide) rfl rfl)) (Df 5 Anv rfl ⟨Cal,sB⟩ rfl (Hv (v:=vm) Hw.1 rfl mC rfl) (Ri 6 Anw rfl ⟨Cal,sB⟩ rfl (Qj (Ba EName.f_name Bxw rfl ty9 i)) ⟨Cal,sB⟩ fun ak E=>?_)))))))
  have a6:s.data.toList.length<2^60:=At.slen E
  refine Fc 7 Anx rfl ⟨Cal,sB⟩ rfl (Yld.o (Fd ty9 E)) ⟨Cal,sB⟩ (Lp 8 Anz rfl rfl (Cj (α:=ByteArray) (xs:=[bs s.data.toList]) (vs:=[.string s]) Bwy ty9 zr9 (by decide) (Dk (os:=[.tmp 69]) ⟨rfl,trivial⟩) ⟨Fp (l:=s.data.toList) (by first|omega|(simp only[lZ0,lZ3,lZ4,lZ6,lZ5]at *;omega)),trivial⟩ (by decide) fun B N L=>⟨⟨Cal,sB⟩,?_⟩))
  have J:Grow I 9 (.slice (some ⟨B,0,none⟩) 1 1) ([bs s.data.toList]:List ByteArray) [(B,oC N.toArray 9)]:=Bs L rfl (by decide)
  refine Pp J sB fun am d a1=>?_
  replace hk:=Caj d hk
  replace ht:=Caj d ht
  replace hh:=Caj d hh
  replace hm:=Caj d hm
  replace hf:=Caj d hf
  replace hs:=Caj d hs
  refine Lg (Dz (Bv (Bv Ase))) (Lp 9 Ajy rfl rfl (Ge (gr:=gm) Bwy Bwy (Ab Bxs) nL hm a1 (by simp only[lZ0,lZ3,lZ4]at *;omega) fun G u k=>⟨⟨d,sB⟩,?_⟩))
  refine Fc 10 Ajz rfl ⟨d,sB⟩ rfl (Yld.o (Ck rfl)) ⟨Cal,sB⟩ (Fc 11 zZ5 rfl ⟨d,sB⟩ rfl (Yld.o (Cb Bxo rfl rfl Ln.2 (by decide) rfl rfl)) ⟨Cal,sB⟩ (Fc 12 zZ6 rfl ⟨d,sB⟩ rfl (Yld.o (Cb Bxa rfl rfl Hw.2 (by decide) rfl rfl)) ⟨Cal,sB⟩ (Lg Asd (Qg 13 zZ7 rfl rfl (Cz (j:=0) Hw.2 rfl rfl (Cak k) rfl nL ?_)))))
  refine Te rfl (kk C ?_)
  refine Cr fun a4 T=>Au (iV 0) (l_k T (Aj (Cai (Dz (Bv (Bv Ase)))) (Aj (Cai (Bv (Dz (Bv Ase)))) (Aj (Cai (Bv (Bv (Dz Ase)))) (Aj (Cai (Ea (Ea Asd))) (Aq (y ⟨Cam g d,.inr ⟨(⟨⟨p.l.kinds,p.l.most,p.l.tests⟩,⟨p.m.houses,p.m.marks++([bs s.data.toList]:List ByteArray),p.m.fields,p.m.sales⟩,p.last⟩:PSt),_,(by simp only[Iv];rw[h];rfl),rfl,⟨vk,vt,vh,G,vf,vs,gk,gt,gh,u,gf,gs,rfl,(by constructor<;>omega),(by constructor<;>omega),hk,ht,hh,k,hf,hs⟩,Eq.trans (b:=(r,oC #[vk,iV p.l.most,vt,vh,G,vf,vs,iV p.last] 101)::(gk++(gt++(gh++(u++(gf++(gs++σ))))))) rfl (by simp only[lZ9,Wj,Zm])⟩⟩)))))))
 refine Oj ((r,oC #[vk,iV p.l.most,vt,vh,vm,vf,vs,iV p.last] 101)::[]) [0,1,2,3,4,5,6,7,8,9,12] (by kernel_rfl) rfl rfl (Df 0 zZ9 rfl ⟨Cal,sB⟩ rfl (Yld.o (Ah rfl)) (Df 1 Aka rfl ⟨Cal,sB⟩ rfl (Yld.o (Ah rfl)) (Df 2 Akb rfl ⟨Cal,sB⟩ rfl (Yld.o (Ck rfl)) (Df 3 Amg rfl ⟨Cal,sB⟩ rfl (Yld.o (Cb Bxo rfl rfl Ln.2 (by decide) rfl rfl)) (Df 4 Anu rfl ⟨Cal,sB⟩ rfl (Yld.o (Cb Bxa rfl rfl Hw.2 (by decide) rfl rfl)) (Df 5 Anv rfl ⟨Cal,sB⟩ rfl (Hv (v:=vh) Hw.1 rfl mC rfl) (Ri 6 Anw rfl ⟨Cal,sB⟩ rfl (Qj (Ba EName.f_name Bxw rfl ty9 i)) ⟨Cal,sB⟩ fun al F=>?_)))))))
 have a7:s.data.toList.length<2^60:=At.slen F
 refine Fc 7 Anx rfl ⟨Cal,sB⟩ rfl (Yld.o (Fd ty9 F)) ⟨Cal,sB⟩ (Lp 8 Anz rfl rfl (Cj (α:=ByteArray) (xs:=[bs s.data.toList]) (vs:=[.string s]) Bwy ty9 zr9 (by decide) (Dk (os:=[.tmp 82]) ⟨rfl,trivial⟩) ⟨Fp (l:=s.data.toList) (by first|omega|(simp only[lZ0,lZ3,lZ4,lZ6,lZ5]at *;omega)),trivial⟩ (by decide) fun D O M=>⟨⟨Cal,sB⟩,?_⟩))
 have K:Grow I 9 (.slice (some ⟨D,0,none⟩) 1 1) ([bs s.data.toList]:List ByteArray) [(D,oC O.toArray 9)]:=Bs M rfl (by decide)
 refine Pp K sB fun an e a2=>?_
 replace hk:=Caj e hk
 replace ht:=Caj e ht
 replace hh:=Caj e hh
 replace hm:=Caj e hm
 replace hf:=Caj e hf
 replace hs:=Caj e hs
 refine Lg (Dz (Bv Ase)) (Lp 9 Ajy rfl rfl (Ge (gr:=gh) Bwy Bwy (Ab Bxs) nL hh a2 (by simp only[lZ0,lZ3,lZ4]at *;omega) fun H x n=>⟨⟨e,sB⟩,?_⟩))
 refine Fc 10 Ajz rfl ⟨e,sB⟩ rfl (Yld.o (Ck rfl)) ⟨Cal,sB⟩ (Fc 11 zZ5 rfl ⟨e,sB⟩ rfl (Yld.o (Cb Bxo rfl rfl Ln.2 (by decide) rfl rfl)) ⟨Cal,sB⟩ (Fc 12 zZ6 rfl ⟨e,sB⟩ rfl (Yld.o (Cb Bxa rfl rfl Hw.2 (by decide) rfl rfl)) ⟨Cal,sB⟩ (Lg Asd (Qg 13 zZ7 rfl rfl (Cz (j:=0) Hw.2 rfl rfl (Cak n) rfl nL ?_)))))
 refine Te rfl (kk C ?_)
 refine Cr fun a5 U=>Au (iV 0) (l_k U (Aj (Cai (Dz (Bv Ase))) (Aj (Cai (Bv (Dz Ase))) (Aj (Cai (Ea Asd)) (Aq (y ⟨Cam g e,.inr ⟨(⟨⟨p.l.kinds,p.l.most,p.l.tests⟩,⟨p.m.houses++([bs s.data.toList]:List ByteArray),p.m.marks,p.m.fields,p.m.sales⟩,p.last⟩:PSt),_,(by simp only[Iv];rw[h];rfl),rfl,⟨vk,vt,H,vm,vf,vs,gk,gt,x,gm,gf,gs,rfl,(by constructor<;>omega),(by constructor<;>omega),hk,ht,n,hm,hf,hs⟩,Eq.trans (b:=(r,oC #[vk,iV p.l.most,vt,H,vm,vf,vs,iV p.last] 101)::(gk++(gt++(x++(gm++(gf++(gs++σ))))))) rfl (by simp only[lZ9,Wj,Zm])⟩⟩))))))
theorem Atb{W0 ρ σ r p vk vt vh vm vf vs gk gt gh gm gf gs x h vw}(rw_:Val ρ vw (⟨x,h⟩:EField))(hmo:I64 p.l.most)(hla:I64 p.last)(hB:RdB p 60001)(hk:Grow ρ 9 vk p.l.kinds gk)(ht:Grow ρ 46 vt p.l.tests gt)(hh:Grow ρ 9 vh p.m.houses gh)(hm:Grow ρ 9 vm p.m.marks gm)(hf:Grow ρ 51 vf p.m.fields gf)(hs:Grow ρ 54 vs p.m.sales gs)(hnr:Jp σ):CallsH (CY W0) 120 #[pV r,.iface 258 vw] ρ ((r,oC #[vk,iV p.l.most,vt,vh,vm,vf,vs,iV p.last] 101)::(gk++(gt++(gh++(gm++(gf++(gs++σ))))))) (fun w ρ' σ'=>Ro.le ρ ρ'∧((∃f:Int,Iv p (.field x h) = .inl f∧f≠0∧w = .int .i64 f∧σ'=σ)∨∃(q:PSt) (gr:Own),Iv p (.field x h) = .inr q∧w=z0∧Ads ρ' r q gr∧σ'=gr++σ)):=by
 obtain⟨ap,aq⟩:=hmo
 obtain⟨an,ao⟩:=hla
 obtain⟨ag,ah,ai,aj,ak,al⟩:=hB
 refine Bq 151 [4] Byj rfl fun Q z ar=>w_q rfl rfl fun K1 L=>Au (iV 0) (Ds L fun K2 K3 T V=>Av (.iface 258 vw) (l_k V (Ao (Cr fun K4 W=>l_v (Hx Bxv rfl Abd (by decide) rfl) (l_v (Bp bF) (l_v (Bp _) (l_k W (Dy rfl (Cr fun K5 X=>l_v (Hx Bxx rfl Adq (by decide) rfl) (l_v (Bp bF) (l_v (Bp _) (l_k X (Dy rfl (Cr fun K6 Y=>l_v (Hx Bxz rfl Ahn (by decide) rfl) (l_v (Bp bF) (l_v (Bp _) (l_k Y (Dy rfl (Cr fun K7 Z=>l_v (Hx Bxw rfl Aou (by decide) rfl) (l_v (Bp bF) (l_v (Bp _) (l_k Z (Dy rfl (Cr fun K8 k8=>l_v (Wh Bya rfl rfl) (l_v (Bp bT) (l_v (Bp vw) (l_k k8 (Et (Cr fun K9 k9=>Arv (Ct Auj fun M=>?_))))))))))))))))))))))))))))))
 obtain⟨e,H,au,⟨av,aw⟩,⟨ax,ay⟩,⟨az,b0⟩,d,b1⟩:=EField.open_ rw_
 have I:vw.cells=[.string (((⟨x,h⟩:EField)).x.name),iV (((⟨x,h⟩:EField)).x.house),iV (((⟨x,h⟩:EField)).x.grows.low),iV (((⟨x,h⟩:EField)).x.grows.high),e,.string (((⟨x,h⟩:EField)).house)].toArray:=by rw[H];rfl
 refine Ee (Li (i:=0) ⟨_,Ab Bzu,rfl⟩ rfl rfl I rfl (Zh ⟨rfl,rfl,rfl,rfl,Val.single_l d,rfl,trivial⟩) rfl nL rfl ?_)
 refine Asa k9 fun ab N=>Ai fun ac O=>Aj (Cai (Dz (Dz (Bv Ase)))) ?_
 have aa:=rw_
 have a5:=hk
 have a8:=ht
 have a4:=hh
 have a6:=hm
 have a3:=hf
 have a7:=hs
 have a9:=d
 refine Ajg hh fun b3 c a0 E=>?_
 replace hk:=Caj c hk
 replace ht:=Caj c ht
 replace hh:=Caj c hh
 replace hm:=Caj c hm
 replace hf:=Caj c hf
 replace hs:=Caj c hs
 replace d:=Val.mono c d
 refine Bf (Av (pV r) (l_v (Cb Bya rfl rfl ty9.2 (by decide) rfl rfl) (Arv (Dt (i:=0) ty9.1 rfl rfl rfl ?_))))
 refine Bj (Cai Arz) ?_
 have am:=Aiy (l:=p.m.houses) (s:=((⟨x,h⟩:EField)).house)
 refine Arv (Fj (Auu (r:=r) (s:=((⟨x,h⟩:EField)).house) (hs:=p.m.houses) a0) Tryz.func147 ⟨rfl,rfl,trivial⟩ fun b2 b4 b6 J=>?_)
 obtain⟨k,n,K⟩:=J
 replace k:=k.symm;replace n:=n.symm;subst k n K
 refine l_v (Cb Bya rfl rfl Lo.2 (by decide) rfl rfl) (l_v (Cb Bxf rfl rfl ty3.2 (by decide) rfl rfl) (Ee (Cz (j:=1) ty3.2 rfl rfl rfl rfl nL ?_)))
 refine Asa O fun ad P=>Ajf E (Gv (Gv (Gp hk (Gp ht (Gp hm (Gp hf (Gp hs hnr))))))) ?_
 replace rw_:=aa
 replace hk:=a5
 replace ht:=a8
 replace hh:=a4
 replace hm:=a6
 replace hf:=a3
 replace hs:=a7
 replace d:=a9
 refine Bf (l_v (Cb Bya rfl rfl Lo.2 (by decide) rfl rfl) (l_v (Cb Bxf rfl rfl ty3.2 (by decide) rfl rfl) (Arv (Gu ty3.1 rfl (Pz _ (lZ7 _ mC)) rfl ?_))))
 refine l_v (Fk) (l_k P (Cw (fun g=>?_) (fun g=>?_)))
 ·have t:=lZ2 g
  refine Cr fun ae R=>Au (iV 6) (l_k R (Aj (drops hh.1) (Aj Cag (Aj Cag (Aj (drops hk.1) (Aj (drops ht.1) (Aj (drops hm.1) (Aj (drops hf.1) (Aj (drops hs.1) (Aq (z ⟨Cal,.inl ⟨_,App t,by decide,rfl,rfl⟩⟩)))))))))))
 have t:=lZ1 g
 refine Al (kk N ?_)
 refine Oj ((r,oC #[vk,iV p.l.most,vt,vh,vm,vf,vs,iV p.last] 101)::((M,oC #[.string (((⟨x,h⟩:EField)).x.name),iV (findI p.m.houses (((⟨x,h⟩:EField)).house)),iV (((⟨x,h⟩:EField)).x.grows.low),iV (((⟨x,h⟩:EField)).x.grows.high),e,.string (((⟨x,h⟩:EField)).house)] 258)::[])) [0,1,2,3,4,5,6,7,8,9,12] (by kernel_rfl) rfl rfl (Df 0 zZ9 rfl ⟨Cal,sB⟩ rfl (Yld.o (Ah rfl)) (Df 1 Aka rfl ⟨Cal,sB⟩ rfl (Yld.o (Ah rfl)) (Df 2 Akb rfl ⟨Cal,sB⟩ rfl (Yld.o (Ck rfl)) (Df 3 Amg rfl ⟨Cal,sB⟩ rfl (Yld.o (Cb Bxo rfl rfl Ln.2 (by decide) rfl rfl)) (Df 4 Anu rfl ⟨Cal,sB⟩ rfl (Yld.o (Cb Bxa rfl rfl Se.2 (by decide) rfl rfl)) (Df 5 Anv rfl ⟨Cal,sB⟩ rfl (Hv (v:=vf) Se.1 rfl mC rfl) (Fc 6 Anw rfl ⟨Cal,sB⟩ rfl (Yld.o (Cb Bya rfl rfl Lo.2 (by decide) rfl rfl)) ⟨Cal,sB⟩ (Fc 7 Anx rfl ⟨Cal,sB⟩ rfl (Ayc (cs:=[.string (((⟨x,h⟩:EField)).x.name),iV (findI p.m.houses (((⟨x,h⟩:EField)).house)),iV (((⟨x,h⟩:EField)).x.grows.low),iV (((⟨x,h⟩:EField)).x.grows.high),e]) (rs:=[.string (((⟨x,h⟩:EField)).house)]) Lo.1 Lo.2 rfl (lZ7 _ mC) rfl rfl) ⟨Cal,sB⟩ ?_))))))))
 have a1:Val ρ (.agg #[.string (((⟨x,h⟩:EField)).x.name),iV (findI p.m.houses (((⟨x,h⟩:EField)).house)),iV (((⟨x,h⟩:EField)).x.grows.low),iV (((⟨x,h⟩:EField)).x.grows.high),e]) (⟨((⟨x,h⟩:EField)).x.name,findI p.m.houses (((⟨x,h⟩:EField)).house),⟨((⟨x,h⟩:EField)).x.grows.low,((⟨x,h⟩:EField)).x.grows.high⟩,((⟨x,h⟩:EField)).x.marks⟩:FField):=FField.shut (show (((⟨x,h⟩:EField)).x.name).size<2^60 by omega) (iC (findI p.m.houses (((⟨x,h⟩:EField)).house))) (iC (((⟨x,h⟩:EField)).x.grows.low)) (iC (((⟨x,h⟩:EField)).x.grows.high)) d
 refine Lp 8 Anz rfl rfl (Cj (xs:=[(⟨((⟨x,h⟩:EField)).x.name,findI p.m.houses (((⟨x,h⟩:EField)).house),⟨((⟨x,h⟩:EField)).x.grows.low,((⟨x,h⟩:EField)).x.grows.high⟩,((⟨x,h⟩:EField)).x.marks⟩:FField)]) (vs:=[.agg #[.string (((⟨x,h⟩:EField)).x.name),iV (findI p.m.houses (((⟨x,h⟩:EField)).house)),iV (((⟨x,h⟩:EField)).x.grows.low),iV (((⟨x,h⟩:EField)).x.grows.high),e]]) Bxn Lo Xu (by decide) (Dk (os:=[.tmp 108]) ⟨rfl,trivial⟩) ⟨a1,trivial⟩ (by decide) fun B G F=>⟨⟨Cal,sB⟩,?_⟩)
 have D:Grow ρ 51 (.slice (some ⟨B,0,none⟩) 1 1) ([(⟨((⟨x,h⟩:EField)).x.name,findI p.m.houses (((⟨x,h⟩:EField)).house),⟨((⟨x,h⟩:EField)).x.grows.low,((⟨x,h⟩:EField)).x.grows.high⟩,((⟨x,h⟩:EField)).x.marks⟩:FField)]:List FField) [(B,oC G.toArray 51)]:=Bs F rfl (by decide)
 refine Pp D sB fun b5 a a2=>?_
 replace hk:=Caj a hk
 replace ht:=Caj a ht
 replace hh:=Caj a hh
 replace hm:=Caj a hm
 replace hf:=Caj a hf
 replace hs:=Caj a hs
 refine Lg (Bv (Dz (Dz (Bv (Bv Ase))))) (Lp 9 Ajy rfl rfl (Ge Bxn Bxn (Ab Bzj) nL hf a2 (by simp only[lZ0,lZ3,lZ4]at *;omega) fun C y u=>⟨⟨a,sB⟩,?_⟩))
 refine Fc 10 Ajz rfl ⟨a,sB⟩ rfl (Yld.o (Ck rfl)) ⟨Cal,sB⟩ (Fc 11 zZ5 rfl ⟨a,sB⟩ rfl (Yld.o (Cb Bxo rfl rfl Ln.2 (by decide) rfl rfl)) ⟨Cal,sB⟩ (Fc 12 zZ6 rfl ⟨a,sB⟩ rfl (Yld.o (Cb Bxa rfl rfl Se.2 (by decide) rfl rfl)) ⟨Cal,sB⟩ (Lg (Ea Asd) (Qg 13 zZ7 rfl rfl (Cz (j:=0) Se.2 rfl rfl (Cak u) rfl nL ?_)))))
 refine Te rfl (kk T ?_)
 refine Cr fun af U=>Au (iV 0) (l_k U (Aj (Cai (Iq (Ea Asd))) (Aj Cag (Aj (Cai (Dz (Bv (Bv (Bv Ase))))) (Aj (Cai (Bv (Dz Ase))) (Aj (Cai (Bv (Bv (Dz (Bv Ase))))) (Aj (Cai (Bv (Bv (Bv (Dz Ase))))) (Aj (Cai (Ea (Ea (Ea Asd)))) (Aq (z ⟨a,.inr ⟨(⟨⟨p.l.kinds,p.l.most,p.l.tests⟩,⟨p.m.houses,p.m.marks,p.m.fields++([(⟨((⟨x,h⟩:EField)).x.name,findI p.m.houses (((⟨x,h⟩:EField)).house),⟨((⟨x,h⟩:EField)).x.grows.low,((⟨x,h⟩:EField)).x.grows.high⟩,((⟨x,h⟩:EField)).x.marks⟩:FField)]:List FField),p.m.sales⟩,p.last⟩:PSt),_,Axk t,rfl,⟨vk,vt,vh,vm,C,vs,gk,gt,gh,gm,y,gs,rfl,(by constructor<;>omega),(by constructor<;>omega),hk,ht,hh,hm,u,hs⟩,Eq.trans (b:=(r,oC #[vk,iV p.l.most,vt,vh,vm,C,vs,iV p.last] 101)::(gk++(gt++(gh++(gm++(y++(gs++σ))))))) rfl (by simp only[lZ9,Wj,Zm])⟩⟩))))))))))
theorem Avc{W0 ρ σ r p vk vt vh vm vf vs gk gt gh gm gf gs n l vw}(rw_:Val ρ vw (⟨n,l⟩:ESale))(hmo:I64 p.l.most)(hla:I64 p.last)(hB:RdB p 60001)(hk:Grow ρ 9 vk p.l.kinds gk)(ht:Grow ρ 46 vt p.l.tests gt)(hh:Grow ρ 9 vh p.m.houses gh)(hm:Grow ρ 9 vm p.m.marks gm)(hf:Grow ρ 51 vf p.m.fields gf)(hs:Grow ρ 54 vs p.m.sales gs)(hnr:Jp σ)(hnl:l.length≤60001):CallsH (CY W0) 120 #[pV r,.iface 260 vw] ρ ((r,oC #[vk,iV p.l.most,vt,vh,vm,vf,vs,iV p.last] 101)::(gk++(gt++(gh++(gm++(gf++(gs++σ))))))) (fun w ρ' σ'=>Ro.le ρ ρ'∧((∃f:Int,Iv p (.sale n l) = .inl f∧f≠0∧w = .int .i64 f∧σ'=σ)∨∃(q:PSt) (gr:Own),Iv p (.sale n l) = .inr q∧w=z0∧Ads ρ' r q gr∧σ'=gr++σ)):=by
 obtain⟨c4,c5⟩:=hmo
 obtain⟨c2,c3⟩:=hla
 obtain⟨bt,bu,bv,bx,bz,c0⟩:=hB
 refine Bq 151 [4] Byj rfl fun Q R c6=>w_q rfl rfl fun K1 k1=>Au (iV 0) (Ds k1 fun K2 K3 k2 k3=>?_)
 refine Av (.iface 260 vw) (l_k k3 (Ao (Cr fun K4 k4=>l_v (Hx Bxv rfl Abd (by decide) rfl) (l_v (Bp bF) (l_v (Bp _) (l_k k4 (Dy rfl (Cr fun K5 k5=>l_v (Hx Bxx rfl Adq (by decide) rfl) (l_v (Bp bF) (l_v (Bp _) (l_k k5 (Dy rfl (Cr fun K6 k6=>l_v (Hx Bxz rfl Ahn (by decide) rfl) (l_v (Bp bF) (l_v (Bp _) (l_k k6 (Dy rfl (Cr fun K7 k7=>l_v (Hx Bxw rfl Aou (by decide) rfl) (l_v (Bp bF) (l_v (Bp _) (l_k k7 (Dy rfl (Cr fun K8 k8=>l_v (Hx Bya rfl Auj (by decide) rfl) (l_v (Bp bF) (l_v (Bp _) (l_k k8 (Dy rfl (Cr fun K9 k9=>l_v (Wh Bye rfl rfl) (l_v (Bp bT) (l_v (Bp vw) (l_k k9 (Et (Cr fun ba ac=>Arv (Ct Bbi fun c7=>?_))))))))))))))))))))))))))))))))))
 refine Ee (Wd Bts rw_ ?_)
 refine Bb rw_ fun a0 h X=>?_
 replace hk:=Caj h hk
 replace ht:=Caj h ht
 replace hh:=Caj h hh
 replace hm:=Caj h hm
 replace hf:=Caj h hf
 replace hs:=Caj h hs
 refine Dr ac fun bb ad=>Arw (Ba ESale.f_grams Bye rfl ty3 X) fun cc Y=>?_
 have⟨bo,bp⟩:=At.rng Y
 refine l_v (Eo ty3 Y) ?_
 have cb:Val a0 (.agg #[iV n,nS]) (⟨n,[]⟩:Sale):=Sale.shut (iC n) Gx
 refine l_v (Dn (ns:=[1,1]) (vs:=[(0,(iV n))]) (zc:=Akd) (cs:=[iV n,nS]) Bxm Agb rfl ⟨ty3.2,Vh.2,trivial⟩ (EvB.map ⟨⟨rfl,rfl⟩,trivial⟩) ((Be (cs:=[iV n]) rfl rfl nL).trans rfl)) (Arv (Ct Agb fun I=>?_))
 refine Ee (Li (i:=0) Up.2 rfl rfl rfl rfl (Zh ⟨rfl,rfl,trivial⟩) rfl nL rfl ?_)
 refine Ds ad fun bc bd ae af=>Arw (Ba ESale.f_sellers Bye rfl Hw X) fun cd aq=>Arw (Gz Hw aq) fun b7 g=>?_
 have bq:=Can g
 refine l_v (Pc (el:=9) Bwy g) (Av (iV 0) (l_k af (Ao (Cc (fun mm ee dd ρ' σ'=>∃(i:Nat) (nv:List Int) (u:Value) (J:Own),(l.length-i)=mm∧[]=dd∧Ro.le a0 ρ'∧(J++((I,oC #[iV n,u] 54)::((r,oC #[vk,iV p.l.most,vt,vh,vm,vf,vs,iV p.last] 101)::(gk++(gt++(gh++(gm++(gf++(gs++σ)))))))))=σ'∧ee 0=pV r∧ee 11=pV I∧ee 121=b7∧ee 122=(iV (l.length:Int))∧ee 123=iV i∧(i≤l.length)∧(Hy (Nq p.m) ((wl l).take i)=some nv)∧(nv.length≤i)∧Grow ρ' 3 u nv J∧True) (m:=_) ⟨0,[],nS,[],rfl,rfl,Cal,rfl,rfl,rfl,rfl,rfl,rfl,Hz _,rfl,Lb _,Hm,trivial⟩ ?_))))
 rintro c8 bn _ b9 _ ⟨i,nv,u,J,rfl,rfl,e,rfl,y,z,O,P,E,c9,W,ca,c,_⟩
 replace hk:=Caj e hk
 replace ht:=Caj e ht
 replace hh:=Caj e hh
 replace hm:=Caj e hm
 replace hf:=Caj e hf
 replace hs:=Caj e hs
 replace g:=Val.mono e g
 refine Cr fun be ag=>l_v (Da E P) (Asa ag fun bf ah=>Bu (t:=decide ((i:Int)<(l.length:Int))) rfl (fun C=>?_) (fun C=>?_))
 ·have ap:=lZ2 C
  refine Al (kk ah ?_)
  refine Ai fun bg ai=>Ao (Cr fun bh aj=>?_)
  obtain⟨d,F⟩:=Ed (xs:=l) (i:=i) (by omega)
  refine Arw (Ch i Bwy ty9 O g E rfl F) fun ce B=>?_
  have br:d.data.toList.length<2^60:=At.slen B
  refine l_v (Fd ty9 B) (Au _ (Asa aj fun bi ak=>Aj (Cai (Bv (Dz (Dz (Bv Ase))))) ?_))
  have b1:=hk
  have b4:=ht
  have b0:=hh
  have b2:=hm
  have az:=hf
  have b3:=hs
  have b5:=g
  have ay:=c
  have b6:=B
  refine Ajg hh fun cg k ar a4=>?_
  replace hk:=Caj k hk
  replace ht:=Caj k ht
  replace hh:=Caj k hh
  replace hm:=Caj k hm
  replace hf:=Caj k hf
  replace hs:=Caj k hs
  replace g:=Val.mono k g
  replace c:=Caj k c
  refine Bf (l_v (Ah y) (Av (.string d) (Bj (Cai (Ea Arz)) ?_)))
  have c1:=Aiy (l:=p.m.houses) (s:=d)
  refine Arv (Fj (Auu (r:=r) (s:=d) (hs:=p.m.houses) ar) Tryz.func147 ⟨rfl,rfl,trivial⟩ fun cf ch ck aa=>?_)
  obtain⟨G,H,ab⟩:=aa
  replace G:=G.symm;replace H:=H.symm;subst G H ab
  refine Au _ (Asa ak fun bj al=>Ai fun bk am=>Ajf a4 (Gv (Gp c (Gv (Gp hk (Gp ht (Gp hm (Gp hf (Gp hs hnr)))))))) ?_)
  replace hk:=b1
  replace ht:=b4
  replace hh:=b0
  replace hm:=b2
  replace hf:=az
  replace hs:=b3
  replace g:=b5
  replace c:=ay
  replace B:=b6
  refine Bf (Av (iV (findI p.m.houses d)) (l_v (Fk) (l_k am (Cw (fun D=>?_) (fun D=>?_)))))
  ·have K:=lZ2 D
   refine Cr fun bl an=>Au (iV 6) (l_k an (Aj (drops hh.1) (Aj Cag (Aj (drops c.1) (Aj Cag (Aj (drops hk.1) (Aj (drops ht.1) (Aj (drops hm.1) (Aj (drops hf.1) (Aj (drops hs.1) (Aq (R ⟨Cam h e,.inl ⟨_,Atx F K,by decide,rfl,rfl⟩⟩))))))))))))
  have K:=lZ1 D
  refine Al (kk al ?_)
  refine Bf (l_v (Cb Bxm rfl rfl Vh.2 (by decide) z rfl) (Arv (Gu (v:=u) Vh.1 rfl (Pz _ (lZ7 _ (Pz _ mC))) rfl ?_)))
  refine Av (iV (findI p.m.houses d)) (Arv (Cj (xs:=[findI p.m.houses d]) (vs:=[iV (findI p.m.houses d)]) Bxj ty3 zr3 (by decide) (Dk (os:=[.tmp 134]) ⟨rfl,trivial⟩) ⟨Cv.2 ⟨rfl,by constructor<;>omega⟩,trivial⟩ (by decide) fun T a7 a5=>?_))
  have a2:Grow b9 3 (.slice (some ⟨T,0,none⟩) 1 1) ([findI p.m.houses d]:List Int) [(T,oC a7.toArray 3)]:=Bs a5 rfl (by decide)
  refine Ca a2 fun ci V au=>?_
  replace c:=Caj V c
  refine Bj (Cai (Bv Asc)) (Arv (Ge Bxj Bxj (Ab Bzc) nL c au (by simp only[lZ0,lZ3,lZ4]at *;omega) fun b8 a9 L=>?_))
  refine l_v (Cb Bxm rfl rfl Vh.2 (by decide) z rfl) (Bj (Cai (Ea (Ea Arz))) (Ee (Cz (j:=0) Vh.2 rfl rfl (Cak L) rfl nL ?_)))
  refine l_k ai (Bf (l_v (Br E rfl wrE) (Av (iV ((i+1):Nat)) (Bj (Cai (Dz (Bv (Bv (Dz Ase))))) (Bj (Cai (Bv (Dz (Bv (Bv Asc))))) (Bj (Cai (Ea (Ea (Iq (Ea Asd))))) (Bj (Cai (Iq (Ea Asd))) (Bj (Cai (Dz (Dz (Bv Ase)))) (Ac ?_)))))))))
  refine⟨_,?_,(i+1),(nv++([findI p.m.houses d]:List Int)),b8,a9,rfl,rfl,(Cam e V),rfl,y,z,O,P,rfl,(by omega),(Azp W F K),(by rw[lZ0];simp only[lZ3,lZ4];omega),(Fy rfl L),trivial⟩
  omega
 have ap:=lZ1 C
 refine Bx (kk ae ?_)
 refine Hc c fun a1 x av=>?_
 replace hk:=Caj x hk
 replace ht:=Caj x ht
 replace hh:=Caj x hh
 replace hm:=Caj x hm
 replace hf:=Caj x hf
 replace hs:=Caj x hs
 refine Oj ((I,oC #[iV n,u] 54)::((r,oC #[vk,iV p.l.most,vt,vh,vm,vf,vs,iV p.last] 101)::[])) [0,1,2,3,4,5,6,7,8,11] (by kernel_rfl) rfl rfl (Df 0 Aoe rfl ⟨Cal,sB⟩ rfl (Yld.o (Ah y)) (Df 1 (zT 2 11) rfl ⟨Cal,sB⟩ rfl (Yld.o (Ah y)) (Df 2 (zT 3 10) rfl ⟨Cal,sB⟩ rfl (Yld.o (Ck rfl)) (Df 3 (zT 4 9) rfl ⟨Cal,sB⟩ rfl (Yld.o (Cb Bxo rfl rfl Ln.2 (by decide) rfl rfl)) (Df 4 (zT 5 8) rfl ⟨Cal,sB⟩ rfl (Yld.o (Cb Bxa rfl rfl Qn.2 (by decide) rfl rfl)) (Df 5 (zT 6 7) rfl ⟨Cal,sB⟩ rfl (Hv (v:=vs) Qn.1 rfl (lZ7 _ mC) rfl) (Fc 6 (zT 7 6) rfl ⟨Cal,sB⟩ rfl (Ayc (cs:=[iV n,u]) (rs:=[]) Up.1 Up.2 z mC rfl rfl) ⟨Cal,sB⟩ ?_)))))))
 have aw:Val a1 (.agg #[iV n,u]) (⟨n,nv⟩:Sale):=Sale.shut (iC n) av
 refine Lp 7 (zT 8 5) rfl rfl (Cj (xs:=[(⟨n,nv⟩:Sale)]) (vs:=[.agg #[iV n,u]]) Bxk Up Agb (by decide) (Dk (os:=[.tmp 145]) ⟨rfl,trivial⟩) ⟨aw,trivial⟩ (by decide) fun U a8 a6=>⟨⟨Cal,sB⟩,?_⟩)
 have a3:Grow a1 54 (.slice (some ⟨U,0,none⟩) 1 1) ([(⟨n,nv⟩:Sale)]:List Sale) [(U,oC a8.toArray 54)]:=Bs a6 rfl (by decide)
 refine Pp a3 sB fun cj a ax=>?_
 replace hk:=Caj a hk
 replace ht:=Caj a ht
 replace hh:=Caj a hh
 replace hm:=Caj a hm
 replace hf:=Caj a hf
 replace hs:=Caj a hs
 refine Lg (Dz (Dz (Bv (Bv (Bv (Bv Ase)))))) (Lp 8 (zT 9 4) rfl rfl (Ge Bxk Bxk (Ab Bzk) nL hs ax (by simp only[lZ0,lZ3,lZ4]at *;omega) fun Z N M=>⟨⟨a,sB⟩,?_⟩))
 refine Fc 9 (zT 10 3) rfl ⟨a,sB⟩ rfl (Yld.o (Ck rfl)) ⟨Cal,sB⟩ (Fc 10 (zT 11 2) rfl ⟨a,sB⟩ rfl (Yld.o (Cb Bxo rfl rfl Ln.2 (by decide) rfl rfl)) ⟨Cal,sB⟩ (Fc 11 (zT 12 1) rfl ⟨a,sB⟩ rfl (Yld.o (Cb Bxa rfl rfl Qn.2 (by decide) rfl rfl)) ⟨Cal,sB⟩ (Lg (Ea Arz) (Qg 12 Aoj rfl rfl (Cz (j:=0) Qn.2 rfl rfl (Cak M) rfl nL ?_)))))
 refine Te rfl (kk k2 ?_)
 refine Cr fun bm ao=>Au (iV 0) (l_k ao (Aj (Cai (Iq Asd)) (Aj Cag (Aj (Cai (Dz (Bv (Bv (Bv (Bv Ase)))))) (Aj (Cai (Bv (Dz (Bv (Bv (Bv Ase)))))) (Aj (Cai (Bv (Bv (Dz (Bv (Bv Ase)))))) (Aj (Cai (Bv (Bv (Bv (Dz (Bv Ase)))))) (Aj (Cai (Bv (Bv (Bv (Bv (Dz Ase)))))) (Aj (Cai (Ea (Ea (Ea (Ea Asd))))) (Aq (R ⟨Cam (Cam (Cam h e) x) a,.inr ⟨(⟨⟨p.l.kinds,p.l.most,p.l.tests⟩,⟨p.m.houses,p.m.marks,p.m.fields,p.m.sales++([(⟨n,nv⟩:Sale)]:List Sale)⟩,p.last⟩:PSt),_,Bao (by omega) W,rfl,⟨vk,vt,vh,vm,vf,Z,gk,gt,gh,gm,gf,N,rfl,(by constructor<;>omega),(by constructor<;>omega),hk,ht,hh,hm,hf,M⟩,Eq.trans (b:=(r,oC #[vk,iV p.l.most,vt,vh,vm,vf,Z,iV p.last] 101)::(gk++(gt++(gh++(gm++(gf++(N++σ))))))) rfl (by simp only[lZ9,Wj,Zm])⟩⟩)))))))))))
theorem Ard{e}:0≤Ib e∧Ib e≤7:=by
 cases e<;>simp only[Ib]<;>first|omega|(split<;>omega)
theorem Bcr{a b:Int}{v}(h:((a==1) != (b==0))=v):(a=1↔b=0)↔v=false:=by
 subst h
 by_cases h1:a=1
 ·by_cases h2:b=0<;>simp[h1,h2]
 ·by_cases h2:b=0
  ·simp[h1,h2]
  ·have c:(a==1)=false:=beq_false_of_ne h1
   have d:(b==0)=false:=beq_false_of_ne h2
   simp[c,d,h1,h2]
theorem Bvp{a b:Int}(h:((a==1) != (b==0))=false):a=1↔b=0:=(Bcr h).2 rfl
theorem Bvq{a b:Int}(h:((a==1) != (b==0))=true):¬(a=1↔b=0):=fun hh=>by cases (Bcr h).1 hh
theorem Bfv{p e f}(h:Iv p e = .inl f):f=6:=by
 cases e with
 | name mk s=>simp only[Iv]at h;split at h<;>cases h
 | field x hh=>simp only[Iv]at h;cases hk:Nq p.m hh.data.toList<;>rw[hk]at h<;>cases h;rfl
 | sale m l=>simp only[Iv]at h;cases hk:Hy (Nq p.m) (wl l)<;>rw[hk]at h<;>cases h;rfl
 | _=>cases h
theorem Aes{i last p}:Nv i last p=true↔last≤p∧(i=0↔p=0)∧(p=3→last<3)∧(3<p→3≤last):=by
 unfold Nv
 rw[Tj,Tj,Tj,Bch,Bch]
 simp only[decide_eq_true_eq]
 have e:(decide (i=0)==decide (p=0))=true↔(i=0↔p=0):=by
  by_cases a:i=0<;>by_cases b:p=0<;>simp[a,b]
 rw[e]
 constructor
 ·rintro⟨⟨⟨a,b⟩,c⟩,d⟩;exact⟨a,b,by omega,by omega⟩
 ·rintro⟨a,b,c,d⟩;exact⟨⟨⟨a,b⟩,by omega⟩,by omega⟩
theorem Amf{i last p}(h:¬(last≤p∧(i=0↔p=0)∧(p=3→last<3)∧(3<p→3≤last))):Nv i last p=false:=by
 rw[←Bool.not_eq_true,Aes];exact h
theorem takeE_last{p e k}:Iv ⟨p.l,p.m,k⟩ e=(match Iv p e with | .inl f=>.inl f | .inr q=>.inr ⟨q.l,q.m,k⟩):=by
 cases e with
 | name mk s=>cases mk<;>rfl
 | field x h=>simp only[Iv];cases Nq p.m h.data.toList<;>rfl
 | sale n l=>simp only[Iv];cases Hy (Nq p.m) (wl l)<;>rfl
 | _=>rfl
theorem Bkw{i p s e}(h:Acy s=some e)(ho:Nv i p.last (Ib e)=false):Qw i p s = .inl 3:=by
 rw[Amx h,if_neg (by rw[ho];simp)]
theorem Bpd{i p s e}(h:Acy s=some e)(ho:Nv i p.last (Ib e)=true):Qw i p s=Iv ⟨p.l,p.m,Ib e⟩ e:=by
 rw[Amx h,if_pos ho];exact takeE_last.symm
theorem Bnp{s n l}(h:Acy s=some (.sale n l)):l.length≤s.length:=by
 unfold Acy at h
 split at h
 ·cases h
 ·cases hs:Hn s with
  | nil=>exact absurd hs Wt
  | cons u f =>
   rw[hs]at h
   have hf:f.length≤s.length:=by
    have:=(Yj (s:=s) (acc:=[])).1
    have e:Nz 32 [] s=u::f:=hs
    rw[e]at this
    simp only[lZ3]at this;omega
   simp only at h
   unfold Qk at h
   split at h
   ·split at h<;>cases h
   ·split at h
    ·cases h0:(bw f)[0]?<;>rw[h0]at h
     ·cases h
     ·cases h1:Hy Qi (wl ((bw f).drop 1))<;>rw[h1]at h<;>cases h
    ·split at h
     ·split at h
      ·cases h
      ·cases h0:(bw f)[0]?<;>rw[h0]at h
       ·cases h
       ·cases h1:(bw f)[1]?<;>rw[h1]at h
        ·cases h
        ·cases h2:Hy Ii (wl ((bw f).drop 2))<;>rw[h2]at h
         ·cases h
         ·simp only at h;split at h<;>cases h
     ·cases h0:(bw f)[0]?<;>rw[h0]at h
      ·cases h
      ·simp only at h
       split at h
       ·cases h
        rw[lZ5]
        have:(bw f).length=f.length:=by unfold bw;simp
        omega
       ·split at h
        ·cases h
        ·split at h
         ·cases h
         ·split at h
          ·cases h
          ·split at h<;>cases h
theorem Bfu{p q e n}(h:Iv p e = .inr q)(hb:RdB p n):RdB q (n+1):=by
 obtain⟨a,b,c,d,f,g⟩:=hb
 cases e with
 | name mk s =>
  simp only[Iv]at h
  split at h<;>cases h<;>(refine⟨?_,?_,?_,?_,?_,?_⟩<;>simp only[lZ0,lZ3,lZ4]<;>omega)
 | field x hh =>
  simp only[Iv]at h
  cases hk:Nq p.m hh.data.toList<;>rw[hk]at h<;>cases h
  refine⟨?_,?_,?_,?_,?_,?_⟩<;>simp only[lZ0,lZ3,lZ4]<;>omega
 | sale m l =>
  simp only[Iv]at h
  cases hk:Hy (Nq p.m) (wl l)<;>rw[hk]at h<;>cases h
  refine⟨?_,?_,?_,?_,?_,?_⟩<;>simp only[lZ0,lZ3,lZ4]<;>omega
 | go=>cases h;exact⟨by omega,by omega,by omega,by omega,by omega,by omega⟩
 | _ =>
  cases h
  refine⟨?_,?_,?_,?_,?_,?_⟩<;>simp only[lZ0,lZ3,lZ4]<;>omega
theorem Ahd{i p q s n}(h:Qw i p s = .inr q)(hb:RdB p n)(h0:0≤p.last):RdB q (n+1)∧0≤q.last∧q.last≤7:=by
 cases he:Acy s with
 | none=>rw[Arn h0 he]at h;cases h
 | some e =>
  rw[Amx he]at h
  split at h
  ·cases ht:Iv p e with
   | inl f=>rw[ht]at h;cases h
   | inr q' =>
    rw[ht]at h
    cases h
    have hr:=Bfu ht hb;exact⟨hr,Ard⟩
  ·cases h
theorem Brr{W0 ρ σ r p vk vt vh vm vf vs gk gt gh gm gf gs v e}(he:EntV ρ v e)(hnl:∀n l,e = .sale n l→l.length≤60001)(hmo:I64 p.l.most)(hla:I64 p.last)(hB:RdB p 60001)(hk:Grow ρ 9 vk p.l.kinds gk)(ht:Grow ρ 46 vt p.l.tests gt)(hh:Grow ρ 9 vh p.m.houses gh)(hm:Grow ρ 9 vm p.m.marks gm)(hf:Grow ρ 51 vf p.m.fields gf)(hs:Grow ρ 54 vs p.m.sales gs)(hnr:Jp σ):CallsH (CY W0) 120 #[pV r,v] ρ ((r,oC #[vk,.int .i64 p.l.most,vt,vh,vm,vf,vs,.int .i64 p.last] 101)::(gk++(gt++(gh++(gm++(gf++(gs++σ))))))) (fun w ρ' σ'=>Ro.le ρ ρ'∧((∃f:Int,Iv p e = .inl f∧f≠0∧w = .int .i64 f∧σ'=σ)∨∃(q:PSt) (gr:Own),Iv p e = .inr q∧w=z0∧Ads ρ' r q gr∧σ'=gr++σ)):=by
 cases e with
 | lab n =>
  obtain⟨w,rfl,hw⟩:=he
  exact Ays hw hmo hla hB hk ht hh hm hf hs
 | kind s =>
  obtain⟨w,rfl,hw⟩:=he
  exact Ava hw hmo hla hB hk ht hh hm hf hs
 | test t =>
  obtain⟨w,rfl,hw⟩:=he
  exact Avd hw hmo hla hB hk ht hh hm hf hs
 | name mk s =>
  obtain⟨w,rfl,hw⟩:=he
  exact Avb hw hmo hla hB hk ht hh hm hf hs
 | field x h =>
  obtain⟨w,rfl,hw⟩:=he
  exact Atb hw hmo hla hB hk ht hh hm hf hs hnr
 | sale n l =>
  obtain⟨w,rfl,hw⟩:=he
  exact Avc hw hmo hla hB hk ht hh hm hf hs hnr (hnl _ _ rfl)
 | go =>
  obtain rfl:=he
  exact Bej hmo hla hB hk ht hh hm hf hs
theorem Brp{W0 ρ σ r p vk vt vh vm vf vs gk gt gh gm gf gs i s}(hg:GlobE ρ)(hmo:I64 p.l.most)(hla:I64 p.last)(hB:RdB p 60001)(hk:Grow ρ 9 vk p.l.kinds gk)(ht:Grow ρ 46 vt p.l.tests gt)(hh:Grow ρ 9 vh p.m.houses gh)(hm:Grow ρ 9 vm p.m.marks gm)(hf:Grow ρ 51 vf p.m.fields gf)(hs:Grow ρ 54 vs p.m.sales gs)(hp0:0≤p.last)(hi:i≤60001)(hb:s.length≤60000)(hnr:Jp σ):CallsH (CY W0) 88 #[pV r,iV ((i+1):Nat),.string (bs s)] ρ ((r,oC #[vk,iV p.l.most,vt,vh,vm,vf,vs,iV p.last] 101)::(gk++(gt++(gh++(gm++(gf++(gs++σ))))))) (fun w ρ' σ'=>Ro.le ρ ρ'∧((∃(f:Int) (ve:Value),Qw i p s = .inl f∧f≠0∧I64 f∧w = .iface 102 ve∧At ρ' ve (⟨((i+1:Nat):Int),f⟩:Wrg)∧σ'=σ)∨∃(q:PSt) (gr:Own),Qw i p s = .inr q∧w = .nilIface∧Ads ρ' r q gr∧σ'=gr++σ)):=by
 obtain⟨cc,cd⟩:=hmo
 obtain⟨c6,c7⟩:=hla
 refine Bq 73 [6] Tryz.func88 rfl fun Q M ce=>w_q rfl rfl fun K1 k1=>Au .nilIface (Dr k1 fun K2 k2=>Av (.string (bs s)) (Arv (Fj (vs:=[.string (bs s)]) (Beh (s:=s) hg hb) Tryz.func119 ⟨rfl,trivial⟩ fun w3 Z cp P=>?_)))
 obtain⟨C,P⟩:=P
 replace hk:=Caj C hk
 replace ht:=Caj C ht
 replace hh:=Caj C hh
 replace hm:=Caj C hm
 replace hf:=Caj C hf
 replace hs:=Caj C hs
 rcases P with⟨G,⟨K,X⟩|⟨c,v3,K,X,R⟩⟩
 ·replace G:=G.symm;subst G X
  refine Au .nilIface (Ds k2 fun K4 K5 k4 k5=>Av .nilIface (l_v (Yn (w:=.nilIface) (b:=true) Tryz.underlying214 (.inl ⟨rfl,rfl⟩) rfl) (l_k k5 (Et (Ai fun K6 k6=>?_)))))
  have H:=Arn (i:=i) hp0 K
  refine Bf (Av (iV ((i+1):Nat)) ?_)
  have r7:Val Z (.agg #[iV ((i+1):Nat),iV 3]) (⟨(((i+1):Nat):Int),3⟩:Wrg):=Wrg.shut (x:=(⟨(((i+1):Nat):Int),3⟩:Wrg)) (iC (((i+1):Nat):Int)) (iC 3)
  refine l_v (Dn (ns:=[1,1]) (vs:=[(0,(iV ((i+1):Nat))),(1,(iV 3))]) (zc:=Ahl) (cs:=[iV ((i+1):Nat),iV 3]) Byd Ahm rfl ⟨ty3.2,ty31.2,trivial⟩ (EvB.map ⟨⟨rfl,rfl⟩,⟨rfl,rfl⟩,trivial⟩) ((Be (cs:=[iV ((i+1):Nat)]) rfl rfl nL).trans ((Be (cs:=[iV 3]) rfl rfl nL).trans rfl))) (Arv (Eb (v:=.agg #[iV ((i+1):Nat),iV 3]) rfl fun k8=>?_))
  refine Bb (a:=(⟨(((i+1):Nat):Int),3⟩:Wrg)) r7 fun cm F r8=>?_
  replace hk:=Caj F hk
  replace ht:=Caj F ht
  replace hh:=Caj F hh
  replace hm:=Caj F hm
  replace hf:=Caj F hf
  replace hs:=Caj F hs
  refine l_v (Jd Byc rfl rfl) (Au (.iface 102 (pV k8)) (l_k k6 (Aj Cag (Aj (drops hk.1) (Aj (drops ht.1) (Aj (drops hh.1) (Aj (drops hm.1) (Aj (drops hf.1) (Aj (drops hs.1) (Aq (M ⟨Cam C F,.inl ⟨_,_,H,by decide,(by constructor<;>omega),rfl,r8,rfl⟩⟩)))))))))))
 replace G:=G.symm;subst G X
 obtain⟨I,J,aw⟩:=R.ifc;subst aw
 have cf:=Ard (e:=c)
 refine Au (.iface I J) (Ds k2 fun K9 bq k9 ay=>Av (.iface I J) (l_v (Yn (w:=.iface I J) (b:=false) Tryz.underlying214 (.inr ⟨_,_,rfl,rfl⟩) rfl) (l_k ay (Dy rfl (Al (kk k9 ?_))))))
 refine Cr fun br az=>Av (.iface I J) (Arv (Bwc (Bnz R) rfl trivial fun ch cj cn al=>?_))
 obtain⟨U,V,ax⟩:=al
 replace U:=U.symm;replace V:=V.symm;subst U V ax
 refine Au (iV (Ib c)) (Asa az fun bt b0=>Ai fun ah b1=>?_)
 have D:∀(bd:Bool) (ee:Env),(ee 0=pV r)∧(ee 1=(iV ((i+1):Nat)))∧(ee 7=(.iface I J))∧(ee 8=(iV (Ib c)))∧(ee 54=(.bool bd))∧(bd=true→Nv i p.last (Ib c)=false)∧(bd=false→Nv i p.last (Ib c)=true)∧True→ah ee [] Z (((r,oC #[vk,iV p.l.most,vt,vh,vm,vf,vs,iV p.last] 101)::(gk++(gt++(gh++(gm++(gf++(gs++σ)))))))):=by
  rintro bd c4 ⟨a6,a7,aj,ak,ai,bc,be,_⟩
  apply b1
  refine Bu ai (fun N=>?_) (fun N=>?_)
  ·refine Ai fun bu b2=>?_
   have T:=bc N
   have H:=Bkw K T
   refine Bf (l_v (Ah a7) ?_)
   have bl:Val Z (.agg #[iV ((i+1):Nat),iV 3]) (⟨(((i+1):Nat):Int),3⟩:Wrg):=Wrg.shut (x:=(⟨(((i+1):Nat):Int),3⟩:Wrg)) (iC (((i+1):Nat):Int)) (iC 3)
   refine l_v (Dn (ns:=[1,1]) (vs:=[(0,(iV ((i+1):Nat))),(1,(iV 3))]) (zc:=Ahl) (cs:=[iV ((i+1):Nat),iV 3]) Byd Ahm rfl ⟨ty3.2,ty31.2,trivial⟩ (EvB.map ⟨⟨rfl,rfl⟩,⟨rfl,rfl⟩,trivial⟩) ((Be (cs:=[iV ((i+1):Nat)]) rfl rfl nL).trans ((Be (cs:=[iV 3]) rfl rfl nL).trans rfl))) (Arv (Eb (v:=.agg #[iV ((i+1):Nat),iV 3]) rfl fun b3=>?_))
   refine Bb (a:=(⟨(((i+1):Nat):Int),3⟩:Wrg)) bl fun ck E bm=>?_
   replace hk:=Caj E hk
   replace ht:=Caj E ht
   replace hh:=Caj E hh
   replace hm:=Caj E hm
   replace hf:=Caj E hf
   replace hs:=Caj E hs
   refine l_v (Jd Byc rfl rfl) (Au (.iface 102 (pV b3)) (l_k b2 (Aj Cag (Aj (drops hk.1) (Aj (drops ht.1) (Aj (drops hh.1) (Aj (drops hm.1) (Aj (drops hf.1) (Aj (drops hs.1) (Aq (M ⟨Cam C E,.inl ⟨_,_,H,by decide,(by constructor<;>omega),rfl,bm,rfl⟩⟩)))))))))))
  refine Al (kk b0 ?_)
  refine Ai fun bv b4=>?_
  have T:=be N
  have H:=Bpd K T
  refine Bf (l_v (Ah a6) (l_v (Ah ak) (l_v (Ck rfl) (l_v (Cb Bxo rfl rfl ty3.2 (by decide) rfl rfl) (Ee (Cz (j:=0) (v:=iV (Ib c)) ty3.2 rfl rfl rfl rfl nL ?_))))))
  refine Ds b4 fun bx bz b5 a9=>l_v (Ah a6) (l_v (Ah aj) (Bj (Cai (Dz (Bv (Bv (Bv (Bv Ase)))))) (Bj (Cai (Bv (Dz (Bv (Bv (Bv Ase)))))) (Bj (Cai (Bv (Bv (Dz (Bv (Bv Ase)))))) (Bj (Cai (Bv (Bv (Bv (Dz (Bv Ase)))))) (Bj (Cai (Bv (Bv (Bv (Bv (Dz Ase)))))) (Bj (Cai (Bv (Bv (Bv (Bv (Bv Asc)))))) (Bj (Cai (Ea (Ea (Ea (Ea (Ea Asd)))))) (Arv (Fj (vs:=[pV r,.iface I J]) (Brr (r:=r) (p:=(⟨⟨p.l.kinds,p.l.most,p.l.tests⟩,⟨p.m.houses,p.m.marks,p.m.fields,p.m.sales⟩,Ib c⟩:PSt)) R (fun n l h=>by subst h;have:=Bnp K;omega) (iC p.l.most) (iC (Ib c)) hB hk ht hh hm hf hs hnr) Byj ⟨rfl,rfl,trivial⟩ fun ci bp co O=>?_))))))))))
  obtain⟨aa,O⟩:=O
  rcases O with⟨z,L,a8,W,B⟩|⟨Y,c5,L,W,⟨ad,ag,ac,ae,ab,af,a2,a5,a1,a3,a0,a4,an,au,aq,ap,av,ao,ar,am,B⟩,B⟩
  ·replace B:=B.symm;subst B W
   have cg:=Bfv L
   refine Au (iV z) (Dr a9 fun c0 b6=>Av (iV z) (l_v (Rf) (l_k b6 (Co rfl (bne_iff_ne.2 a8) (Cr fun c1 b7=>l_v (Ah a7) (Av (iV z) ?_))))))
   have bn:Val bp (.agg #[iV ((i+1):Nat),iV z]) (⟨(((i+1):Nat):Int),z⟩:Wrg):=Wrg.shut (x:=(⟨(((i+1):Nat):Int),z⟩:Wrg)) (iC (((i+1):Nat):Int)) (iC z)
   refine l_v (Dn (ns:=[1,1]) (vs:=[(0,(iV ((i+1):Nat))),(1,(iV z))]) (zc:=Ahl) (cs:=[iV ((i+1):Nat),iV z]) Byd Ahm rfl ⟨ty3.2,ty31.2,trivial⟩ (EvB.map ⟨⟨rfl,rfl⟩,⟨rfl,rfl⟩,trivial⟩) ((Be (cs:=[iV ((i+1):Nat)]) rfl rfl nL).trans ((Be (cs:=[iV z]) rfl rfl nL).trans rfl))) (Arv (Eb (v:=.agg #[iV ((i+1):Nat),iV z]) rfl fun b8=>?_))
   refine Bb (a:=(⟨(((i+1):Nat):Int),z⟩:Wrg)) bn fun cl bb bo=>l_v (Jd Byc rfl rfl) (Au (.iface 102 (pV b8)) (l_k b7 (Aq (M ⟨Cam (Cam C aa) bb,.inl ⟨_,_,H.trans L,a8,(by constructor<;>omega),rfl,bo,rfl⟩⟩))))
  subst an W
  simp only[lZ9,Wj]at B
  replace B:=B.symm;subst B
  obtain⟨ca,cb⟩:=au;obtain⟨c8,c9⟩:=aq
  refine Au (iV 0) (Dr a9 fun c2 b9=>Av (iV 0) (l_v (Rf) (l_k b9 (Dy rfl (Al (kk b5 ?_))))))
  refine Cr fun c3 ba=>Au .nilIface (l_k ba (Aq (M ⟨Cam C aa,.inr ⟨Y,_,H.trans L,rfl,⟨ad,ag,ac,ae,ab,af,a2,a5,a1,a3,a0,a4,rfl,(by constructor<;>omega),(by constructor<;>omega),ap,av,ao,ar,am,B⟩,Eq.trans (b:=(r,oC #[ad,iV Y.l.most,ag,ac,ae,ab,af,iV Y.last] 101)::(a2++(a5++(a1++(a3++(a0++(a4++σ))))))) rfl (by simp only[lZ9,Wj,Zm])⟩⟩)))
 refine Bf (Av (iV (Ib c)) (Av (pV r) (l_v (Ck rfl) (l_v (Cb Bxo rfl rfl ty3.2 (by decide) rfl rfl) (Arv (Dt (i:=0) (v:=iV p.last) ty3.1 rfl rfl rfl ?_))))))
 refine l_v (Fk) (Av (.bool (decide ((Ib c)<p.last))) (Cn (decide ((Ib c)<p.last)) (fun g=>?_) (fun g=>?_)))
 ·have bf:=lZ2 g
  refine Ap (gNZ g) (Ap (gNZ g) (Ap (gNZ g) (Ap (gNZ g) (Ap (gNZ g) (l_v (Es g (v:=bT)) (Av bT (Ap (gN rfl rfl) (Ap (gN rfl rfl) (Ap (gN rfl rfl) (Ap (Fl) (Ap (Fl) (Ap (Fl) (Ap (Fl) (Ap (Fl) (Ap (gN rfl rfl) (l_v (Es rfl (v:=bT)) (Av bT (Ap (gN rfl rfl) (Ap (gN rfl rfl) (Ap (gN rfl rfl) (Ap (Fl) (Ap (Fl) (Ap (Fl) (Ap (Fl) (Ap (Fl) (Ap (gN rfl rfl) (l_v (Es rfl (v:=bT)) (Ac ?_))))))))))))))))))))))))))))
  refine D true _ ⟨rfl,rfl,rfl,rfl,rfl,fun _=>Amf (by omega),fun h=>absurd h (by decide),trivial⟩
 have bf:=lZ1 g
 refine Me (iV ((i+1):Nat)) (gY rfl g) (Aa (gY rfl g) (Hs) (Me (iV (Ib c)) (gY rfl g) (Aa (gY rfl g) (Hs) (Aa (gY rfl g) (Blx Byl (p:=(((i+1):Nat):Int)==1) (q:=(Ib c)==0) rfl rfl) (l_v (En g (v:=.bool (((((i+1):Nat):Int)==1) != ((Ib c)==0)))) (Av (.bool (((((i+1):Nat):Int)==1) != ((Ib c)==0))) (Cn (((((i+1):Nat):Int)==1) != ((Ib c)==0)) (fun d=>?_) (fun d=>?_))))))))
 ·have hnq:=Bvq d
  have bg:=Ls d
  refine Ap (gN rfl d) (Ap (gN rfl d) (Ap (gN rfl d) (Ap (Fl) (Ap (Fl) (Ap (Fl) (Ap (Fl) (Ap (Fl) (Ap (gN rfl d) (l_v (Es d (v:=bT)) (Av bT (Ap (gN rfl rfl) (Ap (gN rfl rfl) (Ap (gN rfl rfl) (Ap (Fl) (Ap (Fl) (Ap (Fl) (Ap (Fl) (Ap (Fl) (Ap (gN rfl rfl) (l_v (Es rfl (v:=bT)) (Ac ?_)))))))))))))))))))))
  refine D true _ ⟨rfl,rfl,rfl,rfl,rfl,fun _=>Amf (by omega),fun h=>absurd h (by decide),trivial⟩
 have hnq:=Bvp d
 have bg:=Jh d
 refine Me (iV (Ib c)) (gY rfl d) (Aa (gY rfl d) (Hs) (Me (.bool ((Ib c)==3)) (gY rfl d) (Cn ((Ib c)==3) (fun k=>?_) (fun k=>?_))))
 ·have bh:=Jr k
  refine Me (pV r) (gY rfl k) (Aa (gY rfl k) (Ck rfl) (Aa (gY rfl k) (Cb Bxo rfl rfl ty3.2 (by decide) rfl rfl) (Ae (gY rfl k) (Dt (i:=0) (v:=iV p.last) ty3.1 rfl rfl rfl ?_))))
  refine Aa (gY rfl k) (Hs) (Aa (gY rfl d) (Es k (v:=.bool (p.last==3))) (l_v (En d (v:=.bool (p.last==3))) (Av (.bool (p.last==3)) (Cn (p.last==3) (fun t=>?_) (fun t=>?_)))))
  ·have bi:=Jr t
   refine Ap (gNZ t) (Ap (gNZ t) (Ap (gNZ t) (Ap (Fl) (Ap (Fl) (Ap (Fl) (Ap (Fl) (Ap (Fl) (Ap (gNZ t) (l_v (Es t (v:=bT)) (Ac ?_))))))))))
   refine D true _ ⟨rfl,rfl,rfl,rfl,rfl,fun _=>Amf (by omega),fun h=>absurd h (by decide),trivial⟩
  have bi:=Jq t
  refine Me (iV (Ib c)) (gY rfl t) (Aa (gY rfl t) (Rd) (Me (.bool (decide ((Ib c)>3))) (gY rfl t) (Cn (decide ((Ib c)>3)) (fun u=>?_) (fun u=>?_))))
  ·have bj:=lZ2 u
   refine Me (pV r) (gY rfl u) (Aa (gY rfl u) (Ck rfl) (Aa (gY rfl u) (Cb Bxo rfl rfl ty3.2 (by decide) rfl rfl) (Ae (gY rfl u) (Dt (i:=0) (v:=iV p.last) ty3.1 rfl rfl rfl ?_))))
   refine Aa (gY rfl u) (Fk) (Aa (gY rfl t) (Es u (v:=.bool (decide (p.last<3)))) (l_v (En t (v:=.bool (decide (p.last<3)))) (Ac ?_)))
   refine D (decide (p.last<3)) _ ⟨rfl,rfl,rfl,rfl,rfl,(fun h=>by have:=lZ2 h;exact Amf (by omega)),(fun h=>by have:=lZ1 h;exact Aes.2 (by omega)),trivial⟩
  have bj:=lZ1 u
  refine Ap (gNZ u) (Ap (gNZ u) (Ap (gNZ u) (Ap (gNZ u) (Ap (gNZ u) (Aa (gY rfl t) (En u (v:=bF)) (l_v (En t (v:=bF)) (Ac ?_)))))))
  refine D false _ ⟨rfl,rfl,rfl,rfl,rfl,fun h=>absurd h (by decide),fun _=>Aes.2 (by omega),trivial⟩
 have bh:=Jq k
 refine Ap (gNZ k) (Ap (gNZ k) (Ap (gNZ k) (Ap (gNZ k) (Ap (gNZ k) (Aa (gY rfl d) (En k (v:=bF)) (l_v (En d (v:=bF)) (Av bF (Me (iV (Ib c)) (gY rfl rfl) (Aa (gY rfl rfl) (Rd) (Me (.bool (decide ((Ib c)>3))) (gY rfl rfl) (Cn (decide ((Ib c)>3)) (fun y=>?_) (fun y=>?_))))))))))))
 ·have bk:=lZ2 y
  refine Me (pV r) (gY rfl y) (Aa (gY rfl y) (Ck rfl) (Aa (gY rfl y) (Cb Bxo rfl rfl ty3.2 (by decide) rfl rfl) (Ae (gY rfl y) (Dt (i:=0) (v:=iV p.last) ty3.1 rfl rfl rfl ?_))))
  refine Aa (gY rfl y) (Fk) (Aa (gY rfl rfl) (Es y (v:=.bool (decide (p.last<3)))) (l_v (En rfl (v:=.bool (decide (p.last<3)))) (Ac ?_)))
  refine D (decide (p.last<3)) _ ⟨rfl,rfl,rfl,rfl,rfl,(fun h=>by have:=lZ2 h;exact Amf (by omega)),(fun h=>by have:=lZ1 h;exact Aes.2 (by omega)),trivial⟩
 have bk:=lZ1 y
 refine Ap (gNZ y) (Ap (gNZ y) (Ap (gNZ y) (Ap (gNZ y) (Ap (gNZ y) (Aa (gY rfl rfl) (En y (v:=bF)) (l_v (En rfl (v:=bF)) (Ac ?_)))))))
 refine D false _ ⟨rfl,rfl,rfl,rfl,rfl,fun h=>absurd h (by decide),fun _=>Aes.2 (by omega),trivial⟩
end
section
open Go
def ObjsO(τ:Own):Prop:=∀x∈τ,∃r o,x=(r,Res.obj o)
theorem Bct{r o}:ObjsO [(r,Res.obj o)]:=fun x hx=>by rw[Sl.1 hx];exact⟨_,_,rfl⟩
theorem ObjsO.add{τ a b o o'}(h:ObjsO τ):ObjsO (τ++[(a,Res.obj o),(b,Res.obj o')]):=fun x hx=>by
 rcases Of.1 hx with h1|h1
 ·exact h x h1
 ·rcases Nc.1 h1 with rfl|h2
  ·exact⟨_,_,rfl⟩
  ·rw[Sl.1 h2];exact⟨_,_,rfl⟩
theorem Aws{τ σ}(h:ObjsO τ)(hn:Jp σ):Jp (τ++σ):=by
 induction τ with
 | nil=>exact hn
 | cons x τ ih =>
  obtain⟨r,o,rfl⟩:=h x mC
  exact Gv (ih fun y hy=>h y (lZ7 _ hy))
/-- A function value that hands these values over,one after the other,as long as the function that it gets yields true;O is its own memory. -/
def Bqa(f:Value)(ρ₀:Ro)(O:Own)(ys:List Value):Prop :=
 ∃(k:FuncId) (fn:Func) (caps:List Value),f = .func (.func k) #[] caps.toArray∧Tryz.prog.funcs[k]?=some fn∧(fn.name == "runtime.NumGoroutine")=false∧fn.body.isNone=false ∧
  ∀(mn:Bool) (X:Frame→List Frame→Ro→Own→Cy→Prop) (l:Nat) (I:List Value→Ro→Own→Prop) (S:Ro→Own→Prop) (ρ:Ro) (σ:Own),Ro.le ρ₀ ρ→(∀pre ρ ρ' σ,Ro.le ρ ρ'→I pre ρ σ→I pre ρ' σ)→I [] ρ σ →
   (∀pre x post ρ' σ' pfx,ObjsO pfx→ys=pre++x::post→Ro.le ρ ρ'→I pre ρ' σ'→Acp (CX mn X) l x ρ' (pfx++σ') (fun v ρ'' σ''=>∃τ,σ''=pfx++τ∧Ro.le ρ' ρ''∧((v = .bool true∧I (pre++[x]) ρ'' τ)∨(v = .bool false∧S ρ'' τ)))) →
   CallsH (CX mn X) k (.func (.yield l) #[] #[]::caps).toArray ρ (O++σ) (fun _ ρ' σ'=>Ro.le ρ ρ'∧(I ys ρ' σ'∨S ρ' σ'))
theorem Ayi{pfx τ:Own}{a b:Nat×Res}:(pfx++[a,b]++τ)[pfx.length]?=some a:=by simp
theorem Bda{pfx τ:Own}{a b a':Nat×Res}:(pfx++[a,b]++τ).set pfx.length a'=pfx++[a',b]++τ:=by
 rw[lZ9,List.set_append_right _ _ (Lb _),Aqu,lZ9];rfl
theorem Bbm{pfx τ:Own}{a b:Nat×Res}:pfx++a::b::τ=pfx++[a,b]++τ:=by simp
section
variable{mn:Bool}{X:Frame→List Frame→Ro→Own→Cy→Prop}{b:FB}{n:Nat}{e:Env}{ds:List Deferred}{ρ:Ro}{σ:Own}
theorem Apu{f q assign body Q fv O ys}(J:List Value→Ro→Own→Prop)(S:Ro→Own→Prop)(hr:b.round=none)(hk:b.kind = .normal)(hq:q<n)(hf:Af e f=fv)(hF:Bqa fv ρ O ys)(hJm:∀pre ρ ρ' σ,Ro.le ρ ρ'→J pre ρ σ→J pre ρ' σ)(hJ:J [] ρ σ)(hbody:∀l pre x post ρ' τ,ys=pre++x::post→Ro.le ρ ρ'→J pre ρ' τ→∀pfx:Own,ObjsO pfx →
   WpC (CX mn X) ⟨b.fn,.normal,some l⟩ n assign (fun ex e1 ds1 ρ1 σ1=>ex = .normal∧ds1=[]∧Ro.le ρ' ρ1∧∃τ1,σ1=pfx++τ1 ∧
    ∀pfx2:Own,ObjsO pfx2→WpC (CX mn X) ⟨b.fn,.normal,some l⟩ n body (fun ex _ _ ρ2 σ2=>Ro.le ρ1 ρ2∧∃τ2,σ2=pfx2++τ2∧((ex = .normal∧J (pre++[x]) ρ2 τ2)∨(ex = .ret∧S ρ2 τ2))) e1 [] ρ1 (pfx2++τ1)) (upd e q x) [] ρ' (pfx++τ))(hend:∀r ρ' τ,Ro.le ρ ρ'→J ys ρ' τ→Q .normal e ({target:=.collected r,args:=#[]}::ds) ρ' ((r,.obj (.deferred (some [])))::τ))(hstop:∀r ρ' τ,Ro.le ρ ρ'→S ρ' τ→Q .ret e ({target:=.collected r,args:=#[]}::ds) ρ' ((r,.obj (.deferred (some [])))::τ)):
  WpC (CX mn X) b n (.rangeFunc f #[q] assign body) Q e ds ρ (O++σ):=by
 intro tm k cs ht
 obtain⟨kk,fn,g,rfl,h,m,p,u⟩:=hF
 have F:(b.kind==CallKind.early)=false:=by rw[hk];rfl
 have hev:(Fr b tm ds (.code (.rangeFunc f #[q] assign body)::k)).eval f = .func (.func kk) #[] g.toArray:=by rw[ht.eval];exact hf
 refine Lw (s:=Instr.enterLoop b.fn tm #[q] assign body none)
  (f:=fun lm=>(Frame.enter Tryz.prog kk (Value.func (.yield lm.1) #[] #[]::g).toArray .normal,Fr b tm (lm.2++ds) (.inRangeFunc lm.1::k)::cs))
  (Q:=fun lm σ'=>∃r,lm.2=[{target:=.collected r,args:=#[]}]∧σ'=(lm.1,Res.obj (.loop {state:=.ready,pending:=none,fn:=b.fn,tmps:=tm,params:=#[q],assign,body,defers:=r}))::(r,.obj (.deferred (some [])))::(O++σ))
  (fun W lm W' es c=>?_) (Vj fun r l=>⟨r,rfl,rfl⟩) ?_
 ·exact Abv hr hk (by rw[ht.eval];exact hf) (P:=Tryz.prog) h m p c
 rintro⟨l,H⟩ σ' ⟨r,hm,rfl⟩
 simp only at hm
 subst hm
 let L:Loop:={state:=.ready,pending:=none,fn:=b.fn,tmps:=tm,params:=#[q],assign,body,defers:=r}
 let L':Loop:={L with state:=.done,pending:=some .ret}
 have z:=u mn X l (fun pre ρ' σ'=>∃τ,σ'=(l,Res.obj (.loop L))::(r,.obj (.deferred (some [])))::τ∧J pre ρ' τ) (fun ρ' σ'=>∃τ,σ'=(l,Res.obj (.loop L'))::(r,.obj (.deferred (some [])))::τ∧S ρ' τ) ρ ((l,Res.obj (.loop L))::(r,.obj (.deferred (some [])))::σ) .refl
  (fun pre ρ1 ρ2 σ1 hle ⟨τ,e1,d⟩=>⟨τ,e1,hJm _ _ _ _ hle d⟩) ⟨σ,rfl,hJ⟩ (fun pre x post ρ' σ' pfx hpo hys hle ⟨τ,e1,d⟩ rd ds'=>?_)
 ·refine .ghost (Cai (σ':=O++((l,Res.obj (.loop L))::(r,.obj (.deferred (some [])))::σ)) ?_) ?_
  ·have D:(([(l,Res.obj (.loop L)),(r,.obj (.deferred (some [])))]:Own)++(O++σ)).Perm (O++([(l,Res.obj (.loop L)),(r,.obj (.deferred (some [])))]++σ)):=Bjl _ _ _
   exact D
  refine(z (Fr b tm ([{target:=.collected r,args:=#[]}]++ds) (.inRangeFunc l::k)) cs).bind ?_
  rintro _ cs' ρ' σ' ⟨v,rfl,hcs,hle,hJS⟩
  subst hcs
  have e1:(Fr b tm ([{target:=.collected r,args:=#[]}]++ds) (.inRangeFunc l::k)).finish v=Fr b tm ([{target:=.collected r,args:=#[]}]++ds) (.endRangeFunc l::k):=rfl
  rw[e1]
  rcases hJS with⟨τ,rfl,hJ'⟩|⟨τ,rfl,hS'⟩
  ·refine Lw (s:=Instr.endLoop l) (f:=fun j=>(Fr b tm ([{target:=.collected r,args:=#[]}]++ds) ((j.map Item.code).toList++k),cs')) (Q:=fun j σ''=>j=none∧σ''=(l,Res.obj (.loop {L with state:=.exhausted}))::(r,.obj (.deferred (some [])))::τ) (fun W j W' es c=>?_) (Zz rfl ⟨rfl,rfl⟩) ?_
   ·exact⟨seen Tryz.prog b.fn es ++ #[],by simp[Conc.G,stepG,stepG.exec,Fr,-Sem.runT_eq,c,GStep.after],fun ev he=>Lh (by simpa using he)⟩
   ·rintro j σ'' ⟨rfl,rfl⟩
    exact .ghost Cag (.stop ⟨rfl,.normal,tm,e,_,k,ht,hend r ρ' τ hle hJ',rfl,rfl⟩)
  ·refine Lw (s:=Instr.endLoop l) (f:=fun j=>(Fr b tm ([{target:=.collected r,args:=#[]}]++ds) ((j.map Item.code).toList++k),cs')) (Q:=fun j σ''=>j=some .ret∧σ''=(l,Res.obj (.loop {L' with state:=.exhausted}))::(r,.obj (.deferred (some [])))::τ) (fun W j W' es c=>?_) (Zz rfl ⟨rfl,rfl⟩) ?_
   ·exact⟨seen Tryz.prog b.fn es ++ #[],by simp[Conc.G,stepG,stepG.exec,Fr,-Sem.runT_eq,c,GStep.after],fun ev he=>Lh (by simpa using he)⟩
   ·rintro j σ'' ⟨rfl,rfl⟩
    exact .ghost Cag (Aq (hstop r ρ' τ hle hS') tm k cs' ht)
 ·subst e1
  rw[Bbm]
  refine Afw (i:=pfx.length) Ayi (by simp[L]) ?_
  show RoundH (CX mn X) l b.fn _ assign body ρ' _ _
  have etm:((L.params.zip #[x]).foldl (fun tmps (t,a)=>tmps.setIfInBounds t a) L.tmps)=tm.setIfInBounds q x:=by simp[L]
  rw[etm]
  refine Abr (ht.put hq x) ?_
  refine Adw (hbody l pre x post ρ' τ hys hle d (pfx++[(l,Res.obj (.loop L)),(r,.obj (.deferred (some [])))]) hpo.add) ?_
  rintro ex e1 ds1 ρ1 σ1 ⟨rfl,rfl,B,τ1,rfl,hb⟩
  refine⟨rfl,rfl,pfx.length,L,Ayi,rfl,?_⟩
  rw[Bda]
  refine Adw (hb (pfx++[(l,Res.obj (.loop {L with state:=.busy})),(r,.obj (.deferred (some [])))]) hpo.add) ?_
  rintro ex d E ρ2 σ2 ⟨C,τ2,rfl,hJS⟩
  refine⟨pfx.length,{L with state:=.busy},Ayi,rfl,?_⟩
  rw[Bda,←Bbm]
  refine⟨_,rfl,B.trans C,?_⟩
  rcases hJS with⟨rfl,w⟩|⟨rfl,y⟩
  ·exact .inl ⟨rfl,τ2,rfl,w⟩
  ·exact .inr ⟨rfl,τ2,rfl,y⟩
end
/-- A call by its body,with results in variables,which leaves one mark of a range over a function. -/
theorem Ayu{C f fn c n args ρ σ R}(rs:List ResultVar)(hf:C.P.funcs[f]?=some fn)(hc:fn.body=some c)(hn:fn.ntmps=n)(ha:Nat.ble args.length n=true)(hr:fn.results=rs.toArray)(h:∀Q:Hu,(∀e ρ' σ' ρ'' σ'' r vs,Agf C.P ρ' ((r,.obj (.deferred none))::σ') e rs vs→Ghost ρ' ((r,.obj (.deferred none))::σ') ρ'' σ''→R (Adi vs) ρ'' σ''→Q .ret e [{target:=.collected r,args:=#[]}] ρ' ((r,.obj (.deferred (some [])))::σ'))→WpC C ⟨f,.normal,none⟩ n c Q (Pn args) [] ρ σ):CallsH C f args.toArray ρ σ R:=by
 have a:CallsH C f args.toArray ρ σ (fun v ρ' σ'=>∃ρ'' σ'',Ghost ρ' σ' ρ'' σ''∧R v ρ'' σ''):=by
  refine Oy hf hc hn (Qz ha) (h _ (fun e ρ' σ' ρ'' σ'' r vs hl hg hR=>⟨fun id h=>(by cases h),?_⟩))
  refine⟨r,0,rfl,rfl,?_⟩
  exact Vf hr hl ⟨ρ'',σ'',hg,hR⟩
 intro c' cs
 refine(a c' cs).bind ?_
 rintro _ _ ρ' σ' ⟨v,rfl,rfl,ρ'',σ'',hg,hR⟩
 exact .ghost hg (.stop ⟨v,rfl,rfl,hR⟩)
def Iz(acc:List UInt8):List UInt8→List (List UInt8)
 | []=>if acc=[] then [] else [acc]
 | x::r=>if x=10 then (acc++[10])::Iz [] r else Iz (acc++[x]) r
theorem Bhl{acc}:Wi (acc++[10])=acc:=by
 unfold Wi
 have e:(acc++[10]).drop ((acc++[10]).length-1)=[10]:=by simp
 rw[e];simp
theorem Bni{acc}(h:∀x∈acc,x≠10):Wi acc=acc:=by
 unfold Wi
 rw[if_neg]
 intro hh
 have e:=eq_of_beq hh
 have:(10:UInt8)∈acc:=Apj (i:=acc.length-1) (by rw[e];simp)
 exact h 10 this rfl
theorem Acw:∀{s acc:List UInt8},(∀x∈acc,x≠10)→(Iz acc s).map Wi=Sm acc s
 | [],acc,h=>by
  unfold Iz Sm
  split
  ·rfl
  ·rw[Qc,Bni h];rfl
 | x::r,acc,h=>by
  unfold Iz Sm
  split
  ·rw[Qc,Bhl,Acw (fun _ h=>by cases h)]
  ·next hx =>
   exact Acw fun y hy=>by
    rcases Of.1 hy with h1|h1
    ·exact h y h1
    ·rw[Sl.1 h1];exact hx
theorem Ave{s}:(Iz [] s).map Wi=Ix s:=Acw (fun _ h=>by cases h)
theorem Aqw:∀{s acc:List UInt8},(∀x∈s,x≠10)→Iz acc s=if acc++s=[] then [] else [acc++s]
 | [],acc,_=>by unfold Iz;rw[Za]
 | x::r,acc,h=>by
  unfold Iz
  rw[if_neg (h x mC),Aqw fun y hy=>h y (lZ7 _ hy)]
  simp
theorem Aqv:∀{m:Nat} {s acc:List UInt8},s[m]?=some 10→(∀j,j<m→s[j]?≠some 10)→Iz acc s=(acc++s.take (m+1))::Iz [] (s.drop (m+1))
 | _,[],_,h,_=>by cases h
 | 0,x::r,acc,h,_=>by
  obtain rfl:x=10:=by simpa using h
  conv=>lhs;unfold Iz
  rw[if_pos rfl];rfl
 | m+1,x::r,acc,h,hj=>by
  have hx:x≠10:=fun e=>hj 0 (by omega) (by rw[e];rfl)
  conv=>lhs;unfold Iz
  rw[if_neg hx,Aqv (m:=m) (s:=r) (by simpa using h) (fun j hjm=>by have:=hj (j+1) (by omega);simpa using this)]
  simp
theorem Awo{s m}(h:s[m]?=some 10)(hj:∀j,j<m→s[j]?≠some 10):Iz [] s=((s.take (m+1)).drop 0)::Iz [] ((s.take s.length).drop (m+1)):=by
 rw[Aqv h hj,Qa,Zm,Air]
theorem Awn{s}(h:∀x∈s,x≠10)(hs:0<s.length):Iz [] s=[s]:=by
 rw[Aqw h,Zm,if_neg]
 intro e;rw[e]at hs;cases hs
theorem Bnh{p}:(Wi p).length≤p.length:=by
 unfold Wi;split
 ·rw[lZ6];omega
 ·exact Lb _
theorem Agp:∀{s acc:List UInt8},∀w∈Iz acc s,w.length≤acc.length+s.length
 | [],acc,w,hw=>by
  unfold Iz at hw
  split at hw
  ·cases hw
  ·rw[Sl.1 hw];simp
 | x::r,acc,w,hw=>by
  unfold Iz at hw
  split at hw
  ·rcases Nc.1 hw with rfl|h1
   ·simp
   ·have:=Agp w h1;simp only[lZ4,lZ3]at *;omega
  ·have:=Agp w hw;simp only[lZ0,lZ3,lZ4]at *;omega
theorem Bjr{t a l1 l2 i}(h:Iz [] t=l1++a::l2)(hi:i=l1.length):(Ix t)[i]?=some (Wi a)∧i+1≤t.length∧(Wi a).length≤t.length∧a.length≤t.length:=by
 have hc:=Ave (s:=t)
 have hn:=Bco (t:=t)
 rw[←hc,h,Xp,lZ0,lZ3]at hn
 have hb:=Agp (s:=t) (acc:=[]) a (by rw[h];simp)
 have hcl:=Bnh (p:=a)
 refine⟨?_,by omega,by simp only[lZ4]at hb;omega,by simp only[lZ4]at hb;omega⟩
 rw[←hc,h,Ql,Qc,hi,List.getElem?_append_right (by simp)]
 simp
theorem Baa{t i}(hi:i=(Iz [] t).length):i=(bw (Ix t)).length:=by
 rw[←Ave];simp[bw,hi]
end
section
open Go
theorem Bff{s}(h:decide (Ve 10 s≥0)=true):∃m:Nat,Ve 10 s=(m:Int)∧m<s.length∧Iz [] s=((s.take (m+1)).drop 0)::Iz [] ((s.take s.length).drop (m+1)):=by
 rcases Vy (c:=10) (p:=s) with⟨m,a,b,d,e⟩|⟨a,_⟩
 ·exact⟨m,a,b,Awo d e⟩
 ·have:=lZ2 h;omega
theorem Bfe{s}(h:decide (Ve 10 s≥0)=false)(hs:0<s.length):Iz [] s=[s]:=by
 rcases Vy (c:=10) (p:=s) with⟨m,a,b,d,e⟩|⟨_,a⟩
 ·have:=lZ1 h;omega
 ·exact Awn a hs
theorem Bhe{mn X ρ σ t}:CallsH (CX mn X) 87 #[.string (bs t)] ρ σ (fun w ρ' σ'=>ρ'=ρ∧∃k:Nat,w = .func (.func 117) #[] #[pV k]∧σ'=(k,oC #[.string (bs t)] 9)::σ):=by
 refine Rq 4 [2] Tryz.func87 fun Q a g=>w_q rfl rfl fun e b=>Arv (Eb rfl fun c=>?_)
 refine Au _ (Dr b fun f d=>l_v (Il (vs:=[pV c]) ⟨rfl,trivial⟩) (Au _ (l_k d (Aq (a ⟨rfl,_,rfl,rfl⟩)))))
theorem Bir{t k ρ₀}(hb:t.length≤60000):Bqa (.func (.func 117) #[] #[pV k]) ρ₀ [(k,oC #[.string (bs t)] 9)] ((Iz [] t).map (fun l:List UInt8=>Value.string (bs l))):=by
 refine⟨_,_,[pV k],rfl,Tryz.func117,rfl,rfl,?_⟩
 intro mn X l I S ρ σ hle a5 hI hy
 refine Bq 25 [] Tryz.func117 rfl fun Q C N=>Ao (Cc (fun mm ee dd ρ' σ'=>∃(s:List UInt8) (pre:List (List UInt8)) (z:Own),(s.length)=mm∧[]=dd∧Ro.le ρ ρ'∧((k,oC #[.string (bs s)] 9)::z)=σ'∧ee 0=(.func (.yield l) #[] #[])∧ee 1=pV k∧(Iz [] t=pre++Iz [] s)∧(s.length≤60000)∧I (pre.map (fun l:List UInt8=>Value.string (bs l))) ρ' z∧True) (m:=_) ⟨t,[],σ,rfl,rfl,Cal,rfl,rfl,rfl,rfl,hb,hI,trivial⟩ ?_)
 rintro m1 e1 _ a9 _ ⟨s,pre,z,rfl,rfl,b,rfl,g,a,f,a6,n,_⟩
 refine Asb rfl rfl fun K2 K3 T U=>Arv (Dt (i:=0) (v:=.string (bs s)) ty9.1 a rfl rfl ?_)
 refine l_v (Ga Bwz (p:=s) rfl) (l_v (Gl rfl rfl) (l_k U (Bu (t:=decide ((s.length:Int)>0)) rfl (fun q=>?_) (fun q=>?_))))
 ·have Z:=lZ2 q
  refine Al (kk T ?_)
  refine Ao (w_q rfl rfl fun K5 V=>Au (.string (ByteArray.mk #[])) (Ary rfl rfl V fun K6 K7 F W=>Arv (Dt (i:=0) (v:=.string (bs s)) ty9.1 a rfl rfl ?_)))
  refine Arv (Ce (Bec (p:=s) (c:=(10:UInt8))) Tryz.func118 ?_)
  refine Au (iV (Ve (10:UInt8) s)) (Arx rfl rfl W fun K8 Y=>Av (iV (Ve (10:UInt8) s)) (l_v (Uy rfl rfl) (l_k Y (Bu (t:=decide ((Ve (10:UInt8) s)≥0)) rfl (fun d=>?_) (fun d=>?_)))))
  ·obtain⟨m,B,a4,e⟩:=Bff d
   have q9:=lZ2 d
   refine Oj ((k,oC #[.string (bs s)] 9)::[]) [0,1,2,3,4,5,6,7,8] (by kernel_rfl) rfl rfl (Df 0 (zT 1 9) rfl ⟨Cal,sB⟩ rfl (Hv (v:=.string (bs s)) ty9.1 a mC rfl) (Df 1 (zT 2 8) rfl ⟨Cal,sB⟩ rfl (Yld.o (Ah (v:=iV m) (congrArg (Value.int .i64) B))) (Df 2 (zT 3 7) rfl ⟨Cal,sB⟩ rfl (Yld.o (Dm (((m+1):Nat):Int))) (Df 3 (zT 4 6) rfl ⟨Cal,sB⟩ rfl (Yld.o (Td (p:=s) (l:=0) (h:=m+1) Bwz rfl (.inl ⟨rfl,rfl⟩) (.inr ⟨_,rfl,rfl⟩) (by first|omega|(simp only[lZ6,lZ5]at *;omega)) (by first|omega|(simp only[lZ6,lZ5]at *;omega)))) (Df 4 (zT 5 5) rfl ⟨Cal,sB⟩ rfl (Hv (v:=.string (bs s)) ty9.1 a mC rfl) (Df 5 (zT 6 4) rfl ⟨Cal,sB⟩ rfl (Yld.o (Ah (v:=iV m) (congrArg (Value.int .i64) B))) (Df 6 (zT 7 3) rfl ⟨Cal,sB⟩ rfl (Yld.o (Dm (((m+1):Nat):Int))) (Df 7 (zT 8 2) rfl ⟨Cal,sB⟩ rfl (Yld.o (Td (p:=s) (l:=m+1) (h:=s.length) Bwz rfl (.inr ⟨_,rfl,rfl⟩) (.inl ⟨rfl,rfl⟩) (by first|omega|(simp only[lZ6,lZ5]at *;omega)) (by first|omega|(simp only[lZ6,lZ5]at *;omega)))) (Fc 8 (zT 9 1) rfl ⟨Cal,sB⟩ rfl (Yld.o (Cp (v:=.string (bs ((s.take (m+1)).drop 0))) rfl)) ⟨Cal,sB⟩ (Qg 9 (zT 10 0) rfl rfl (Cz (j:=0) (v:=.string (bs ((s.take s.length).drop (m+1)))) ty9.2 a rfl rfl rfl nL ?_)))))))))))
   refine Te rfl (kk F ?_)
   refine w_q rfl rfl fun a2 D=>l_v (Ah (v:=.func (.yield l) #[] #[]) g) (Av (.string (bs ((s.take (m+1)).drop 0))) (Arv (Xr (v:=.string (bs ((s.take (m+1)).drop 0))) rfl rfl (hy (pre.map (fun l:List UInt8=>Value.string (bs l))) (.string (bs ((s.take (m+1)).drop 0))) ((Iz [] ((s.take s.length).drop (m+1))).map (fun l:List UInt8=>Value.string (bs l))) _ _ [(k,oC #[.string (bs ((s.take s.length).drop (m+1)))] 9)] Bct (by rw[f,e,Ql,Qc]) b n) fun a7 aa ac u=>?_)))
   obtain⟨a0,P,G,u⟩:=u
   subst P
   rcases u with⟨x,J⟩|⟨x,L⟩
   ·subst x
    refine l_v (Iy rfl) (l_k D (Cg rfl (not_t rfl) (Al ⟨_,?_,(s.take s.length).drop (m+1),pre++[(s.take (m+1)).drop 0],a0,rfl,rfl,Cam b G,rfl,g,a,(by rw[f,e,lZ9];rfl),(by simp only[lZ6,lZ5,lZ4]at *;omega),Yp (by rw[Ql];rfl) J,trivial⟩)))
    simp only[lZ6,lZ5,lZ4]at *;omega
   subst x
   refine l_v (Iy rfl) (l_k D (Co rfl (Amc rfl) (Aj Cag (Aq (C ⟨Cam b G,.inr L⟩)))))
  have e:=Bfe d (by omega)
  have q9:=lZ1 d
  refine Ag rfl rfl (Arv (Dt (i:=0) (v:=.string (bs s)) ty9.1 a rfl rfl ?_))
  refine Au (.string (bs s)) (Cx rfl (Cz (j:=0) (v:=.string (ByteArray.mk #[])) ty9.2 a rfl rfl rfl nL ?_))
  refine Arx rfl rfl F fun a3 E=>l_v (Ah (v:=.func (.yield l) #[] #[]) g) (Av (.string (bs s)) (Arv (Xr (v:=.string (bs s)) rfl rfl (hy (pre.map (fun l:List UInt8=>Value.string (bs l))) (.string (bs s)) ((Iz [] ([]:List UInt8)).map (fun l:List UInt8=>Value.string (bs l))) _ _ [(k,oC #[.string (ByteArray.mk #[])] 9)] Bct (by rw[f,e,Ql,Qc];rfl) b n) fun a8 ab ad w=>?_)))
  obtain⟨a1,R,H,w⟩:=w
  subst R
  rcases w with⟨y,K⟩|⟨y,M⟩
  ·subst y
   refine l_v (Iy rfl) (l_k E (Cg rfl (not_t rfl) (Al ⟨_,?_,([]:List UInt8),pre++[s],a1,rfl,rfl,Cam b H,rfl,g,a,(by rw[f,e,lZ9];rfl),(by simp only[lZ6,lZ5,lZ4]at *;omega),Yp (by rw[Ql];rfl) K,trivial⟩)))
   simp only[lZ6,lZ5,lZ4]at *;omega
  subst y
  refine l_v (Iy rfl) (l_k E (Co rfl (Amc rfl) (Aj Cag (Aq (C ⟨Cam b H,.inr M⟩)))))
 have Z:=lZ1 q
 refine Aj Cag (Bx (N ?_))
 have O:s=[]:=Ain (by omega)
 refine⟨b,.inl ?_⟩
 rw[f,O,show Iz [] ([]:List UInt8)=[] from rfl,Za];exact n
theorem Bul:Fw Tryz.prog 85 .nilIface:=⟨_,Ab Byi,rfl⟩
theorem Bun:Fw Tryz.prog 102 (.pointer none):=⟨_,Ab Byo,rfl⟩
/-- A small number. -/
def SmF(x:Int):Prop:=0≤x∧x≤20
theorem SmF.or{a b}(ha:SmF a)(hb:SmF b):SmF (orF a b):=by unfold orF;split<;>assumption
theorem SmF.first{n f}(h:∀i,SmF (f i)):SmF (Hl n f):=by
 unfold Hl;split
 ·exact h _
 ·exact⟨by omega,by omega⟩
theorem SmF.ite{c}[Decidable c]{a b}(ha:SmF a)(hb:SmF b):SmF (if c then a else b):=by split<;>assumption
theorem fb0:SmF 0:=⟨by decide,by decide⟩
theorem fb1:SmF 1:=⟨by decide,by decide⟩
theorem fb2:SmF 2:=⟨by decide,by decide⟩
theorem fb4:SmF 4:=⟨by decide,by decide⟩
theorem fb5:SmF 5:=⟨by decide,by decide⟩
theorem fb6:SmF 6:=⟨by decide,by decide⟩
theorem Alb{l n}:SmF (Dd l n):=by
 unfold Dd
 refine SmF.ite fb2 (SmF.first fun i=>?_)
 unfold Nh;split
 ·exact SmF.ite (SmF.ite fb5 fb0) fb4
 ·exact fb0
theorem Bie{l n}:SmF (Fm l n):=by
 unfold Fm
 refine SmF.ite (SmF.first fun i=>?_) fb2
 unfold Nn;split
 ·exact SmF.ite fb0 fb1
 ·exact fb0
theorem Bem{m}:SmF (Cf m):=by
 unfold Cf
 refine SmF.or Alb (SmF.or Alb (SmF.or ?_ ?_))
 ·unfold Ew
  refine SmF.ite fb2 (SmF.first fun i=>?_)
  unfold fieldAt;split
  ·exact fb0
  ·exact SmF.ite (SmF.ite fb5 (SmF.ite (SmF.ite Bie fb1) fb6)) fb4
 ·unfold Jc
  refine SmF.ite fb2 (SmF.first fun i=>?_)
  unfold Jb;split
  ·exact fb0
  ·refine SmF.ite (SmF.ite fb2 (SmF.first fun k=>?_)) fb1
   unfold Gt;split
   ·exact fb0
   ·refine SmF.ite ?_ fb6
    generalize (if 0<k then _ else none:Option Int)=z
    cases z with
    | none=>exact fb0
    | some h'=>exact SmF.ite ⟨by decide,by decide⟩ fb0
theorem Bsh{l}:SmF (Gh l):=by
 unfold Gh
 refine SmF.or Alb ?_
 unfold Jy
 refine SmF.ite (SmF.ite fb2 (SmF.first fun i=>?_)) fb1
 unfold Hb;split
 ·exact fb0
 ·refine SmF.ite (SmF.ite fb5 (SmF.ite (SmF.first fun k=>?_) fb2)) fb4
  unfold Nk;split
  ·exact SmF.ite fb1 fb0
  ·exact fb0
theorem Bbo:∀a b:List UInt8,Value.string (bs a)=Value.string (bs b)→a=b:=fun a b h=>Brf (by injection h)
theorem Bux{W0 ρ σ r t}(hg:GlobE ρ)(hb:t.length≤60000)(hnr:Jp σ):CallsH (CY W0) 43 #[pV r,.string (bs t)] ρ ((r,oC #[nS,iV 0,nS,nS,nS,nS,nS,iV 0] 101)::σ) (fun w ρ' σ'=>Ro.le ρ ρ'∧((∃(f n:Int) (ve:Value),Gb t=(emL,emM,n,f)∧w = .iface 102 ve∧At ρ' ve (⟨n,f⟩:Wrg)∧σ'=σ)∨∃q:PSt,Gb t=(q.l,q.m,0,0)∧w = .nilIface∧At ρ' (pV r) (⟨q.l,q.m,q.last⟩:Rdg)∧σ'=σ)):=by
 refine Ayu (n:=56) (args:=[pV r,.string (bs t)]) [.cell 4 85] Tryz.func43 rfl rfl rfl rfl fun Q ah=>w_q rfl rfl fun K1 k1=>Arv (Eb (v:=pV r) rfl fun H=>?_)
 refine Arv (Ct Bul fun E=>?_)
 refine Dr k1 fun K4 k4=>Arv (Ct zr3 fun I=>?_)
 refine Ee (Cz (j:=0) (v:=iV 0) ty3.2 rfl rfl rfl rfl nL ?_)
 refine Ds k4 fun K6 K7 k6 k7=>Av (.string (bs t)) (Arv (Fj (vs:=[.string (bs t)]) (Bhe (t:=t)) Tryz.func87 ⟨rfl,trivial⟩ fun w8 gc gf c6=>?_))
 obtain⟨b4,k8,co,b5⟩:=c6
 replace b4:=b4.symm;replace b5:=b5.symm;subst b4 b5 co
 refine l_k k7 (Ao (Apu (ys:=(Iz [] t).map (fun l:List UInt8=>Value.string (bs l))) (O:=[(k8,oC #[.string (bs t)] 9)]) (fun pre ρ' τ=>∃(l1:List (List UInt8)) (i:Nat) (p:PSt) (u:Value) (J:Own) (y:Value) (K:Own) (z:Value) (L:Own) (B:Value) (M:Own) (C:Value) (N:Own) (D:Value) (P:Own),pre=l1.map (fun l:List UInt8=>Value.string (bs l))∧(J++(K++(L++(M++(N++(P++((I,oC #[iV i] 3)::((E,oC #[.nilIface] 85)::((H,oC #[pV r] 99)::((r,oC #[u,iV p.l.most,y,z,B,C,D,iV p.last] 101)::σ))))))))))=τ∧(i=l1.length)∧(Wl 0 p0 ((Ix t).take i) = .inr p)∧(RdB p i)∧(0≤p.last∧p.last≤7∧-9223372036854775808≤p.l.most∧p.l.most<9223372036854775808)∧Grow ρ' 9 u p.l.kinds J∧Grow ρ' 46 y p.l.tests K∧Grow ρ' 9 z p.m.houses L∧Grow ρ' 9 B p.m.marks M∧Grow ρ' 51 C p.m.fields N∧Grow ρ' 54 D p.m.sales P∧True) (fun ρ' τ=>∃(f:Int) (i:Nat) (ve:Value),((E,oC #[.iface 102 ve] 85)::σ)=τ∧Gb t=(emL,emM,((i+1:Nat):Int),f)∧At ρ' ve (⟨((i+1:Nat):Int),f⟩:Wrg)) rfl rfl nL rfl (Bir (by omega)) ?_ ?_ ?_ ?_ ?_))
 ·rintro pre ρa ρb σa hle ⟨l1,i,p,u,J,y,K,z,L,B,M,C,N,D,P,h1,h2,ac,ad,a5,aj,V,G,g,e,d,c,_⟩;exact⟨l1,i,p,u,J,y,K,z,L,B,M,C,N,D,P,h1,h2,ac,ad,a5,aj,V.mono hle,G.mono hle,g.mono hle,e.mono hle,d.mono hle,c.mono hle,trivial⟩
 ·exact⟨[],0,p0,nS,[],nS,[],nS,[],nS,[],nS,[],nS,[],rfl,rfl,rfl,rfl,Bqt,⟨by decide,by decide,by decide,by decide⟩,Hm,Hm,Hm,Hm,Hm,Hm,trivial⟩
 ·rintro fd _ x9 fe gd _ cp l9 ⟨l1,i,p,u,J,y,K,z,L,B,M,C,N,D,P,rfl,rfl,ac,ad,a5,aj,V,G,g,e,d,c,_⟩ ap f7
  obtain⟨a9,fc,ce,rfl⟩:=Ly Bbo cp
  replace hg:=GlobE.mono l9 hg
  refine Aj (Cai (by first|exact Fe ap (J++(K++(L++(M++(N++(P++[(I,Res.obj (Obj.cells #[iV i] 3 (0,0))),(E,Res.obj (Obj.cells #[.nilIface] 85 (0,0))),(H,Res.obj (Obj.cells #[pV r] 99 (0,0))),(r,Res.obj (Obj.cells #[u,iV p.l.most,y,z,B,C,D,iV p.last] 101 (0,0)))])))))) σ|simpa only[lZ9,Wj,Zm,Bfa]using Fe ap (J++(K++(L++(M++(N++(P++[(I,Res.obj (Obj.cells #[iV i] 3 (0,0))),(E,Res.obj (Obj.cells #[.nilIface] 85 (0,0))),(H,Res.obj (Obj.cells #[pV r] 99 (0,0))),(r,Res.obj (Obj.cells #[u,iV p.l.most,y,z,B,C,D,iV p.last] 101 (0,0)))])))))) σ)) ?_
  have b3:=Bjr ce ac
  obtain⟨f0,f1,f2,f3⟩:=id b3
  obtain⟨ch,ci,cj,ck⟩:=aj
  refine Bf (Au _ (Bj (Cai (by first|exact Fe (J++(K++(L++(M++(N++(P++[(I,Res.obj (Obj.cells #[iV i] 3 (0,0))),(E,Res.obj (Obj.cells #[.nilIface] 85 (0,0))),(H,Res.obj (Obj.cells #[pV r] 99 (0,0))),(r,Res.obj (Obj.cells #[u,iV p.l.most,y,z,B,C,D,iV p.last] 101 (0,0)))])))))) ap σ|simpa only[lZ9,Wj,Zm,Bfa]using Fe (J++(K++(L++(M++(N++(P++[(I,Res.obj (Obj.cells #[iV i] 3 (0,0))),(E,Res.obj (Obj.cells #[.nilIface] 85 (0,0))),(H,Res.obj (Obj.cells #[pV r] 99 (0,0))),(r,Res.obj (Obj.cells #[u,iV p.l.most,y,z,B,C,D,iV p.last] 101 (0,0)))])))))) ap σ)) (Ac ?_)))
  refine⟨rfl,rfl,Cal,_,rfl,?_⟩
  intro ae cm
  refine Aj (Cai (by first|exact Fe ae (J++(K++(L++(M++(N++(P++[(I,Res.obj (Obj.cells #[iV i] 3 (0,0))),(E,Res.obj (Obj.cells #[.nilIface] 85 (0,0))),(H,Res.obj (Obj.cells #[pV r] 99 (0,0))),(r,Res.obj (Obj.cells #[u,iV p.l.most,y,z,B,C,D,iV p.last] 101 (0,0)))])))))) σ|simpa only[lZ9,Wj,Zm,Bfa]using Fe ae (J++(K++(L++(M++(N++(P++[(I,Res.obj (Obj.cells #[iV i] 3 (0,0))),(E,Res.obj (Obj.cells #[.nilIface] 85 (0,0))),(H,Res.obj (Obj.cells #[pV r] 99 (0,0))),(r,Res.obj (Obj.cells #[u,iV p.l.most,y,z,B,C,D,iV p.last] 101 (0,0)))])))))) σ)) (Ao (Cr fun dw cq=>Arv (Gu (v:=iV i) ty3.1 rfl (Pz _ (Pz _ (Pz _ (Pz _ (Pz _ (Pz _ mC)))))) rfl ?_)))
  refine l_v (Dm (((i+1):Nat):Int)) (Bj (Cai (Ea (Ea (Ea (Ea (Ea Asd)))))) (Ee (Cz (j:=0) (v:=iV ((i+1):Nat)) ty3.2 rfl rfl rfl rfl nL ?_)))
  refine Asa cq fun dx bj=>Oj ((I,oC #[iV ((i+1):Nat)] 3)::((H,oC #[pV r] 99)::[])) [0,1,2,3,4,5] (by kernel_rfl) rfl rfl (Df 0 (zT 1 5) rfl ⟨Cal,sB⟩ rfl (Hv (v:=pV r) ⟨_,Bzd,rfl⟩ rfl (lZ7 _ mC) rfl) (Df 1 (zT 2 4) rfl ⟨Cal,sB⟩ rfl (Hv (v:=iV ((i+1):Nat)) ty3.1 rfl mC rfl) (Fc 2 (zT 3 3) rfl ⟨Cal,sB⟩ rfl (Yld.o (Ah rfl)) ⟨Cal,sB⟩ (Lp 3 (zT 4 2) rfl rfl (Bm (Asr (p:=a9) (by omega)) Tryz.func89 rfl rfl ⟨rfl,rfl,trivial⟩ ⟨⟨Cal,sB⟩,?_⟩)))))
  refine Lg (Dz (Bv (Bv (Bv (Bv Ase))))) (Lg (Bv (Dz (Bv (Bv (Bv Ase))))) (Lg (Bv (Bv (Dz (Bv (Bv Ase))))) (Lg (Bv (Bv (Bv (Dz (Bv Ase))))) (Lg (Bv (Bv (Bv (Bv (Dz Ase))))) (Lg (Bv (Bv (Bv (Bv (Bv Asc))))) (Lg (Ea (Ea (Ea (Ea (Ea (Ea (Iq (Iq Arz)))))))) (Lp 4 (zT 5 1) rfl rfl (Fj (vs:=[pV r,iV ((i+1):Nat),.string (bs (Wi a9))]) (Brp (r:=r) (p:=p) (i:=i) hg (show I64 p.l.most from by constructor<;>omega) (show I64 p.last from by constructor<;>omega) (Axa a5 (by omega)) V G g e d c (by omega) (by omega) (by omega) (Gv (Gv (Gv (Aws cm hnr))))) Tryz.func88 ⟨rfl,rfl,rfl,trivial⟩ fun fs ft ge b1=>?_))))))))
  obtain⟨aa,b1⟩:=b1
  rcases b1 with⟨c1,a2,a8,f6,c4,b6,c2,T⟩|⟨ak,er,a8,b6,⟨be,bh,bd,bf,bc,bg,av,ay,au,aw,ar,ax,ca,cg,cd,cc,cn,cb,cf,c9,T⟩,T⟩
  ·replace T:=T.symm;subst T b6
   obtain⟨es,et⟩:=c4
   refine⟨⟨aa,sB⟩,?_⟩
   refine Fc 5 (zT 6 0) rfl ⟨aa,sB⟩ rfl (Yld.o (Cp (v:=.iface 102 a2) rfl)) ⟨Cal,sB⟩ (Te rfl (kk bj ?_))
   refine Cr fun dy cr=>Av (.iface 102 a2) (l_v (Ahk (w:=.iface 102 a2) (b:=false) Byb (.inr ⟨_,_,rfl,rfl⟩) rfl) (l_k cr (Et (Cr fun dz ct=>Av (.iface 102 a2) (Ee (Cz (j:=1) (v:=.iface 102 a2) ⟨_,Ab Byi,rfl⟩ rfl rfl rfl rfl nL ?_))))))
   refine l_k ct (Aj Cag (Aj (Cai Arz) (Aj Cag (Aj (Cai (by first|exact Fe [(E,Res.obj (Obj.cells #[.iface 102 a2] 85 (0,0)))] ae σ|simpa only[lZ9,Wj,Zm,Bfa]using Fe [(E,Res.obj (Obj.cells #[.iface 102 a2] 85 (0,0)))] ae σ)) (Aq ⟨aa,_,rfl,.inr ⟨rfl,c1,i,a2,rfl,Zf (by omega) ad b3.1 a8,c2⟩⟩)))))
  subst ca b6
  simp only[lZ9,Wj]at T
  replace T:=T.symm;subst T
  obtain⟨f4,f5⟩:=cg;obtain⟨ey,ez⟩:=cd
  refine⟨⟨aa,sB⟩,?_⟩
  refine Fc 5 (zT 6 0) rfl ⟨aa,sB⟩ rfl (Yld.o (Cp (v:=.nilIface) rfl)) ⟨Cal,sB⟩ (Te rfl (kk bj ?_))
  refine Cr fun e0 cu=>Av .nilIface (l_v (Ahk (w:=.nilIface) (b:=true) Byb (.inl ⟨rfl,rfl⟩) rfl) (l_k cu (Dy rfl (Aj (Cai (Iq (Ea (Ea (Ea (Ea (Ea (Ea (Iq Arz))))))))) (Aj (Cai (Iq (Iq (Ea (Ea (Ea (Ea (Ea (Ea Arz))))))))) (Aj (Cai (Iq (Iq (Iq (Ea (Ea (Ea (Ea (Ea Asd))))))))) (Aj (Cai (Dz (Dz (Dz (Dz (Bv (Bv (Bv (Bv Ase))))))))) (Aj (Cai (Bv (Dz (Dz (Dz (Dz (Bv (Bv (Bv Ase))))))))) (Aj (Cai (Bv (Bv (Dz (Dz (Dz (Dz (Bv (Bv Ase))))))))) (Aj (Cai (Bv (Bv (Bv (Dz (Dz (Dz (Dz (Bv Ase))))))))) (Aj (Cai (Bv (Bv (Bv (Bv (Dz (Dz (Dz (Dz Ase))))))))) (Aj (Cai (Bv (Bv (Bv (Bv (Bv (Dz (Dz (Dz Asc))))))))) (Aj (Cai (by first|exact Fe (av++(ay++(au++(aw++(ar++(ax++[(I,Res.obj (Obj.cells #[iV ((i+1):Nat)] 3 (0,0))),(E,Res.obj (Obj.cells #[.nilIface] 85 (0,0))),(H,Res.obj (Obj.cells #[pV r] 99 (0,0))),(r,Res.obj (Obj.cells #[be,iV ak.l.most,bh,bd,bf,bc,bg,iV ak.last] 101 (0,0)))])))))) ae σ|simpa only[lZ9,Wj,Zm,Bfa]using Fe (av++(ay++(au++(aw++(ar++(ax++[(I,Res.obj (Obj.cells #[iV ((i+1):Nat)] 3 (0,0))),(E,Res.obj (Obj.cells #[.nilIface] 85 (0,0))),(H,Res.obj (Obj.cells #[pV r] 99 (0,0))),(r,Res.obj (Obj.cells #[be,iV ak.l.most,bh,bd,bf,bc,bg,iV ak.last] 101 (0,0)))])))))) ae σ)) (Al ⟨aa,_,rfl,.inl ⟨rfl,l1++[a9],i+1,ak,be,av,bh,ay,bd,au,bf,aw,bc,ar,bg,ax,(by simp),rfl,(by rw[lZ0,ac];rfl),Axf ad b3.1 a8,(Ahd a8 a5 (by omega)).1,⟨(Ahd a8 a5 (by omega)).2.1,(Ahd a8 a5 (by omega)).2.2,by omega,by omega⟩,Fy (rfl) cc,Fy (rfl) cn,Fy (rfl) cb,Fy (rfl) cf,Fy (rfl) c9,Fy (rfl) T,trivial⟩⟩))))))))))))))
 ·rintro f9 du _ an ⟨l1,i,p,u,J,y,K,z,L,B,M,C,N,D,P,cl,rfl,ac,ad,a5,aj,V,G,g,e,d,c,_⟩
  obtain rfl:=Nf Bbo cl
  apply k6
  refine Ai fun e1 cv=>Ai fun e2 cw=>?_
  obtain⟨ch,ci,cj,ck⟩:=aj
  have am:=Bcy ad (Baa ac)
  refine Oj ((I,oC #[iV i] 3)::((E,oC #[.nilIface] 85)::((H,oC #[pV r] 99)::((r,oC #[u,iV p.l.most,y,z,B,C,D,iV p.last] 101)::[])))) [0,1,2,3,4,5,6] (by kernel_rfl) rfl rfl (Df 0 (zT 1 6) rfl ⟨Cal,sB⟩ rfl (Hv (v:=pV r) ⟨_,Bzd,rfl⟩ rfl (lZ7 _ (lZ7 _ mC)) rfl) (Df 1 (zT 2 5) rfl ⟨Cal,sB⟩ rfl (Yld.o (Ck rfl)) (Df 2 (zT 3 4) rfl ⟨Cal,sB⟩ rfl (Yld.o (Cb Bxo rfl rfl ty3.2 (by decide) rfl rfl)) (Df 3 (zT 4 3) rfl ⟨Cal,sB⟩ rfl (Hv (v:=iV p.last) ty3.1 rfl (lZ7 _ (lZ7 _ (lZ7 _ mC))) rfl) (Fc 4 (zT 5 2) rfl ⟨Cal,sB⟩ rfl (Yld.o (Dn (ns:=[]) (vs:=[]) (zc:=[]) (cs:=[]) Byx Bma rfl trivial (EvB.map trivial) rfl)) ⟨Cal,sB⟩ (Lp 5 (zT 6 1) rfl rfl (Bm Akp Tryz.func90 rfl rfl ⟨rfl,trivial⟩ ⟨⟨Cal,sB⟩,?_⟩)))))))
  refine Fc 6 (zT 7 0) rfl ⟨Cal,sB⟩ rfl (Yld.o (Fk)) ⟨Cal,sB⟩ (Te rfl (kk cw ?_))
  refine Cw (fun aq=>?_) (fun aq=>?_)
  ·have df:=lZ2 aq
   refine Ai fun e3 cx=>?_
   have hP:=Amh (by omega) am (by omega)
   refine Bf ?_
   have dj:Val du (.agg #[iV 0,iV 3]) (⟨0,3⟩:Wrg):=Wrg.shut (x:=(⟨0,3⟩:Wrg)) (iC 0) (iC 3)
   refine l_v (Dn (ns:=[1,1]) (vs:=[(0,(iV 0)),(1,(iV 3))]) (zc:=Ahl) (cs:=[iV 0,iV 3]) Byd Ahm rfl ⟨ty3.2,ty31.2,trivial⟩ (EvB.map ⟨⟨rfl,rfl⟩,⟨rfl,rfl⟩,trivial⟩) ((Be (cs:=[iV 0]) rfl rfl nL).trans ((Be (cs:=[iV 3]) rfl rfl nL).trans rfl))) (Arv (Eb (v:=.agg #[iV 0,iV 3]) rfl fun bk=>?_))
   refine Bb dj fun fu a3 F=>?_
   replace V:=Caj a3 V
   replace G:=Caj a3 G
   replace g:=Caj a3 g
   replace e:=Caj a3 e
   replace d:=Caj a3 d
   replace c:=Caj a3 c
   refine l_v (Jd Byc rfl rfl) (Bj (Cai (Iq (Ea (Ea (Ea (Ea (Ea (Ea Arz)))))))) (Ee (Cz (j:=0) (v:=.iface 102 (pV bk)) ⟨_,Ab Byi,rfl⟩ rfl rfl rfl rfl nL ?_)))
   refine l_k cx (Aj (Cai (Dz Asc)) (Hc V fun fv a4 ff=>?_))
   replace G:=Caj a4 G
   replace g:=Caj a4 g
   replace e:=Caj a4 e
   replace d:=Caj a4 d
   replace c:=Caj a4 c
   replace F:=At.mono a4 F
   refine Aj (Cai (Dz Asc)) (Hc G fun fw ab fg=>?_)
   replace g:=Caj ab g
   replace e:=Caj ab e
   replace d:=Caj ab d
   replace c:=Caj ab c
   replace F:=At.mono ab F
   refine Aj (Cai (Dz Asc)) (Hc g fun fx ai fh=>?_)
   replace e:=Caj ai e
   replace d:=Caj ai d
   replace c:=Caj ai c
   replace F:=At.mono ai F
   refine Aj (Cai (Dz Asc)) (Hc e fun fy ao fi=>?_)
   replace d:=Caj ao d
   replace c:=Caj ao c
   replace F:=At.mono ao F
   refine Aj (Cai (Dz Asc)) (Hc d fun fz b7 fj=>?_)
   replace c:=Caj b7 c
   replace F:=At.mono b7 F
   refine Aj (Cai (Dz Asc)) (Hc c fun g0 bo fk=>?_)
   replace F:=At.mono bo F
   refine Aj (Cai (Iq Arz)) (Aj Cag (Aj (Cai (Iq Arz)) (Aj Cag (Aj (Cai (Iq Arz)) (Aj Cag (Aj (Cai Arz) (Aq (ah _ _ _ _ _ _ [.iface 102 (pV bk)] ⟨Rj ⟨_,Byb,rfl⟩ rfl (i:=1) rfl rfl,trivial⟩ (Ghost.drop.trans Cag) ⟨Cam (Cam (Cam (Cam (Cam (Cam (Cam an a3) a4) ab) ai) ao) b7) bo,.inl ⟨_,_,_,hP,rfl,F,rfl⟩⟩))))))))
  have df:=lZ1 aq
  refine Al (kk cv ?_)
  refine Ai fun e4 cy=>Ai fun e5 cz=>?_
  have b2:¬p.last<3:=by omega
  obtain⟨eu,ev⟩:=Bsh (l:=p.l);obtain⟨ew,ex⟩:=Bem (m:=p.m)
  refine Aj (Cai Asc) (Hc V fun g1 W R=>?_)
  replace G:=Caj W G
  replace g:=Caj W g
  replace e:=Caj W e
  replace d:=Caj W d
  replace c:=Caj W c
  refine Aj (Cai Asc) (Hc G fun g2 X U=>?_)
  replace g:=Caj X g
  replace e:=Caj X e
  replace d:=Caj X d
  replace c:=Caj X c
  replace R:=Val.mono X R
  refine Aj (Cai Asc) (Hc g fun g3 Y a6=>?_)
  replace e:=Caj Y e
  replace d:=Caj Y d
  replace c:=Caj Y c
  replace R:=Val.mono Y R
  replace U:=Val.mono Y U
  refine Aj (Cai Asc) (Hc e fun g4 Z al=>?_)
  replace d:=Caj Z d
  replace c:=Caj Z c
  replace R:=Val.mono Z R
  replace U:=Val.mono Z U
  replace a6:=Val.mono Z a6
  refine Aj (Cai Asc) (Hc d fun g5 a0 b9=>?_)
  replace c:=Caj a0 c
  replace R:=Val.mono a0 R
  replace U:=Val.mono a0 U
  replace a6:=Val.mono a0 a6
  replace al:=Val.mono a0 al
  refine Aj (Cai Asc) (Hc c fun dv a1 dk=>?_)
  replace R:=Val.mono a1 R
  replace U:=Val.mono a1 U
  replace a6:=Val.mono a1 a6
  replace al:=Val.mono a1 al
  replace b9:=Val.mono a1 b9
  have dl:Val dv (.agg #[u,iV p.l.most,y,z,B,C,D,iV p.last]) (⟨(⟨p.l.kinds,p.l.most,p.l.tests⟩:Lab),(⟨p.m.houses,p.m.marks,p.m.fields,p.m.sales⟩:Market),p.last⟩:Rdg):=Rdg.shut (x:=(⟨(⟨p.l.kinds,p.l.most,p.l.tests⟩:Lab),(⟨p.m.houses,p.m.marks,p.m.fields,p.m.sales⟩:Market),p.last⟩:Rdg)) R (iC p.l.most) U a6 al b9 dk (iC p.last)
  refine Aj (Cai (Iq (Iq (Iq Arz)))) (Nt (a:=(⟨p.l,p.m,p.last⟩:Rdg)) (v:=.agg #[u,iV p.l.most,y,z,B,C,D,iV p.last]) dl fun bi b8 a7=>Oj ((I,oC #[iV i] 3)::((E,oC #[.nilIface] 85)::((H,oC #[pV r] 99)::[]))) [0,1,2,3,4,5,6,7,8,9,10,11,12] (by kernel_rfl) rfl rfl (Df 0 Aoe rfl ⟨Cal,sB⟩ rfl (Hv (v:=pV r) ⟨_,Bzd,rfl⟩ rfl (lZ7 _ (lZ7 _ mC)) rfl) (Df 1 (zT 2 11) rfl ⟨Cal,sB⟩ rfl (Yld.o (Hj rfl a7)) (Zc 2 (zT 3 10) rfl ⟨Cal,sB⟩ rfl (Qj (Ba Rdg.f_l Bxo rfl Zu a7)) fun fo dm=>Zc 3 (zT 4 9) rfl ⟨Cal,sB⟩ rfl (Qj (Gz Zu dm)) fun fp dn=>Df 5 [o1,o1,o1,o1,o0,o1,o0,o0,o0,o0,o0,o0,o0] rfl ⟨Cal,sB⟩ rfl (Hv (v:=pV r) ⟨_,Bzd,rfl⟩ rfl (lZ7 _ (lZ7 _ mC)) rfl) (Df 6 [o1,o1,o1,o1,o0,o1,o1,o0,o0,o0,o0,o0,o0] rfl ⟨Cal,sB⟩ rfl (Yld.o (Hj rfl a7)) (Zc 7 [o1,o1,o1,o1,o0,o1,o1,o1,o0,o0,o0,o0,o0] rfl ⟨Cal,sB⟩ rfl (Qj (Ba Rdg.f_m Bxo rfl Ln a7)) fun fq dp=>Zc 8 [o1,o1,o1,o1,o0,o1,o1,o1,o1,o0,o0,o0,o0] rfl ⟨Cal,sB⟩ rfl (Qj (Gz Ln dp)) fun fr dq=>Df 12 [o1,o1,o1,o1,o0,o1,o1,o1,o1,o0,o0,o0,o1] rfl ⟨Cal,sB⟩ rfl (Yld.o (Ah rfl)) (Lp 4 [o1,o1,o1,o1,o1,o1,o1,o1,o1,o0,o0,o0,o1] rfl rfl (Bm (Aaz dn) Tryz.func28 rfl rfl ⟨rfl,trivial⟩ ⟨⟨Cal,sB⟩,?_⟩))))))))
  refine Lp 9 [o1,o1,o1,o1,o1,o1,o1,o1,o1,o1,o0,o0,o1] rfl rfl (Bm (Js dq) Tryz.func29 rfl rfl ⟨rfl,trivial⟩ ⟨⟨Cal,sB⟩,?_⟩)
  refine Lp 10 [o1,o1,o1,o1,o1,o1,o1,o1,o1,o1,o1,o0,o1] rfl rfl (Cj (xs:=[Gh p.l,Cf p.m]) (vs:=[iV (Gh p.l),iV (Cf p.m)]) Byy ty31 Bwx (by decide) (Dk (os:=[.tmp 37,.tmp 42]) ⟨rfl,rfl,trivial⟩) ⟨Cv.2 ⟨rfl,by constructor<;>omega⟩,Cv.2 ⟨rfl,by constructor<;>omega⟩,trivial⟩ (by decide) fun bl c0 bv=>⟨⟨Cal,sB⟩,?_⟩)
  have k:Grow bi 33 (.slice (some ⟨bl,0,none⟩) 2 2) ([Gh p.l,Cf p.m]:List Int) [(bl,oC c0.toArray 33)]:=Bs bv rfl (by decide)
  have em:=Grow.len k
  refine Fc 11 Aoj rfl ⟨Cal,sB⟩ rfl (Yld.o (Ajw (el':=33) Byy rfl k)) ⟨Cal,sB⟩ (Te rfl (kk cz ?_))
  refine Ao (Ym (Nu (Cr fun e6 d0=>l_v (Fk) (Asa d0 fun e7 d1=>Co rfl (Oe (by simp only[lZ3,lZ4];omega)) (Al (kk d1 ?_))))))
  refine Ai fun e8 d2=>Ao (Cr fun e9 d3=>l_v (Nw 0 Byy ty31.info rfl k (q:=0) rfl rfl (by first|omega|(simp only[lZ3,lZ4];omega)) rfl) ?_)
  obtain⟨bx,az⟩:=Ed (xs:=([Gh p.l,Cf p.m]:List Int)) (i:=0) (by first|omega|(simp only[lZ3,lZ4];omega))
  have c7:bx=Gh p.l:=Option.some.inj az.symm
  subst c7
  have⟨en,eo⟩:=Avt k az
  refine Azz ⟨Cal,fun _ h=>h⟩ rfl (Ayb k (fun p hp=>Uf _ hp) az ty31.1 rfl rfl) (Au _ (Dr d3 fun ea d4=>Av (iV (Gh p.l)) (l_v (Rf) (l_k d4 (Cw (fun af=>?_) (fun af=>?_))))))
  ·have hlf:Gh p.l≠0:=Ls af
   have dh:=Ls af
   refine Ai fun eb d5=>?_
   have hP:=Arb (by omega) am b2 hlf
   refine Bf (Av _ ?_)
   have dr:Val bi (.agg #[iV 0,iV (Gh p.l)]) (⟨0,Gh p.l⟩:Wrg):=Wrg.shut (x:=(⟨0,Gh p.l⟩:Wrg)) (iC 0) (iC (Gh p.l))
   refine l_v (Dn (ns:=[1,1]) (vs:=[(0,(iV 0)),(1,(iV (Gh p.l)))]) (zc:=Ahl) (cs:=[iV 0,iV (Gh p.l)]) Byd Ahm rfl ⟨ty3.2,ty31.2,trivial⟩ (EvB.map ⟨⟨rfl,rfl⟩,⟨rfl,rfl⟩,trivial⟩) ((Be (cs:=[iV 0]) rfl rfl nL).trans ((Be (cs:=[iV (Gh p.l)]) rfl rfl nL).trans rfl))) (Arv (Eb (v:=.agg #[iV 0,iV (Gh p.l)]) rfl fun bm=>?_))
   refine Bb dr fun g6 bp ba=>?_
   replace k:=Caj bp k
   refine l_v (Jd Byc rfl rfl) (Bj (Cai (Iq (Iq Arz))) (Ee (Cz (j:=0) (v:=.iface 102 (pV bm)) ⟨_,Ab Byi,rfl⟩ rfl rfl rfl rfl nL ?_)))
   refine l_k d5 (Aj (Cai Arz) (Hc k fun g7 bq fl=>?_))
   replace ba:=At.mono bq ba
   refine Aj (Cai (Iq Arz)) (Aj Cag (Aj (Cai (Iq Arz)) (Aj Cag (Aj (Cai Arz) (Aq (ah _ _ _ _ _ _ [.iface 102 (pV bm)] ⟨Rj ⟨_,Byb,rfl⟩ rfl (i:=1) rfl rfl,trivial⟩ (Ghost.drop.trans Cag) ⟨Cam (Cam (Cam (Cam (Cam (Cam (Cam (Cam (Cam an W) X) Y) Z) a0) a1) b8) bp) bq,.inl ⟨_,_,_,hP,rfl,ba,rfl⟩⟩))))))
  have hlf:Gh p.l=0:=Jh af
  have dh:=Jh af
  refine Al (kk d2 ?_)
  refine Bf (l_v (Dm 1) (Av _ (Ac ?_)))
  refine Nu (Cr fun ec d6=>l_v (Fk) (Asa d6 fun ed d7=>Co rfl (Oe (by simp only[lZ3,lZ4];omega)) (Al (kk d7 ?_))))
  refine Ai fun ee d8=>Ao (Cr fun ef d9=>l_v (Nw 1 Byy ty31.info rfl k (q:=1) rfl rfl (by first|omega|(simp only[lZ3,lZ4];omega)) rfl) ?_)
  obtain⟨bz,b0⟩:=Ed (xs:=([Gh p.l,Cf p.m]:List Int)) (i:=1) (by first|omega|(simp only[lZ3,lZ4];omega))
  have c8:bz=Cf p.m:=Option.some.inj b0.symm
  subst c8
  have⟨ep,eq⟩:=Avt k b0
  refine Azz ⟨Cal,fun _ h=>h⟩ rfl (Ayb k (fun p hp=>Uf _ hp) b0 ty31.1 rfl rfl) (Au _ (Dr d9 fun eg da=>Av (iV (Cf p.m)) (l_v (Rf) (l_k da (Cw (fun ag=>?_) (fun ag=>?_))))))
  ·have hmf:Cf p.m≠0:=Ls ag
   have di:=Ls ag
   refine Ai fun eh db=>?_
   have hP:=Aey (by omega) am b2 hlf hmf
   refine Bf (Av _ ?_)
   have ds:Val bi (.agg #[iV 0,iV (Cf p.m)]) (⟨0,Cf p.m⟩:Wrg):=Wrg.shut (x:=(⟨0,Cf p.m⟩:Wrg)) (iC 0) (iC (Cf p.m))
   refine l_v (Dn (ns:=[1,1]) (vs:=[(0,(iV 0)),(1,(iV (Cf p.m)))]) (zc:=Ahl) (cs:=[iV 0,iV (Cf p.m)]) Byd Ahm rfl ⟨ty3.2,ty31.2,trivial⟩ (EvB.map ⟨⟨rfl,rfl⟩,⟨rfl,rfl⟩,trivial⟩) ((Be (cs:=[iV 0]) rfl rfl nL).trans ((Be (cs:=[iV (Cf p.m)]) rfl rfl nL).trans rfl))) (Arv (Eb (v:=.agg #[iV 0,iV (Cf p.m)]) rfl fun bn=>?_))
   refine Bb ds fun g8 br bb=>?_
   replace k:=Caj br k
   refine l_v (Jd Byc rfl rfl) (Bj (Cai (Iq (Iq Arz))) (Ee (Cz (j:=0) (v:=.iface 102 (pV bn)) ⟨_,Ab Byi,rfl⟩ rfl rfl rfl rfl nL ?_)))
   refine l_k db (Aj (Cai Arz) (Hc k fun g9 bt fm=>?_))
   replace bb:=At.mono bt bb
   refine Aj (Cai (Iq Arz)) (Aj Cag (Aj (Cai (Iq Arz)) (Aj Cag (Aj (Cai Arz) (Aq (ah _ _ _ _ _ _ [.iface 102 (pV bn)] ⟨Rj ⟨_,Byb,rfl⟩ rfl (i:=1) rfl rfl,trivial⟩ (Ghost.drop.trans Cag) ⟨Cam (Cam (Cam (Cam (Cam (Cam (Cam (Cam (Cam an W) X) Y) Z) a0) a1) b8) br) bt,.inl ⟨_,_,_,hP,rfl,bb,rfl⟩⟩))))))
  have hmf:Cf p.m=0:=Jh ag
  have di:=Jh ag
  refine Al (kk d8 ?_)
  refine Bf (l_v (Dm 2) (Av _ (Ac ?_)))
  refine Nu (Cr fun ei dc=>l_v (Fk) (Asa dc fun ej fa=>Cg rfl (Jw (by simp only[lZ3,lZ4];omega)) (Bx (kk cy ?_))))
  refine Ai fun ek dd=>?_
  have hP:=Ami (by omega) am b2 hlf hmf
  refine Bf (Bj (Cai (Iq (Iq Arz))) (Ee (Cz (j:=0) (v:=.nilIface) ⟨_,Ab Byi,rfl⟩ rfl rfl rfl rfl nL ?_)))
  refine l_k dd (Aj (Cai Arz) (Hc k fun ga bu fn=>?_))
  replace a7:=At.mono bu a7
  refine Aj (Cai (Iq Arz)) (Aj Cag (Aj (Cai (Iq Arz)) (Aj Cag (Aj (Cai Arz) (Aq (ah _ _ _ _ _ _ [.nilIface] ⟨Rj ⟨_,Byb,rfl⟩ rfl (i:=1) rfl rfl,trivial⟩ (Ghost.drop.trans Cag) ⟨Cam (Cam (Cam (Cam (Cam (Cam (Cam (Cam an W) X) Y) Z) a0) a1) b8) bu,.inr ⟨p,hP,rfl,a7,rfl⟩⟩))))))
 ·rintro fb gb _ de ⟨el,f8,dt,rfl,c5,c3⟩
  refine ah _ _ _ _ _ _ [.iface 102 dt] ⟨Rj ⟨_,Byb,rfl⟩ rfl (i:=1) rfl rfl,trivial⟩ (Ghost.drop.trans Cag) ⟨de,.inl ⟨_,_,_,c5,rfl,c3,rfl⟩⟩
end
section
open Go Go.Extern Go.Extern.Rtype
theorem pk1:Tryz.prog.packed 1244=false:=by kernel_rfl
theorem pk2:Tryz.prog.packed 1241=false:=by kernel_rfl
theorem pk3:Tryz.prog.packed 1226=false:=by kernel_rfl
theorem mp1:Tryz.prog.methodsOfAPack Tryz.prog.depth 102=false:=by kernel_rfl
theorem mp2:Tryz.prog.methodsOfAPack Tryz.prog.depth 85=false:=by kernel_rfl
theorem ct1:∃n,Tryz.prog.cutTypes.find? (·.1 == "internal/reflectlite.rtype")=some (n,218):=⟨ "internal/reflectlite.rtype",by kernel_rfl⟩
theorem ki1:∃i,Tryz.prog.info? 105=some i∧i.desc = .pointer 102:=⟨_,Ab Tryz.typeInfo105,rfl⟩
theorem ki2:∃i,Tryz.prog.info? 102=some i∧i.desc = .pointer 107:=⟨_,Ab Byo,rfl⟩
section
variable{P:Program}{ρ:Ro}{σ:Own}{t:TypeId}{v:Value}
theorem Ano{Q}(h:Q (typeHandle P t) σ):wpS P ρ (handle t) σ Q:=by
 show wpS P ρ ((program).bind _) σ Q
 rw[Ad];exact h
theorem Vr{Q}(h:Q t σ):wpS P ρ (ofHandle (typeHandle P t)) σ Q:=by
 show wpS P ρ ((program).bind _) σ Q
 rw[Ad]
 show wpS P ρ (match handleType P (typeHandle P t) with|some t=>_|none=>_) σ Q
 have e:handleType P (typeHandle P t)=some t:=by simp[handleType,typeHandle]
 rw[e];exact h
theorem Ww{w Q}(hp:P.packed t=false)(h:Q () σ):wpS P ρ (noPack w t) σ Q:=by
 show wpS P ρ ((program).bind _) σ Q
 rw[Ad]
 show wpS P ρ (if P.packed t=true then _ else _) σ Q
 rw[hp];exact h
theorem Un{w Q}(hp:P.methodsOfAPack P.depth t=false)(h:Q () σ):wpS P ρ (noPackMethods w t) σ Q:=by
 show wpS P ρ ((program).bind _) σ Q
 rw[Ad]
 show wpS P ρ ((program).bind _) σ _
 rw[Ad]
 show wpS P ρ (if P.methodsOfAPack P.depth t=true then _ else _) σ Q
 rw[hp];exact h
theorem Wz{e Q}(hi:∃i,P.info? t=some i∧i.desc = .pointer e)(h:∀i:TypeInfo,i.desc = .pointer e→Q (t,i) σ):wpS P ρ (under t) σ Q:=by
 obtain⟨i,b,a⟩:=hi
 show wpS P ρ ((typeInfo t).bind _) σ Q
 rw[Ad]
 refine Gj b ?_
 show wpS P ρ (match i.desc with | .named _ u=>_|_=>_) σ Q
 rw[a];exact h i a
theorem Ask{e Q}(hi:∃i,P.info? t=some i∧i.desc = .pointer e)(h:Q 22 σ):wpS P ρ (kind t) σ Q:=by
 show wpS P ρ ((under t).bind _) σ Q
 rw[Ad]
 refine Wz hi fun i hd=>?_
 show wpS P ρ (match i.desc with|_=>_) σ Q
 simp only[hd];exact h
theorem Asi{e Q}(hi:∃i,P.info? t=some i∧i.desc = .pointer e)(h:Q (some e) σ):wpS P ρ (elem? t) σ Q:=by
 show wpS P ρ ((under t).bind _) σ Q
 rw[Ad]
 refine Wz hi fun i hd=>?_
 show wpS P ρ (match i.desc with | .array _ e | .chan _ e | .map _ e | .pointer e | .slice e=>_|_=>_) σ Q
 simp only[hd];exact h
theorem Ado{rt Q}(hc:∃n,P.cutTypes.find? (·.1 == "internal/reflectlite.rtype")=some (n,rt))(h:Q (.iface rt (.agg #[typeHandle P t])) σ):wpS P ρ (ReflectliteType.toType t) σ Q:=by
 obtain⟨n,hn⟩:=hc
 show wpS P ρ ((cutType "internal/reflectlite.rtype").bind _) σ Q
 rw[Ad]
 show wpS P ρ ((program).bind _) σ _
 rw[Ad]
 show wpS P ρ (match P.cutTypes.find? (·.1 == "internal/reflectlite.rtype") with|some (_,t)=>_|none=>_) σ _
 rw[hn]
 show wpS P ρ ((handle t).bind _) σ Q
 rw[Ad]
 exact Ano h
/-- A reflectlite.Value of a pointer's type. -/
def So(P:Program)(t:TypeId)(a:Addr)(k:Int):Value:=.agg #[typeHandle P t,.pointer (some a),.int .u64 k]
theorem Blr{e a Q}(fl:Nat)(k:Int)(hi:∃i,P.info? t=some i∧i.desc = .pointer e)(hk:Int.ofNat (22+128+fl)=k)(h:Q (So P t a k) σ):wpS P ρ (ReflectliteValue.mk t a fl) σ Q:=by
 show wpS P ρ ((handle t).bind _) σ Q
 rw[Ad]
 refine Ano ?_
 show wpS P ρ ((kind t).bind _) σ Q
 rw[Ad]
 subst hk
 exact Ask hi h
theorem Aop{e p Q}(hi:∃i,P.info? t=some i∧i.desc = .pointer e)(h:∀r,Q (So P t ⟨r,0,none⟩ 150) ((r,.obj (.cells #[.pointer p] t (0,0)))::σ)):wpS P ρ (ReflectliteValue.unpack (.iface t (.pointer p))) σ Q:=by
 show wpS P ρ ((newVar t (.pointer p)).bind _) σ Q
 rw[Ad]
 exact Ik fun r=>Blr 0 150 hi rfl (h r)
theorem Bdk{a Q}(h:Q (some (t,a,150)) σ):wpS P ρ (ReflectliteValue.partsAny (So P t a 150)) σ Q:=by
 show wpS P ρ ((ofHandle (typeHandle P t)).bind _) σ Q
 rw[Ad]
 exact Vr h
theorem Bps{a Q}(h:Q (some (t,a,406)) σ):wpS P ρ (ReflectliteValue.partsAny (So P t a 406)) σ Q:=by
 show wpS P ρ ((ofHandle (typeHandle P t)).bind _) σ Q
 rw[Ad]
 exact Vr h
theorem Adn{a Q}(hp:P.packed t=false)(h:Q (some (t,a,150)) σ):wpS P ρ (ReflectliteValue.parts (So P t a 150)) σ Q:=by
 show wpS P ρ ((ReflectliteValue.partsAny (So P t a 150)).bind _) σ Q
 rw[Ad]
 refine Bdk ?_
 show wpS P ρ ((noPack _ t).bind _) σ Q
 rw[Ad]
 exact Ww hp h
theorem Bba{a Q}(hp:P.packed t=false)(h:Q (some (t,a,406)) σ):wpS P ρ (ReflectliteValue.parts (So P t a 406)) σ Q:=by
 show wpS P ρ ((ReflectliteValue.partsAny (So P t a 406)).bind _) σ Q
 rw[Ad]
 refine Bps ?_
 show wpS P ρ ((noPack _ t).bind _) σ Q
 rw[Ad]
 exact Ww hp h
/-- A pointer in a variable,owned or only read. -/
theorem Ahj{e r p Q}(hT:P.underlying t=some (.pointer e))(hh:Has ρ σ r (.cells #[.pointer p] t (0,0)))(h:Q (.pointer p) σ):wpS P ρ (loadVar t ⟨r,0,none⟩) σ Q:=by
 show wpS P ρ ((isAgg t).bind _) σ Q
 rw[Ad]
 refine Hi (a:=false) ⟨_,hT,rfl⟩ ?_
 exact⟨rfl,rfl,_,_,hh,rfl,h⟩
theorem Blt{rt a z Q}(hc:∃n,P.cutTypes.find? (·.1 == "internal/reflectlite.rtype")=some (n,rt))(h:Q (.iface rt (.agg #[typeHandle P t])) σ):
  wpS P ρ (ReflectliteValue.methodAny z (fun t _ _ _=>ReflectliteType.toType t) #[So P t a 150]) σ Q:=by
 show wpS P ρ ((ReflectliteValue.partsAny (So P t a 150)).bind _) σ Q
 rw[Ad]
 refine Bdk ?_
 exact Ado hc h
theorem Bgl{e r p z Q}(hp:P.packed t=false)(hT:P.underlying t=some (.pointer e))(hh:Has ρ σ r (.cells #[.pointer (some p)] t (0,0)))(h:Q (.bool false) σ):
  wpS P ρ (ReflectliteValue.method z ReflectliteValue.isNil #[So P t ⟨r,0,none⟩ 150]) σ Q:=by
 show wpS P ρ ((ReflectliteValue.parts (So P t ⟨r,0,none⟩ 150)).bind _) σ Q
 rw[Ad]
 refine Adn hp ?_
 show wpS P ρ ((loadVar t ⟨r,0,none⟩).bind _) σ Q
 rw[Ad]
 exact Ahj hT hh h
theorem Blp{e r p z Q}(hp:P.packed t=false)(hT:P.underlying t=some (.pointer e))(hi:∃i,P.info? t=some i∧i.desc = .pointer e){e'}(hi':∃i,P.info? e=some i∧i.desc = .pointer e')(hh:Has ρ σ r (.cells #[.pointer (some p)] t (0,0)))(h:Q (So P e p 406) σ):
  wpS P ρ (ReflectliteValue.method z ReflectliteValue.elem #[So P t ⟨r,0,none⟩ 150]) σ Q:=by
 show wpS P ρ ((ReflectliteValue.parts (So P t ⟨r,0,none⟩ 150)).bind _) σ Q
 rw[Ad]
 refine Adn hp ?_
 show wpS P ρ ((loadVar t ⟨r,0,none⟩).bind _) σ Q
 rw[Ad]
 refine Ahj hT hh ?_
 show wpS P ρ ((elem? t).bind _) σ Q
 rw[Ad]
 refine Asi hi ?_
 exact Blr 256 406 hi' rfl h
theorem Bbc{rt Q}(hc:∃n,P.cutTypes.find? (·.1 == "internal/reflectlite.rtype")=some (n,rt))(h:Q (.iface rt (.agg #[typeHandle P t])) σ):wpS P ρ (ReflectliteType.typeOf #[.iface t v]) σ Q:=Ado hc h
theorem Ur{Q}(hp:P.packed t=false)(h:Q t σ):wpS P ρ (ReflectliteType.ofRtype (.agg #[typeHandle P t])) σ Q:=by
 show wpS P ρ ((ofHandle (typeHandle P t)).bind _) σ Q
 rw[Ad]
 refine Vr ?_
 show wpS P ρ ((noPack _ t).bind _) σ Q
 rw[Ad]
 exact Ww hp h
theorem Bgm{e rt Q}(hp:P.packed t=false)(hi:∃i,P.info? t=some i∧i.desc = .pointer e)(hc:∃n,P.cutTypes.find? (·.1 == "internal/reflectlite.rtype")=some (n,rt))(h:Q (.iface rt (.agg #[typeHandle P e])) σ):
  wpS P ρ (ReflectliteType.method ReflectliteType.elem #[.agg #[typeHandle P t]]) σ Q:=by
 show wpS P ρ ((ReflectliteType.ofRtype (.agg #[typeHandle P t])).bind _) σ Q
 rw[Ad]
 refine Ur hp ?_
 show wpS P ρ ((elem? t).bind _) σ Q
 rw[Ad]
 refine Asi hi ?_
 exact Ado hc h
theorem Asg{e Q}(hp:P.packed t=false)(hi:∃i,P.info? t=some i∧i.desc = .pointer e)(h:Q (.int .u8 22) σ):
  wpS P ρ (ReflectliteType.abiMethod (fun t=>do pure (.int .u8 (←kind t))) #[typeHandle P t]) σ Q:=by
 show wpS P ρ ((ofHandle (typeHandle P t)).bind _) σ Q
 rw[Ad]
 refine Vr ?_
 show wpS P ρ ((noPack _ t).bind _) σ Q
 rw[Ad]
 refine Ww hp ?_
 show wpS P ρ ((kind t).bind _) σ Q
 rw[Ad]
 exact Ask hi h
theorem Afk{Q}(h:Q true σ):wpS P ρ (directlyAssignable t t) σ Q:=by
 unfold directlyAssignable
 rw[if_pos (by simp)]
 exact h
theorem Baz{e Q}(hm:P.methodsOfAPack P.depth t=false)(hi:∃i,P.info? t=some i∧i.desc = .pointer e)(h:Q false σ):wpS P ρ (implements t t) σ Q:=by
 show wpS P ρ ((noPackMethods _ t).bind _) σ Q
 rw[Ad]
 refine Un hm ?_
 show wpS P ρ ((noPackMethods _ t).bind _) σ Q
 rw[Ad]
 refine Un hm ?_
 show wpS P ρ ((under t).bind _) σ Q
 rw[Ad]
 refine Wz hi fun i hd=>?_
 show wpS P ρ ((under t).bind _) σ Q
 rw[Ad]
 refine Wz hi fun j hd'=>?_
 simp only[hd,hd']
 exact h
/-- An interface by its name. -/
def Bra(P:Program)(u:TypeId)(want:Array (String×TypeId)):Prop:=∃i n w j,P.info? u=some i∧i.desc = .named n w∧P.info? w=some j∧j.desc = .interface want
theorem Aoo{u want Q}(hi:Bra P u want)(h:∀(w:TypeId) (j:TypeInfo),j.desc = .interface want→Q (w,j) σ):wpS P ρ (under u) σ Q:=by
 obtain⟨i,n,w,j,a,b,c,d⟩:=hi
 show wpS P ρ ((typeInfo u).bind _) σ Q
 rw[Ad]
 refine Gj a ?_
 show wpS P ρ (match i.desc with | .named _ u=>_|_=>_) σ Q
 rw[b]
 show wpS P ρ ((typeInfo w).bind _) σ Q
 rw[Ad]
 exact Gj c (h w j d)
theorem Blq{e u rt want Q}(hp:P.packed t=false)(hpu:P.packed u=false)(hm:P.methodsOfAPack P.depth t=false)(hmu:P.methodsOfAPack P.depth u=false)(hi:∃i,P.info? t=some i∧i.desc = .pointer e∧(Instr.missingMethod want i.methods).isNone=true)(hu:Bra P u want)(h:Q (.bool true) σ):
  wpS P ρ (ReflectliteType.relation "Implements" ReflectliteType.implements_ #[.agg #[typeHandle P t],.iface rt (.agg #[typeHandle P u])]) σ Q:=by
 obtain⟨it,hit,hid,him⟩:=hi
 show wpS P ρ ((ReflectliteType.ofRtype (.agg #[typeHandle P u])).bind _) σ Q
 rw[Ad]
 refine Ur hpu ?_
 show wpS P ρ ((ReflectliteType.ofRtype (.agg #[typeHandle P t])).bind _) σ Q
 rw[Ad]
 refine Ur hp ?_
 show wpS P ρ ((ReflectliteType.implements_ u t).bind _) σ Q
 rw[Ad]
 show wpS P ρ (((under u).bind _).bind _) σ _
 rw[Ad,Ad]
 refine Aoo hu fun w j hj=>?_
 simp only[hj]
 show wpS P ρ ((noPackMethods _ t).bind _) σ _
 rw[Ad]
 refine Un hm ?_
 show wpS P ρ ((noPack _ u).bind _) σ _
 rw[Ad]
 refine Ww hpu ?_
 show wpS P ρ ((noPackMethods _ t).bind _) σ _
 rw[Ad]
 refine Un hm ?_
 show wpS P ρ ((noPackMethods _ u).bind _) σ _
 rw[Ad]
 refine Un hmu ?_
 show wpS P ρ ((under u).bind _) σ _
 rw[Ad]
 refine Aoo hu fun w' j' hj'=>?_
 show wpS P ρ ((under t).bind _) σ _
 rw[Ad]
 refine Wz ⟨it,hit,hid⟩ fun k hk=>?_
 simp only[hj',hk]
 show wpS P ρ ((typeInfo t).bind _) σ _
 rw[Ad]
 refine Gj hit ?_
 rw[him]
 exact h
theorem Bay{Q rt e}(hp:P.packed t=false)(hm:P.methodsOfAPack P.depth t=false)(hi:∃i,P.info? t=some i∧i.desc = .pointer e)(h:Q (.bool true) σ):
  wpS P ρ (ReflectliteType.relation "AssignableTo" ReflectliteType.assignableTo #[.agg #[typeHandle P t],.iface rt (.agg #[typeHandle P t])]) σ Q:=by
 show wpS P ρ ((ReflectliteType.ofRtype (.agg #[typeHandle P t])).bind _) σ Q
 rw[Ad]
 refine Ur hp ?_
 show wpS P ρ ((ReflectliteType.ofRtype (.agg #[typeHandle P t])).bind _) σ Q
 rw[Ad]
 refine Ur hp ?_
 show wpS P ρ ((ReflectliteType.assignableTo t t).bind _) σ Q
 rw[Ad]
 unfold ReflectliteType.assignableTo
 rw[if_neg (by simp)]
 show wpS P ρ ((directlyAssignable t t).bind _) σ _
 rw[Ad]
 refine Afk ?_
 show wpS P ρ ((implements t t).bind _) σ _
 rw[Ad]
 exact Baz hm hi h
theorem Bbb{r i p p' Q k}(hz:∃i,P.info? t=some i∧i.size=1)(hi:σ[i]?=some (r,.obj (.cells #[.pointer p] k (0,0))))(h:Q () (σ.set i (r,.obj (.cells #[.pointer p'] k (0,0))))):wpS P ρ (storeVar t ⟨r,0,none⟩ (.pointer p')) σ Q:=by
 show wpS P ρ ((sizeOf t).bind _) σ Q
 rw[Ad]
 refine Dx hz ?_
 show wpS P ρ (if (Value.pointer p').cells.size≠1 then _ else _) σ Q
 rw[if_neg (by simp[Value.cells])]
 exact Ns (t:=k) (r:=r) (i:=i) [.pointer p'] ⟨r,0,none⟩ 0 [.pointer p] σ rfl rfl (fun v hv=>by rw[Sl.1 hv];rfl) hi (by simp) h
/-- A pointer of the same type is set. -/
theorem Bpt{rs i r p p' e k Q}(hp:P.packed t=false)(hT:P.underlying t=some (.pointer e))(hz:∃i,P.info? t=some i∧i.size=1)(hs:Has ρ σ rs (.cells #[.pointer p'] t (0,0)))(hi:σ[i]?=some (r,.obj (.cells #[.pointer p] k (0,0))))(h:Q (.tuple #[]) (σ.set i (r,.obj (.cells #[.pointer p'] k (0,0))))):
  wpS P ρ (ReflectliteValue.set #[So P t ⟨r,0,none⟩ 406,So P t ⟨rs,0,none⟩ 150]) σ Q:=by
 show wpS P ρ ((ReflectliteValue.parts (So P t ⟨r,0,none⟩ 406)).bind _) σ Q
 rw[Ad]
 refine Bba hp ?_
 show wpS P ρ ((ReflectliteValue.parts (So P t ⟨rs,0,none⟩ 150)).bind _) σ Q
 rw[Ad]
 refine Adn hp ?_
 show wpS P ρ ((loadVar t ⟨rs,0,none⟩).bind _) σ Q
 rw[Ad]
 refine Ahj hT hs ?_
 show wpS P ρ ((directlyAssignable t t).bind _) σ Q
 rw[Ad]
 refine Afk ?_
 show wpS P ρ ((storeVar t ⟨r,0,none⟩ (.pointer p')).bind _) σ Q
 rw[Ad]
 exact Bbb hz hi h
end
end
section
open Go Go.Extern Go.Extern.Rtype
theorem Axw{P ρ σ n name t e i m s fs fd cs v f Q}(hi:P.info? t=some i)(hm:i.methods.find? (·.name==name)=some m)(hp:m.path.toList=[s])(hd:s.deref=false)(hS:P.underlying s.struct=some (.struct fs))(hfd:fs[s.index]?=some fd)(hF:P.underlying fd.type=some (.pointer e))(hc:cs[fd.offset]?=some v)(hf:m.func=some (f,true))(h:Q (f,v) σ):wpS P ρ (method (n+1) t (.agg cs) name) σ Q:=by
 show wpS P ρ ((typeInfo t).bind _) σ Q
 rw[Ad]
 refine Gj hi ?_
 simp only[hm]
 rw[hp]
 show wpS P ρ ((follow [s] t (.val (.agg cs))).bind _) σ Q
 rw[Ad]
 show wpS P ρ ((underlying s.struct).bind _) σ _
 rw[Ad]
 refine Az hS ?_
 simp only[hfd,hd]
 show wpS P ρ ((part fd.type cs fd.offset).bind _) σ _
 rw[Ad]
 refine Qr ⟨_,hF,rfl⟩ hc ?_
 show wpS P ρ (match m.func with|none=>_|some (f,pointerReceiver)=>_) σ Q
 rw[hf]
 show wpS P ρ ((receiverAt fd.type (.val v) true _).bind _) σ Q
 rw[Ad]
 show wpS P ρ ((underlying fd.type).bind _) σ _
 rw[Ad]
 refine Az hF ?_
 exact h
theorem Ang{C e ds ρ σ K rd dd ty pos af g x t v v' name f fn G args tys vs}(hm:∀Q:FuncId×Value→Own→Prop,Q (f,v') σ→wpS C.P ρ (method (C.P.types.size+Made.depth) t v name) σ Q)(hf:C.P.funcs[f]?=some fn)(hn:(fn.name == "runtime.NumGoroutine")=false)(hb:fn.body.isNone=true)(hx0:Extern.findNext fn=none)(he:Extern.find fn=some G)(hx:Af e x = .iface t v)(hv:EvL e args vs)(h:wpS C.P ρ (G (v'::vs).toArray) σ (fun v σ'=>K v ds ρ σ')):wpS C.P ρ (execOp (Af e) ⟨dd,.call ⟨.invoke x name,args.toArray,tys⟩,ty,pos,af,g⟩) σ (NextH C K rd ds ρ):=by
 rw[Ahq hx hv]
 show wpS C.P ρ ((program).bind _) σ _
 rw[Ad]
 show wpS C.P ρ ((method (C.P.types.size+Made.depth) t v name).bind _) σ _
 rw[Ad]
 refine hm _ ?_
 have a:(#[v']++vs.toArray)=(v'::vs).toArray:=by simp
 show wpS C.P ρ (callFunc f (#[v']++vs.toArray)) σ _
 rw[a]
 exact Bdj hf hn hb hx0 he h
section
variable{ρ:Ro}{σ:Own}{h:Value}{Q:FuncId×Value→Own→Prop}
theorem Bjw(hq:Q (219,h) σ):wpS Tryz.prog ρ (method (Tryz.prog.types.size+Made.depth) 218 (.agg #[h]) "Kind") σ Q :=
 Axw (Ab Bzg) rfl rfl rfl Bza rfl Tryz.underlying17 rfl rfl hq
theorem Bsq(hq:Q (231,.agg #[h]) σ):wpS Tryz.prog ρ (method (Tryz.prog.types.size+Made.depth) 218 (.agg #[h]) "Elem") σ Q :=
 Nr (Ab Bzg) rfl rfl rfl Bza rfl hq
theorem Bsr(hq:Q (232,.agg #[h]) σ):wpS Tryz.prog ρ (method (Tryz.prog.types.size+Made.depth) 218 (.agg #[h]) "Implements") σ Q :=
 Nr (Ab Bzg) rfl rfl rfl Bza rfl hq
theorem Bjv(hq:Q (229,.agg #[h]) σ):wpS Tryz.prog ρ (method (Tryz.prog.types.size+Made.depth) 218 (.agg #[h]) "AssignableTo") σ Q :=
 Nr (Ab Bzg) rfl rfl rfl Bza rfl hq
end
theorem Buo:Fw Tryz.prog 177 (.agg #[.pointer none,.pointer none,.int .u64 0]):=⟨_,Ab Byk,rfl⟩
theorem Boc:∃want,Bra Tryz.prog 85 want∧∃i,Tryz.prog.info? 102=some i∧i.desc = .pointer 107∧(Instr.missingMethod want i.methods).isNone=true :=
 ⟨_,⟨_,_,_,_,Ab Byi,rfl,Ab Tryz.typeInfo84,rfl⟩,_,Ab Byo,rfl,by kernel_rfl⟩
end
section
open Go
variable{mn:Bool}{X:Frame→List Frame→Ro→Own→Cy→Prop}{ρ:Ro}{σ:Own}
theorem Bwg{kw kv pe}:CallsH (CX mn X) 94 #[.iface 102 (.pointer (some pe)),.iface 105 (pV kw),.agg #[typeHandle Tryz.prog 105,pV kv,.int .u64 150],.iface 218 (.agg #[typeHandle Tryz.prog 102])] ρ ((kw,oC #[.pointer none] 102)::((kv,oC #[pV kw] 105)::σ)) (fun w ρ' σ'=>ρ'=ρ∧w = .bool true∧σ'=(kw,oC #[.pointer (some pe)] 102)::σ):=by
 refine Bq 62 [8] Tryz.func94 rfl fun Q a l=>w_q rfl rfl fun f b=>Arv (Eb rfl fun m=>?_)
 refine Au bF (l_k b (Ao (Ym (Nu (Ao (Gw fun g h n c=>Av (.iface 102 (.pointer (some pe))) (Arv (Aih Tryz.func122 rfl rfl rfl rfl (Aht rfl) <| Bbc ct1 ?_))))))))
 refine Av _ (Arv (Ang (vs:=[.iface 218 (.agg #[typeHandle Tryz.prog 102])]) (fun Q hq=>Bjv hq) Tryz.func229 rfl rfl rfl rfl rfl ⟨rfl,trivial⟩ <| Bay pk2 mp1 ki2 ?_))
 refine l_k c (Et (Cr fun j d=>Arv (Ma (i:=0) (cs:=[typeHandle Tryz.prog 105,pV kv,.int .u64 150]) ⟨_,Byz,rfl⟩ ⟨_,Ab Byk,rfl⟩ rfl ?_)))
 refine Arv (Aih Tryz.func123 rfl rfl rfl rfl (Aht rfl) <| Blp pk1 Byw ki1 ki2 (.inr (lZ7 _ (lZ7 _ mC))) ?_)
 refine Av _ (Arv (Aih Tryz.func91 rfl rfl rfl rfl (Aht rfl) <| Aop ki2 fun p=>?_))
 refine Arv (Aih Tryz.func124 rfl rfl rfl rfl (Awq rfl rfl) <| Bpt (i:=2) pk2 Byc ⟨_,Ab Byo,rfl⟩ (.inr mC) rfl ?_)
 refine Dr d fun k e=>Au bT (l_k e (Aj Cag (Aj Cag (Aj (Cai Arz) (Aj Cag (Aq (a ⟨rfl,rfl,rfl⟩)))))))
theorem Buv{kw pe}(hg:GlobE ρ):CallsH (CX mn X) 44 #[.iface 102 (.pointer (some pe)),.iface 105 (pV kw)] ρ ((kw,oC #[.pointer none] 102)::σ) (fun w ρ' σ'=>ρ'=ρ∧w = .bool true∧σ'=(kw,oC #[.pointer (some pe)] 102)::σ):=by
 obtain⟨Y,j,hwi⟩:=Boc
 refine Bq 42 [4] Caa rfl fun Q g T=>w_q rfl rfl fun D k=>Au bF (Ds k fun K L u x=>Av (.iface 102 (.pointer (some pe))) (l_v (Yn (w:=.iface 102 (.pointer (some pe))) (b:=false) Byb (.inr ⟨_,_,rfl,rfl⟩) rfl) (l_k x (Dy rfl (Al (kk u ?_))))))
 refine Gw fun M N y z=>Av (.iface 105 (pV kw)) (l_v (Yn (w:=.iface 105 (pV kw)) (b:=false) Tryz.underlying20 (.inr ⟨_,_,rfl,rfl⟩) rfl) (l_k z (Dy rfl (Al (kk y ?_)))))
 refine Cr fun O B=>Av (.iface 105 (pV kw)) (Arv (Aih Tryz.func91 rfl rfl rfl rfl (Aht rfl) <| Aop ki1 fun a=>?_))
 refine Arv (Ct Buo fun U=>?_)
 refine Ee (Li (i:=0) ⟨_,Ab Byk,rfl⟩ rfl rfl rfl rfl (Zh ⟨rfl,rfl,rfl,trivial⟩) rfl nL rfl ?_)
 refine Dr B fun P C=>Arv (Ma (i:=0) (cs:=[typeHandle Tryz.prog 105,pV a,.int .u64 150]) (rs:=[]) ⟨_,Byz,rfl⟩ ⟨_,Ab Byk,rfl⟩ rfl ?_)
 refine Arv (Aih Tryz.func92 rfl rfl rfl rfl (Aht rfl) <| Blt ct1 ?_)
 refine Au _ (Ds C fun E F l m=>Av (.iface 218 (.agg #[typeHandle Tryz.prog 105])) (Arv (Ang (vs:=[]) (fun Q hq=>Bjw hq) Tryz.func219 rfl rfl rfl rfl rfl trivial <| Asg pk1 ki1 ?_)))
 refine l_v (Rf) (Av bF (Ae (gYZ rfl) (Ma (i:=0) (cs:=[typeHandle Tryz.prog 105,pV a,.int .u64 150]) (rs:=[]) ⟨_,Byz,rfl⟩ ⟨_,Ab Byk,rfl⟩ rfl ?_)))
 refine Ae (gYZ rfl) (Aih Tryz.func93 rfl rfl rfl rfl (Aht rfl) <| Bgl pk1 Byw (.inr (lZ7 _ mC)) ?_)
 refine l_v (En rfl (v:=bF)) (l_k m (Dy rfl (Al (kk l ?_))))
 refine Cr fun G n=>Av (.iface 218 (.agg #[typeHandle Tryz.prog 105])) (Arv (Ang (vs:=[]) (fun Q hq=>Bsq hq) Tryz.func231 rfl rfl rfl rfl rfl trivial <| Bgm pk1 ki1 ct1 ?_))
 refine Au _ (Ds n fun H I p q=>Av (.iface 218 (.agg #[typeHandle Tryz.prog 102])) (Arv (Ang (vs:=[]) (fun Q hq=>Bjw hq) Tryz.func219 rfl rfl rfl rfl rfl trivial <| Asg pk2 ki2 ?_)))
 refine l_v (Rf) (Av bT (Me _ (gYZ rfl) ?_))
 obtain⟨V,R,f⟩:=hg.etype
 refine Aa (gYZ rfl) (Aae (v:=.iface 218 (.agg #[typeHandle Tryz.prog 85])) ⟨_,Tryz.underlying180,rfl⟩ rfl f rfl) (Ae (gYZ rfl) (Ang (vs:=[.iface 218 (.agg #[typeHandle Tryz.prog 85])]) (fun Q hq=>Bsr hq) Tryz.func232 rfl rfl rfl rfl rfl ⟨rfl,trivial⟩ <| Blq pk2 pk3 mp1 mp2 hwi j ?_))
 refine Aa (gYZ rfl) (Iy rfl) (l_v (Es rfl (v:=.bool (!(true)))) (l_k q (Dy (not_t rfl) (Al (kk p ?_)))))
 refine Cr fun J t=>Av (.iface 102 (.pointer (some pe))) (Av _ (Arv (Ma (i:=0) (cs:=[typeHandle Tryz.prog 105,pV a,.int .u64 150]) (rs:=[]) ⟨_,Byz,rfl⟩ ⟨_,Ab Byk,rfl⟩ rfl ?_)))
 refine Av _ (Bj (Cai Arz) (Bj (Cai (Iq Arz)) (Arv (Fj (Bwg (kw:=kw) (kv:=a) (pe:=pe)) Tryz.func94 ⟨rfl,rfl,rfl,rfl,trivial⟩ fun W Z a0 e=>?_))))
 obtain⟨c,h,d⟩:=e
 replace c:=c.symm;replace d:=d.symm;subst c d h
 refine Au bT (l_k t (Aj (Cai Arz) (Aj Cag (Aq (g ⟨rfl,rfl,rfl⟩)))))
theorem Buu{kw}:CallsH (CX mn X) 44 #[.nilIface,.iface 105 (pV kw)] ρ σ (rP ρ σ bF):=by
 refine Bq 42 [4] Caa rfl fun Q a i=>w_q rfl rfl fun e b=>Au bF (Ds b fun f g j c=>Av .nilIface (l_v (Yn Byb (.inl ⟨rfl,rfl⟩) rfl) (l_k c (Et (Cr fun h d=>Au bF (l_k d (Aq (a (rT bF ?_)))))))))
 rfl
end
section
open Go
theorem At.ptrEx{α}[Dat α]{ρ v}{x:α}(h:At ρ v x):∃b off,v = .pointer (some ⟨b,off,none⟩):=let ⟨b,off,_,_,_,_,_,h1,_⟩:=h;⟨b,off,h1⟩
theorem Blk:GoTy Tryz.prog 102 (Ptr Wrg):=⟨⟨_,Byc,rfl⟩,⟨_,Ab Byo,rfl⟩⟩
theorem Bmu{W0 ρ σ t}(hg:GlobE ρ)(hnr:Jp σ):CallsH (CY W0) 10 #[.string (bs t)] ρ σ (fun w ρ' σ'=>Ro.le ρ ρ'∧σ'=σ∧∃vl vm,w=(.tuple #[vl,vm,iV ((Gb t).2.2.1),iV ((Gb t).2.2.2)])∧Val ρ' vl ((Gb t).1:Lab)∧Val ρ' vm ((Gb t).2.1:Market)):=by
 refine Lt (n:=40) (args:=[.string (bs t)]) [.cell 2 25,.cell 3 29,.tmp 4,.tmp 5] Tryz.func10 rfl rfl rfl rfl fun Q F b5=>w_q rfl rfl fun K1 k1=>Arv (Ct Aph fun k2=>?_)
 refine Arv (Ct Apg fun k3=>?_)
 refine Au _ (Au _ (Ds k1 fun K4 K5 k4 k5=>Av (.string (bs t)) (l_v (Ga Bwz rfl) (l_v (Rd) (l_k k5 (Cw (fun z=>?_) (fun z=>?_)))))))
 ·have q6:=lZ2 z
  refine Ai fun K7 k7=>?_
  have hP:=Aml (t:=t) (by omega)
  refine Bf ?_
  have r8:Val ρ (.agg #[nS,iV 0,nS]) (⟨[],0,[]⟩:Lab):=Lab.shut Gx (iC 0) Gx
  refine l_v (Dn (ns:=[1,1,1]) (vs:=[]) (zc:=Amk) (cs:=[nS,iV 0,nS]) Bxd Aph rfl ⟨Hw.2,ty3.2,Vi.2,trivial⟩ (EvB.map trivial) rfl) ?_
  have r9:Val ρ (.agg #[nS,nS,nS,nS]) (⟨[],[],[],[]⟩:Market):=Market.shut Gx Gx Gx Gx
  refine l_v (Dn (ns:=[1,1,1,1]) (vs:=[]) (zc:=Amj) (cs:=[nS,nS,nS,nS]) Bxa Apg rfl ⟨Hw.2,Hw.2,Se.2,Qn.2,trivial⟩ (EvB.map trivial) rfl) (Ee (Li (i:=1) Zu.2 rfl rfl rfl rfl (Zh ⟨rfl,rfl,rfl,trivial⟩) rfl nL rfl ?_))
  refine Ee (Li (i:=0) Ln.2 rfl rfl rfl rfl (Zh ⟨rfl,rfl,rfl,rfl,trivial⟩) rfl nL rfl ?_)
  refine Au _ (Au _ (l_k k7 (Aq ?_)))
  have af:Val ρ (.agg #[nS,iV 0,nS]) (⟨[],0,[]⟩:Lab):=Lab.shut Gx (iC 0) Gx
  have ag:Val ρ (.agg #[nS,nS,nS,nS]) (⟨[],[],[],[]⟩:Market):=Market.shut Gx Gx Gx Gx
  refine F _ _ _ _ _ [.agg #[nS,iV 0,nS],.agg #[nS,nS,nS,nS],iV 0,iV 2] ⟨Ez Zu.1 Zu.2 rfl (i:=1),Ez Ln.1 Ln.2 rfl (i:=0),rfl,rfl,trivial⟩ (Ghost.drop.trans Cag) ⟨Cal,rfl,.agg #[nS,iV 0,nS],.agg #[nS,nS,nS,nS],eT (.tuple #[.agg #[nS,iV 0,nS],.agg #[nS,nS,nS,nS],iV 0,iV 2]) ?_,Val.cast ?_ af,Val.cast ?_ ag⟩
  ·rw[hP]<;>rfl
  ·rw[hP]<;>rfl
  ·rw[hP]<;>rfl
 have q6:=lZ1 z
 refine Al (kk k4 ?_)
 refine Cr fun ar a7=>?_
 have b9:Val ρ (.agg #[nS,iV 0,nS,nS,nS,nS,nS,iV 0]) (⟨(⟨[],0,[]⟩:Lab),(⟨[],[],[],[]⟩:Market),0⟩:Rdg):=Rdg.shut (x:=(⟨(⟨[],0,[]⟩:Lab),(⟨[],[],[],[]⟩:Market),0⟩:Rdg)) Gx (iC 0) Gx Gx Gx Gx Gx (iC 0)
 refine l_v (Dn (ns:=[3,4,1]) (vs:=[]) (zc:=Buf) (cs:=[nS,iV 0,nS,nS,nS,nS,nS,iV 0]) Bxo Bum rfl ⟨Zu.2,Ln.2,ty3.2,trivial⟩ (EvB.map trivial) rfl) (Arv (Eb (v:=.agg #[nS,iV 0,nS,nS,nS,nS,nS,iV 0]) rfl fun T=>?_))
 refine Au _ (Dr a7 fun au a8=>Arv (Ct Bun fun U=>?_))
 refine Ds a8 fun av aw a9 V=>Av (pV T) (Av _ (Bj (Cai Arz) (Arv (Fj (Bux (r:=T) (t:=t) hg (by omega) (Gv (Gv (Gv hnr)))) Tryz.func43 ⟨rfl,rfl,trivial⟩ fun bj Z bm D=>?_))))
 obtain⟨I,D⟩:=D
 replace hg:=GlobE.mono I hg
 rcases D with⟨B,J,bi,C,H,c,d⟩|⟨b,C,H,c,d⟩
 ·replace d:=d.symm;subst d H
  obtain⟨y,K,a5⟩:=At.ptrEx c;subst a5;have hP:=C
  refine Au _ (Dr V fun ax aa=>Av (.iface 102 (.pointer (some ⟨y,K,none⟩))) (l_v (Jd Byw rfl rfl) (Arv (Fj (Buv (kw:=U) (pe:=⟨y,K,none⟩) hg) Caa ⟨rfl,rfl,trivial⟩ fun bk bl bn a4=>?_))))
  obtain⟨E,a6,G⟩:=a4
  replace E:=E.symm;replace G:=G.symm;subst E G a6
  refine l_k aa (Et (Ai fun ay ab=>Nt (a:=Ptr.mk (⟨J,B⟩:Wrg)) (v:=.pointer (some ⟨y,K,none⟩)) (Ir.2 c) fun u ae W=>Px ?_))
  have ba:Val u (.agg #[nS,iV 0,nS]) (⟨[],0,[]⟩:Lab):=Lab.shut Gx (iC 0) Gx
  refine Bw 0 zZ9 rfl (Dn (ns:=[1,1,1]) (vs:=[]) (zc:=Amk) (cs:=[nS,iV 0,nS]) Bxd Aph rfl ⟨Hw.2,ty3.2,Vi.2,trivial⟩ (EvB.map trivial) rfl) ?_
  have bb:Val u (.agg #[nS,nS,nS,nS]) (⟨[],[],[],[]⟩:Market):=Market.shut Gx Gx Gx Gx
  refine Bw 1 Aka rfl (Dn (ns:=[1,1,1,1]) (vs:=[]) (zc:=Amj) (cs:=[nS,nS,nS,nS]) Bxa Apg rfl ⟨Hw.2,Hw.2,Se.2,Qn.2,trivial⟩ (EvB.map trivial) rfl) (Cu 2 Akb rfl (Gz Blk W) fun bc p=>?_)
  replace p:=Ir.1 p
  refine Bw 3 Amg rfl (Hj rfl p) (Cu 4 Anu rfl (Ba Wrg.f_line Byd rfl ty3 p) fun bd X=>?_)
  have⟨b1,b2⟩:=At.rng X
  refine Bw 5 Anv rfl (Eo ty3 X) (Cu 6 Anw rfl (Gz Blk W) fun be q=>?_)
  replace q:=Ir.1 q
  refine Bw 7 Anx rfl (Hj rfl q) (Cu 8 Anz rfl (Ba Wrg.f_code Byd rfl ty31 q) fun bf Y=>?_)
  have⟨b3,b4⟩:=At.rng Y
  refine Bw 9 Ajy rfl (Eo ty31 Y) (Oc 10 Ajz rfl (Li (i:=1) Zu.2 rfl rfl rfl rfl (Zh ⟨rfl,rfl,rfl,trivial⟩) rfl nL rfl ⟨Cal,?_⟩))
  refine Oc 11 zZ5 rfl (Li (i:=0) Ln.2 rfl rfl rfl rfl (Zh ⟨rfl,rfl,rfl,rfl,trivial⟩) rfl nL rfl ⟨Cal,?_⟩)
  refine Dp 12 zZ6 rfl (Cp rfl) (Dp 13 zZ7 rfl (Cp rfl) (Ec rfl (kk ab ?_)))
  refine Aq ?_
  have ah:Val u (.agg #[nS,iV 0,nS]) (⟨[],0,[]⟩:Lab):=Lab.shut Gx (iC 0) Gx
  have ai:Val u (.agg #[nS,nS,nS,nS]) (⟨[],[],[],[]⟩:Market):=Market.shut Gx Gx Gx Gx
  refine F _ _ _ _ _ [.agg #[nS,iV 0,nS],.agg #[nS,nS,nS,nS],iV J,iV B] ⟨Ez Zu.1 Zu.2 rfl (i:=1),Ez Ln.1 Ln.2 rfl (i:=0),rfl,rfl,trivial⟩ (Ghost.drop.trans Cag) ⟨Cam I ae,rfl,.agg #[nS,iV 0,nS],.agg #[nS,nS,nS,nS],eT (.tuple #[.agg #[nS,iV 0,nS],.agg #[nS,nS,nS,nS],iV J,iV B]) ?_,Val.cast ?_ ah,Val.cast ?_ ai⟩
  ·rw[hP]<;>rfl
  ·rw[hP]<;>rfl
  ·rw[hP]<;>rfl
 replace d:=d.symm;subst d H
 have hP:=C
 refine Au _ (Dr V fun az ac=>Av .nilIface (l_v (Jd Byw rfl rfl) (Arv (Ce (Buu (kw:=U)) Caa ?_))))
 refine l_k ac (Dy rfl (Al (kk a9 ?_)))
 refine Ai fun b0 ad=>Px (Bw 0 (zT 1 11) rfl (Ah rfl) (Bw 1 (zT 2 10) rfl (Hj rfl c) (Cu 2 (zT 3 9) rfl (Ba Rdg.f_l Bxo rfl Zu c) fun bg aj=>Cu 3 (zT 4 8) rfl (Gz Zu aj) fun ap ak=>Bw 4 (zT 5 7) rfl (Ah rfl) (Bw 5 (zT 6 6) rfl (Hj rfl c) (Cu 6 (zT 7 5) rfl (Ba Rdg.f_m Bxo rfl Ln c) fun bh al=>Cu 7 (zT 8 4) rfl (Gz Ln al) fun aq am=>?_)))))
 obtain⟨e,f,a0,L,⟨b7,b8⟩,M⟩:=Lab.open_ ak
 have a1:ap.cells=[e,iV b.l.most,f].toArray:=by rw[a0];rfl
 refine Oc 8 (zT 9 3) rfl (Li (i:=2) Zu.2 rfl rfl a1 rfl (Zh ⟨Val.single_l L,rfl,Val.single_l M,trivial⟩) rfl nL rfl ⟨Cal,?_⟩)
 obtain⟨g,h,j,k,a2,N,O,P,R⟩:=Market.open_ am
 have a3:aq.cells=[g,h,j,k].toArray:=by rw[a2];rfl
 refine Oc 9 (zT 10 2) rfl (Li (i:=1) Ln.2 rfl rfl a3 rfl (Zh ⟨Val.single_l N,Val.single_l O,Val.single_l P,Val.single_l R,trivial⟩) rfl nL rfl ⟨Cal,?_⟩)
 refine Dp 10 (zT 11 1) rfl (Cp rfl) (Dp 11 (zT 12 0) rfl (Cp rfl) (Ec rfl (kk ad ?_)))
 refine Aj Cag (Aq ?_)
 have an:Val Z (.agg #[e,iV b.l.most,f]) (⟨b.l.kinds,b.l.most,b.l.tests⟩:Lab):=Lab.shut L (iC b.l.most) M
 have ao:Val Z (.agg #[g,h,j,k]) (⟨b.m.houses,b.m.marks,b.m.fields,b.m.sales⟩:Market):=Market.shut N O P R
 refine F _ _ _ _ _ [.agg #[e,iV b.l.most,f],.agg #[g,h,j,k],iV 0,iV 0] ⟨Ez Zu.1 Zu.2 rfl (i:=1),Ez Ln.1 Ln.2 rfl (i:=0),rfl,rfl,trivial⟩ (Ghost.drop.trans Cag) ⟨I,rfl,.agg #[e,iV b.l.most,f],.agg #[g,h,j,k],eT (.tuple #[.agg #[e,iV b.l.most,f],.agg #[g,h,j,k],iV 0,iV 0]) ?_,Val.cast ?_ an,Val.cast ?_ ao⟩
 ·rw[hP]<;>rfl
 ·rw[hP]<;>rfl
 ·rw[hP]<;>rfl
end
section
open Go
variable{mn:Bool}{X:Frame→List Frame→Ro→Own→Cy→Prop}{ρ:Ro}{σ:Own}
theorem Bnd{n:Nat}(hn:n<100):CallsH (CX mn X) 137 #[iV n] ρ σ (rP ρ σ (.string (bs (Pa n)))):=by
 refine Bq 15 [2] Tryz.func137 rfl fun Q b q=>w_q rfl rfl fun i c=>Au (.string (ByteArray.mk #[])) (Ds c fun j k d e=>Av (iV n) (l_v (Fk) (l_k e (Cw (fun a=>?_) (fun a=>?_)))))
 ·have h:=lZ2 a
  refine Cr fun m f=>Av (iV n) (Av _ (l_v (Dm (((n+1):Nat):Int)) (l_v (Td Bwz rfl (.inr ⟨_,rfl,rfl⟩) (.inr ⟨_,rfl,rfl⟩) (by first|omega|(show _≤36;omega)|(show _≤200;omega)) (by first|omega|(show _≤36;omega)|(show _≤200;omega))) (Au _ (l_k f (Aq (b ⟨rfl,rfl,eT (.string (bs (((([48,49,50,51,52,53,54,55,56,57,97,98,99,100,101,102,103,104,105,106,107,108,109,110,111,112,113,114,115,116,117,118,119,120,121,122]:List UInt8)).take (n+1)).drop n))) ?_⟩)))))))
  rw[Boz (by omega)]
 have h:=lZ1 a
 refine Al (kk d ?_)
 refine Cr fun p g=>Av (iV n) (l_v (Abc wrE) (Av _ (l_v (Abc (z:=(((n*2):Nat):Int)) wrE) (l_v (Dm ((((n*2)+2):Nat):Int)) (l_v (Td (l:=n*2) Bwz rfl (.inr ⟨_,rfl,rfl⟩) (.inr ⟨_,rfl,rfl⟩) (by first|omega|(show _≤36;omega)|(show _≤200;omega)) (by first|omega|(show _≤36;omega)|(show _≤200;omega))) (Au _ (l_k g (Aq (b ⟨rfl,rfl,eT (.string (bs ((smL.take ((n*2)+2)).drop (n*2)))) ?_⟩)))))))))
 rw[Bpa (by omega) (by omega)]
theorem Bro{n:Nat}(h0:1≤n)(hx:n<16777216):CallsH (CX mn X) 129 #[.int .u64 (n:Int)] ρ σ (rP ρ σ (iV (Awl n:Nat))):=by
 have W:=Yt (x:=n)
 have Z:=Yt (x:=n>>>8)
 have Y:=Yt (x:=n>>>16)
 have U:=Sk (x:=n)
 have V:=Sk (x:=n>>>8)
 have T:=Sk (x:=n>>>16)
 refine Bq 25 [2] Tryz.func129 rfl fun Q c a0=>w_q rfl rfl fun D f=>Au (iV 0) (Ds f fun K L l m=>Av (.int .u64 (n:Int)) (l_v (Rw) (l_k m (Cg rfl (Jw (by omega)) (Al (kk l ?_))))))
 refine Asb rfl rfl fun M N e u=>Av (.int .u64 (n:Int)) (l_v (Rw) (l_k u (Bu (t:=decide ((n:Int)≥65536)) rfl (fun b=>?_) (fun b=>?_))))
 ·have C:=lZ2 b
  refine Cr fun O v=>Av (.int .u64 (n:Int)) (l_v (Lc (p:=n) (q:=16) rfl rfl rfl (by omega)) (Au _ (l_k v (Bf (Av (iV 0) (l_v (Dm 16) (Au _ (Ds e fun P R w y=>Av (.int .u64 (((n>>>16):Nat):Int)) (l_v (Rw) (l_k y (Cg rfl (Jw (by omega)) (Al (kk w ?_)))))))))))))
  refine Cr fun E g=>Av (iV 16) (Av (.int .u64 (((n>>>16):Nat):Int)) (l_v (Acf (p:=(((n>>>16):Nat):Int)) (z:=(((n>>>16):Nat):Int)) Byg Bxp rfl (Anq (by omega) (by omega))) (l_v (Aui (n>>>16) (UInt8.ofNat (Ie (n>>>16))) Bwz (q:=(((n>>>16):Nat):Int)) (Aji (by omega))) (l_v (Acf (p:=(((UInt8.ofNat (Ie (n>>>16))).toNat:Nat):Int)) (z:=(((UInt8.ofNat (Ie (n>>>16))).toNat:Nat):Int)) Bxp Bxr rfl wrR) (l_v (Dm (((16+(UInt8.ofNat (Ie (n>>>16))).toNat):Nat):Int)) (Au _ (l_k g (Aq (c ⟨rfl,rfl,eT (iV (((16+(UInt8.ofNat (Ie (n>>>16))).toNat):Nat):Int)) ?_⟩)))))))))
  unfold Awl;rw[Yt];first|rw[if_pos (by omega),Zp]|rw[if_neg (by omega),if_pos (by omega)]|rw[if_neg (by omega),if_neg (by omega)]
 have C:=lZ1 b
 refine Al (kk e ?_)
 refine Asb rfl rfl fun F G d h=>Av (.int .u64 (n:Int)) (l_v (Rw) (l_k h (Bu (t:=decide ((n:Int)≥256)) rfl (fun a=>?_) (fun a=>?_))))
 ·have B:=lZ2 a
  refine Cr fun H i=>Av (.int .u64 (n:Int)) (l_v (Lc (p:=n) (q:=8) rfl rfl rfl (by omega)) (Au _ (l_k i (Bf (Av (iV 0) (l_v (Dm 8) (Au _ (Dr d fun I j=>Av (iV 8) (Av (.int .u64 (((n>>>8):Nat):Int)) (l_v (Acf (p:=(((n>>>8):Nat):Int)) (z:=(((n>>>8):Nat):Int)) Byg Bxp rfl (Anq (by omega) (by omega))) (l_v (Aui (n>>>8) (UInt8.ofNat (Ie (n>>>8))) Bwz (q:=(((n>>>8):Nat):Int)) (Aji (by omega))) (l_v (Acf (p:=(((UInt8.ofNat (Ie (n>>>8))).toNat:Nat):Int)) (z:=(((UInt8.ofNat (Ie (n>>>8))).toNat:Nat):Int)) Bxp Bxr rfl wrR) (l_v (Dm (((8+(UInt8.ofNat (Ie (n>>>8))).toNat):Nat):Int)) (Au _ (l_k j (Aq (c ⟨rfl,rfl,eT (iV (((8+(UInt8.ofNat (Ie (n>>>8))).toNat):Nat):Int)) ?_⟩)))))))))))))))))
  unfold Awl;rw[Yt];first|rw[if_pos (by omega),Zp]|rw[if_neg (by omega),if_pos (by omega)]|rw[if_neg (by omega),if_neg (by omega)]
 have B:=lZ1 a
 refine Al (kk d ?_)
 refine Cr fun J k=>Av (iV 0) (Av (.int .u64 (n:Int)) (l_v (Acf (p:=(n:Int)) (z:=(n:Int)) Byg Bxp rfl (Anq (by omega) (by omega))) (l_v (Aui n (UInt8.ofNat (Ie n)) Bwz (q:=(n:Int)) (Aji (by omega))) (l_v (Acf (p:=(((UInt8.ofNat (Ie n)).toNat:Nat):Int)) (z:=(((UInt8.ofNat (Ie n)).toNat:Nat):Int)) Bxp Bxr rfl wrR) (l_v (Dm (((0+(UInt8.ofNat (Ie n)).toNat):Nat):Int)) (Au _ (l_k k (Aq (c ⟨rfl,rfl,eT (iV (((0+(UInt8.ofNat (Ie n)).toNat):Nat):Int)) ?_⟩)))))))))
 unfold Awl;rw[Yt];first|rw[if_pos (by omega),Zp]|rw[if_neg (by omega),if_pos (by omega)]|rw[if_neg (by omega),if_neg (by omega)]
theorem Bna{n:Nat}(hn:n≤100):CallsH (CX mn X) 152 #[iV n] ρ σ (rP ρ σ (iV ((((n*78913)>>>18):Nat):Int))):=by
 refine Bq 6 [2] Tryz.func152 rfl fun Q a f=>w_q rfl rfl fun d b=>Au (iV 0) (Dr b fun e c=>Av (iV n) (l_v (Wq rfl rfl wrE) (l_v (Lc (p:=n*78913) rfl rfl rfl (by omega)) (Au _ (l_k c (Aq (a ⟨rfl,rfl,eT _ ?_⟩)))))))
 rfl
theorem Brl{b}:CallsH (CX mn X) 153 #[.bool b] ρ σ (rP ρ σ (iV (Bgx b:Nat))):=by
 refine Bq 4 [2] Tryz.func153 rfl fun Q c n=>w_q rfl rfl fun i d=>Au (iV 0) (Ds d fun j k e f=>Av (.bool b) (l_k f (Cw (fun a=>?_) (fun a=>?_))))
 ·refine Cr fun l g=>Au (iV 1) (l_k g (Aq (c (rT _ ?_))))
  rw[a];rfl
 refine Al (kk e ?_)
 refine Cr fun m h=>Au (iV 0) (l_k h (Aq (c (rT _ ?_))))
 rw[a];rfl
theorem Auv{n:Nat}(hg:GlobE ρ)(h0:100≤n)(h1:n≤1000000):CallsH (CX mn X) 138 #[.int .u64 (n:Int)] ρ σ (rP ρ σ (iV (Sn n:Nat))):=by
 obtain⟨htd,hnd⟩:=Bjx h0 h1
 obtain⟨kk,k,l,m,p⟩:=Awm (n:=n) (by omega) (by omega)
 have hbb:=Bmh (b:=decide ((n:Int)≥((10^tD n:Nat):Int)))
 refine Bq 15 [2] Tryz.func138 rfl fun Q c q=>w_q rfl rfl fun g d=>Au (iV 0) (Dr d fun h e=>Av (.int .u64 (n:Int)) (Arv (Ce (Bro (n:=n) (by omega) (by omega)) Tryz.func129 ?_)))
 refine Arv (Ce (Bna (n:=Awl n) (by omega)) Tryz.func152 ?_)
 refine Au _ (Dr e fun i f=>Av (iV ((tD n):Nat)) (Av _ (Av _ (l_v (Cq (k':=1) (tD n) Tryz.underlying274 ⟨_,Ab Tryz.typeInfo207,rfl⟩ rfl rfl rfl (by omega) (off':=tD n) (by omega)) ?_))))
 obtain⟨t,j,a⟩:=hg.pow
 refine l_v (Aae ⟨_,Byg,rfl⟩ rfl a (Boq (by omega))) (l_v (Rw) (Arv (Ce (Brl) Tryz.func153 ?_)))
 refine l_v (Dm _) (Au _ (l_k f (Aq (c ⟨rfl,rfl,eT (iV ((((tD n)+(Bgx (decide ((n:Int)≥(((10^tD n):Nat):Int))))):Nat):Int)) ?_⟩))))
 rw[hnd]
theorem Asw{n m}(hg:GlobE ρ)(h0:100≤n)(h1:n≤1000000)(hm:Sn n=m):CallsH (CX mn X) 138 #[.int .u64 (n:Int)] ρ σ (rP ρ σ (iV m)):=by
 subst hm;exact Auv hg h0 h1
theorem Brm{r n m:Nat}(hnm:(m=3∧100≤n∧n<1000)∨(m=4∧1000≤n∧n<10000)∨(m=5∧10000≤n∧n<100000)∨(m=6∧100000≤n∧n<1000000)∨(m=7∧1000000≤n∧n<1000001)):CallsH (CX mn X) 139 #[.slice (some ⟨r,1,none⟩) m 23,.int .u64 (n:Int)] ρ ((r,oC ((List.replicate 24 (.int .u8 0))).toArray 247)::σ) (fun w ρ' σ'=>ρ'=ρ∧w = .tuple #[]∧∃rest:List Value,σ'=(r,oC (Value.int .u8 0::((Pa n).map (fun b:UInt8=>Value.int .u8 (b.toNat:Int))++rest)).toArray 247)::σ):=by
 refine Bq 167 [] Tryz.func139 rfl fun Q aj e=>w_q rfl rfl fun K1 x=>Av (.slice (some ⟨r,1,none⟩) m 23) (l_v (Bbf (el:=5) Bxe rfl) (Au (iV m) (Asa x fun K2 F=>Ao (Cc (fun mm ee dd ρ' σ'=>(0)=mm∧[]=dd∧ρ=ρ'∧((r,oC ((List.replicate 24 (.int .u8 0))).toArray 247)::σ)=σ'∧ee 0=(.slice (some ⟨r,1,none⟩) m 23)∧ee 1=(.int .u64 (n:Int))∧ee 4=iV m∧True) (m:=_) ⟨rfl,rfl,rfl,rfl,rfl,rfl,rfl,trivial⟩ ?_))))
 rintro m3 e3 _ _ _ ⟨rfl,rfl,rfl,rfl,a,u,c,_⟩
 refine Asb rfl rfl fun K4 K5 k4 U=>l_v (Ah (v:=iV m) c) (l_v (Uy rfl rfl) (l_k U (Cg rfl (Jw (by omega)) (Bx (kk F ?_)))))
 refine w_q rfl rfl fun K6 V=>l_v (Ah (v:=.int .u64 (n:Int)) u) (l_v (Acf (p:=(n:Int)) (z:=(n:Int)) Byg Bxy rfl (Lu (by omega) (by omega))) (Au (.int .u32 (n:Int)) (Ary rfl rfl V fun K7 K8 l W=>l_v (Ah (v:=iV m) c) (l_v (Uy rfl rfl) (l_k W (Bu (t:=decide ((m:Int)≥4)) rfl (fun i=>?_) (fun i=>?_)))))))
 ·have q9:=lZ2 i
  refine w_q rfl rfl fun a1 y=>Av (.int .u32 (n:Int)) (l_v (Aye (p:=(n:Int)) (q:=10000) rfl rfl (by omega) (z:=(((n%10000):Nat):Int)) rfl) (Au (.int .u32 (((n%10000):Nat):Int)) (Arx rfl rfl y fun a2 B=>Av (.int .u32 (n:Int)) (l_v (Aor (p:=(n:Int)) (q:=10000) rfl rfl (by omega) (z:=(((n/10000):Nat):Int)) (Lu (p:=(((n/10000):Nat):Int)) (by omega) (by omega))) (Au (.int .u32 (((n/10000):Nat):Int)) (Arx rfl rfl B fun a3 C=>Av (.int .u32 (((n%10000):Nat):Int)) (l_v (Aor (p:=(((n%10000):Nat):Int)) (q:=100) rfl rfl (by omega) (z:=((((n%10000)/100):Nat):Int)) (Lu (p:=((((n%10000)/100):Nat):Int)) (by omega) (by omega))) (l_v (Wq rfl rfl (z:=(((((n%10000)/100)*2):Nat):Int)) ((Lu (by omega) (by omega)).trans (by omega))) (Av (.int .u32 (((n%10000):Nat):Int)) (l_v (Aye (p:=(((n%10000):Nat):Int)) (q:=100) rfl rfl (by omega) (z:=((((n%10000)%100):Nat):Int)) rfl) (l_v (Wq rfl rfl (z:=(((((n%10000)%100)*2):Nat):Int)) ((Lu (by omega) (by omega)).trans (by omega))) (Au (.int .u32 (((((n%10000)/100)*2):Nat):Int)) (Au (.int .u32 (((((n%10000)%100)*2):Nat):Int)) (Asa C fun a4 D=>Px (Bw 0 Aof rfl (Ah (v:=.slice (some ⟨r,1,none⟩) m 23) a) (Bw 1 Aon rfl (Ah (v:=iV m) c) (Bw 2 Aqg rfl (Ou rfl rfl (z:=(((m-1):Nat):Int)) (Bo (by omega) (by omega) (by omega))) (Bw 3 Aqh rfl (Ah (v:=.slice (some ⟨r,1,none⟩) m 23) a) (Bw 4 Aqi rfl (Ah (v:=iV m) c) (Bw 5 (zT 6 9) rfl (Ou rfl rfl (z:=(((m-2):Nat):Int)) (Bo (by omega) (by omega) (by omega))) (Bw 6 (zT 7 8) rfl (Ah (v:=.int .u32 (((((n%10000)%100)*2):Nat):Int)) rfl) (Bw 7 (zT 8 7) rfl (Br rfl rfl (z:=((((((n%10000)%100)*2)+1):Nat):Int)) ((Lu (by omega) (by omega)).trans (by omega))) (Bw 8 (zT 9 6) rfl (Ace ((((n%10000)%100)*2)+1) (UInt8.ofNat (48+(((n%10000)%100))%10)) Bwz rfl (q:=((((((n%10000)%100)*2)+1):Nat):Int)) rfl rfl (Boy (d:=(n%10000)%100) (by omega))) (Bw 9 Aog rfl (Ah (v:=.int .u32 (((((n%10000)%100)*2):Nat):Int)) rfl) (Bw 10 Aoh rfl (Ace (((n%10000)%100)*2) (UInt8.ofNat (48+(((n%10000)%100))/10)) Bwz rfl (q:=(((((n%10000)%100)*2):Nat):Int)) rfl rfl (Box (d:=(n%10000)%100) (by omega))) (Dp 11 Aoi rfl (Afy (k':=1) (m-1) Bxe ty5.2 rfl (q:=(((m-1):Nat):Int)) rfl rfl (by omega) (off':=(m-1)+1) (by omega)) (Oc 12 Aok rfl (Cz (j:=0) (v:=.int .u8 (((UInt8.ofNat (48+(((n%10000)%100))%10)).toNat:Nat):Int)) ty5.2 rfl rfl rfl rfl (by simp only[Ui,Yy];omega) ⟨Cal,?_⟩))))))))))))))))))))))))))))
  refine Dp 13 Aol rfl (Afy (k':=1) (m-2) Bxe ty5.2 rfl (q:=(((m-2):Nat):Int)) rfl rfl (by omega) (off':=(m-2)+1) (by omega)) (Oc 14 Aom rfl (Cz (j:=0) (v:=.int .u8 (((UInt8.ofNat (48+(((n%10000)%100))/10)).toNat:Nat):Int)) ty5.2 rfl rfl rfl rfl (by simp only[Ui,Yy];omega) ⟨Cal,?_⟩))
  refine Ec rfl (kk D ?_)
  refine Ai fun a5 E=>Px (Bw 0 Aof rfl (Ah (v:=.slice (some ⟨r,1,none⟩) m 23) a) (Bw 1 Aon rfl (Ah (v:=iV m) c) (Bw 2 Aqg rfl (Ou rfl rfl (z:=(((m-3):Nat):Int)) (Bo (by omega) (by omega) (by omega))) (Bw 3 Aqh rfl (Ah (v:=.slice (some ⟨r,1,none⟩) m 23) a) (Bw 4 Aqi rfl (Ah (v:=iV m) c) (Bw 5 (zT 6 9) rfl (Ou rfl rfl (z:=(((m-4):Nat):Int)) (Bo (by omega) (by omega) (by omega))) (Bw 6 (zT 7 8) rfl (Ah (v:=.int .u32 (((((n%10000)/100)*2):Nat):Int)) rfl) (Bw 7 (zT 8 7) rfl (Br rfl rfl (z:=((((((n%10000)/100)*2)+1):Nat):Int)) ((Lu (by omega) (by omega)).trans (by omega))) (Bw 8 (zT 9 6) rfl (Ace ((((n%10000)/100)*2)+1) (UInt8.ofNat (48+(((n%10000)/100))%10)) Bwz rfl (q:=((((((n%10000)/100)*2)+1):Nat):Int)) rfl rfl (Boy (d:=(n%10000)/100) (by omega))) (Bw 9 Aog rfl (Ah (v:=.int .u32 (((((n%10000)/100)*2):Nat):Int)) rfl) (Bw 10 Aoh rfl (Ace (((n%10000)/100)*2) (UInt8.ofNat (48+(((n%10000)/100))/10)) Bwz rfl (q:=(((((n%10000)/100)*2):Nat):Int)) rfl rfl (Box (d:=(n%10000)/100) (by omega))) (Dp 11 Aoi rfl (Afy (k':=1) (m-3) Bxe ty5.2 rfl (q:=(((m-3):Nat):Int)) rfl rfl (by omega) (off':=(m-3)+1) (by omega)) (Oc 12 Aok rfl (Cz (j:=0) (v:=.int .u8 (((UInt8.ofNat (48+(((n%10000)/100))%10)).toNat:Nat):Int)) ty5.2 rfl rfl rfl rfl (by simp only[Ui,Yy];omega) ⟨Cal,?_⟩))))))))))))))
  refine Dp 13 Aol rfl (Afy (k':=1) (m-4) Bxe ty5.2 rfl (q:=(((m-4):Nat):Int)) rfl rfl (by omega) (off':=(m-4)+1) (by omega)) (Oc 14 Aom rfl (Cz (j:=0) (v:=.int .u8 (((UInt8.ofNat (48+(((n%10000)/100))/10)).toNat:Nat):Int)) ty5.2 rfl rfl rfl rfl (by simp only[Ui,Yy];omega) ⟨Cal,?_⟩))
  refine Ec rfl (kk E ?_)
  refine Ag rfl rfl (l_v (Ah (v:=iV m) c) (l_v (Ou rfl rfl (z:=(((m-4):Nat):Int)) (Bo (by omega) (by omega) (by omega))) (Au (iV ((m-4):Nat)) (Ary rfl rfl l fun a6 a7 k G=>Av (iV ((m-4):Nat)) (l_v (Uy rfl rfl) (l_k G (Bu (t:=decide ((((m-4):Nat):Int)≥2)) rfl (fun f=>?_) (fun f=>?_))))))))
  ·have Y:=lZ2 f
   refine w_q rfl rfl fun a8 H=>Av (.int .u32 (((n/10000):Nat):Int)) (l_v (Aye (p:=(((n/10000):Nat):Int)) (q:=100) rfl rfl (by omega) (z:=((((n/10000)%100):Nat):Int)) rfl) (l_v (Wq rfl rfl (z:=(((((n/10000)%100)*2):Nat):Int)) ((Lu (by omega) (by omega)).trans (by omega))) (Au (.int .u32 (((((n/10000)%100)*2):Nat):Int)) (Arx rfl rfl H fun a9 I=>Av (.int .u32 (((n/10000):Nat):Int)) (l_v (Aor (p:=(((n/10000):Nat):Int)) (q:=100) rfl rfl (by omega) (z:=((((n/10000)/100):Nat):Int)) (Lu (p:=((((n/10000)/100):Nat):Int)) (by omega) (by omega))) (Au (.int .u32 ((((n/10000)/100):Nat):Int)) (Asa I fun aa J=>Px (Bw 0 Aof rfl (Ah (v:=.slice (some ⟨r,1,none⟩) m 23) a) (Bw 1 Aon rfl (Ah (v:=iV ((m-4):Nat)) rfl) (Bw 2 Aqg rfl (Ou rfl rfl (z:=((((m-4)-1):Nat):Int)) (Bo (by omega) (by omega) (by omega))) (Bw 3 Aqh rfl (Ah (v:=.slice (some ⟨r,1,none⟩) m 23) a) (Bw 4 Aqi rfl (Ah (v:=iV ((m-4):Nat)) rfl) (Bw 5 (zT 6 9) rfl (Ou rfl rfl (z:=((((m-4)-2):Nat):Int)) (Bo (by omega) (by omega) (by omega))) (Bw 6 (zT 7 8) rfl (Ah (v:=.int .u32 (((((n/10000)%100)*2):Nat):Int)) rfl) (Bw 7 (zT 8 7) rfl (Br rfl rfl (z:=((((((n/10000)%100)*2)+1):Nat):Int)) ((Lu (by omega) (by omega)).trans (by omega))) (Bw 8 (zT 9 6) rfl (Ace ((((n/10000)%100)*2)+1) (UInt8.ofNat (48+(((n/10000)%100))%10)) Bwz rfl (q:=((((((n/10000)%100)*2)+1):Nat):Int)) rfl rfl (Boy (d:=(n/10000)%100) (by omega))) (Bw 9 Aog rfl (Ah (v:=.int .u32 (((((n/10000)%100)*2):Nat):Int)) rfl) (Bw 10 Aoh rfl (Ace (((n/10000)%100)*2) (UInt8.ofNat (48+(((n/10000)%100))/10)) Bwz rfl (q:=(((((n/10000)%100)*2):Nat):Int)) rfl rfl (Box (d:=(n/10000)%100) (by omega))) (Dp 11 Aoi rfl (Afy (k':=1) ((m-4)-1) Bxe ty5.2 rfl (q:=((((m-4)-1):Nat):Int)) rfl rfl (by omega) (off':=((m-4)-1)+1) (by omega)) (Oc 12 Aok rfl (Cz (j:=0) (v:=.int .u8 (((UInt8.ofNat (48+(((n/10000)%100))%10)).toNat:Nat):Int)) ty5.2 rfl rfl rfl rfl (by simp only[Ui,Yy];omega) ⟨Cal,?_⟩)))))))))))))))))))))
   refine Dp 13 Aol rfl (Afy (k':=1) ((m-4)-2) Bxe ty5.2 rfl (q:=((((m-4)-2):Nat):Int)) rfl rfl (by omega) (off':=((m-4)-2)+1) (by omega)) (Oc 14 Aom rfl (Cz (j:=0) (v:=.int .u8 (((UInt8.ofNat (48+(((n/10000)%100))/10)).toNat:Nat):Int)) ty5.2 rfl rfl rfl rfl (by simp only[Ui,Yy];omega) ⟨Cal,?_⟩))
   refine Ec rfl (kk J ?_)
   refine Ag rfl rfl (Av (iV ((m-4):Nat)) (l_v (Ou rfl rfl (z:=((((m-4)-2):Nat):Int)) (Bo (by omega) (by omega) (by omega))) (Au (iV ((((m-4)-2):Nat):Int)) (Arx rfl rfl k fun ab K=>Av (iV ((((m-4)-2):Nat):Int)) (l_v (Gl rfl rfl) (l_k K (Bu (t:=decide (((((m-4)-2):Nat):Int)>0)) rfl (fun g=>?_) (fun g=>?_))))))))
   ·have Z:=lZ2 g
    refine Ag rfl rfl (l_v (Ah (v:=.slice (some ⟨r,1,none⟩) m 23) a) (Av (.int .u32 ((((n/10000)/100):Nat):Int)) (l_v (Br rfl rfl (z:=(((48+((n/10000)/100)):Nat):Int)) ((Lu (by omega) (by omega)).trans (by omega))) (l_v (Acf (p:=(((48+((n/10000)/100)):Nat):Int)) (z:=(((48+((n/10000)/100)):Nat):Int)) Bxy Bxp rfl (Anq (by omega) (by omega))) (l_v (Afy (k':=1) 0 Bxe ty5.2 rfl (q:=0) rfl rfl (by omega) (off':=0+1) (by omega)) (Cx rfl (Cz (j:=0) (v:=.int .u8 (((48+((n/10000)/100)):Nat):Int)) ty5.2 rfl rfl rfl rfl (by simp only[Ui,Yy];omega) ?_)))))))
    apply Ac
    refine e ?_
    obtain rfl:m=7:=by omega
    exact⟨rfl,rfl,List.replicate 16 (.int .u8 0),by rw[Bho (by omega) (by omega),Qu (d:=(((n%10000)%100))%10) (d':=n%10) (by omega),Qu (d:=(((n%10000)%100))/10) (d':=n/10%10) (by omega),Qu (d:=(((n%10000)/100))%10) (d':=n/100%10) (by omega),Qu (d:=(((n%10000)/100))/10) (d':=n/1000%10) (by omega),Qu (d:=(((n/10000)%100))%10) (d':=n/10000%10) (by omega),Qu (d:=(((n/10000)%100))/10) (d':=n/100000%10) (by omega),Bhk (d:=(n/10000)/100) (d':=n/1000000) (by omega) (by omega)]<;>rfl⟩
   have Z:=lZ1 g
   refine Al (e ?_)
   obtain rfl:m=6:=by omega
   exact⟨rfl,rfl,List.replicate 17 (.int .u8 0),by rw[Aza (by omega) (by omega),Qu (d:=(((n%10000)%100))%10) (d':=n%10) (by omega),Qu (d:=(((n%10000)%100))/10) (d':=n/10%10) (by omega),Qu (d:=(((n%10000)/100))%10) (d':=n/100%10) (by omega),Qu (d:=(((n%10000)/100))/10) (d':=n/1000%10) (by omega),Qu (d:=(((n/10000)%100))%10) (d':=n/10000%10) (by omega),Qu (d:=(((n/10000)%100))/10) (d':=n/100000) (by omega)]<;>rfl⟩
  have Y:=lZ1 f
  refine Al (kk k ?_)
  refine w_q rfl rfl fun ac L=>Av (iV ((m-4):Nat)) (l_v (Gl rfl rfl) (l_k L (Bu (t:=decide ((((m-4):Nat):Int)>0)) rfl (fun h=>?_) (fun h=>?_))))
  ·have a0:=lZ2 h
   refine Ag rfl rfl (l_v (Ah (v:=.slice (some ⟨r,1,none⟩) m 23) a) (Av (.int .u32 (((n/10000):Nat):Int)) (l_v (Br rfl rfl (z:=(((48+(n/10000)):Nat):Int)) ((Lu (by omega) (by omega)).trans (by omega))) (l_v (Acf (p:=(((48+(n/10000)):Nat):Int)) (z:=(((48+(n/10000)):Nat):Int)) Bxy Bxp rfl (Anq (by omega) (by omega))) (l_v (Afy (k':=1) 0 Bxe ty5.2 rfl (q:=0) rfl rfl (by omega) (off':=0+1) (by omega)) (Cx rfl (Cz (j:=0) (v:=.int .u8 (((48+(n/10000)):Nat):Int)) ty5.2 rfl rfl rfl rfl (by simp only[Ui,Yy];omega) ?_)))))))
   apply Ac
   refine e ?_
   obtain rfl:m=5:=by omega
   exact⟨rfl,rfl,List.replicate 18 (.int .u8 0),by rw[Ayz (by omega) (by omega),Qu (d:=(((n%10000)%100))%10) (d':=n%10) (by omega),Qu (d:=(((n%10000)%100))/10) (d':=n/10%10) (by omega),Qu (d:=(((n%10000)/100))%10) (d':=n/100%10) (by omega),Qu (d:=(((n%10000)/100))/10) (d':=n/1000%10) (by omega),Bhk (d:=n/10000) (d':=n/10000) (by omega) (by omega)]<;>rfl⟩
  have a0:=lZ1 h
  refine Al (e ?_)
  obtain rfl:m=4:=by omega
  exact⟨rfl,rfl,List.replicate 19 (.int .u8 0),by rw[Ayy (by omega) (by omega),Qu (d:=(((n%10000)%100))%10) (d':=n%10) (by omega),Qu (d:=(((n%10000)%100))/10) (d':=n/10%10) (by omega),Qu (d:=(((n%10000)/100))%10) (d':=n/100%10) (by omega),Qu (d:=(((n%10000)/100))/10) (d':=n/1000) (by omega)]<;>rfl⟩
 have q9:=lZ1 i
 refine Al (kk l ?_)
 refine Asb rfl rfl fun ad ae M N=>l_v (Ah (v:=iV m) c) (l_v (Uy rfl rfl) (l_k N (Co rfl (Oe (by omega)) (w_q rfl rfl fun af O=>Av (.int .u32 (n:Int)) (l_v (Aye (p:=(n:Int)) (q:=100) rfl rfl (by omega) (z:=(((n%100):Nat):Int)) rfl) (l_v (Wq rfl rfl (z:=((((n%100)*2):Nat):Int)) ((Lu (by omega) (by omega)).trans (by omega))) (Au (.int .u32 ((((n%100)*2):Nat):Int)) (Arx rfl rfl O fun ag P=>Av (.int .u32 (n:Int)) (l_v (Aor (p:=(n:Int)) (q:=100) rfl rfl (by omega) (z:=(((n/100):Nat):Int)) (Lu (p:=(((n/100):Nat):Int)) (by omega) (by omega))) (Au (.int .u32 (((n/100):Nat):Int)) (Asa P fun ah R=>Px (Bw 0 Aof rfl (Ah (v:=.slice (some ⟨r,1,none⟩) m 23) a) (Bw 1 Aon rfl (Ah (v:=iV m) c) (Bw 2 Aqg rfl (Ou rfl rfl (z:=(((m-1):Nat):Int)) (Bo (by omega) (by omega) (by omega))) (Bw 3 Aqh rfl (Ah (v:=.slice (some ⟨r,1,none⟩) m 23) a) (Bw 4 Aqi rfl (Ah (v:=iV m) c) (Bw 5 (zT 6 9) rfl (Ou rfl rfl (z:=(((m-2):Nat):Int)) (Bo (by omega) (by omega) (by omega))) (Bw 6 (zT 7 8) rfl (Ah (v:=.int .u32 ((((n%100)*2):Nat):Int)) rfl) (Bw 7 (zT 8 7) rfl (Br rfl rfl (z:=(((((n%100)*2)+1):Nat):Int)) ((Lu (by omega) (by omega)).trans (by omega))) (Bw 8 (zT 9 6) rfl (Ace (((n%100)*2)+1) (UInt8.ofNat (48+((n%100))%10)) Bwz rfl (q:=(((((n%100)*2)+1):Nat):Int)) rfl rfl (Boy (d:=n%100) (by omega))) (Bw 9 Aog rfl (Ah (v:=.int .u32 ((((n%100)*2):Nat):Int)) rfl) (Bw 10 Aoh rfl (Ace ((n%100)*2) (UInt8.ofNat (48+((n%100))/10)) Bwz rfl (q:=((((n%100)*2):Nat):Int)) rfl rfl (Box (d:=n%100) (by omega))) (Dp 11 Aoi rfl (Afy (k':=1) (m-1) Bxe ty5.2 rfl (q:=(((m-1):Nat):Int)) rfl rfl (by omega) (off':=(m-1)+1) (by omega)) (Oc 12 Aok rfl (Cz (j:=0) (v:=.int .u8 (((UInt8.ofNat (48+((n%100))%10)).toNat:Nat):Int)) ty5.2 rfl rfl rfl rfl (by simp only[Ui,Yy];omega) ⟨Cal,?_⟩)))))))))))))))))))))))))
 refine Dp 13 Aol rfl (Afy (k':=1) (m-2) Bxe ty5.2 rfl (q:=(((m-2):Nat):Int)) rfl rfl (by omega) (off':=(m-2)+1) (by omega)) (Oc 14 Aom rfl (Cz (j:=0) (v:=.int .u8 (((UInt8.ofNat (48+((n%100))/10)).toNat:Nat):Int)) ty5.2 rfl rfl rfl rfl (by simp only[Ui,Yy];omega) ⟨Cal,?_⟩))
 refine Ec rfl (kk R ?_)
 refine Ag rfl rfl (l_v (Ah (v:=iV m) c) (l_v (Ou rfl rfl (z:=(((m-2):Nat):Int)) (Bo (by omega) (by omega) (by omega))) (Au (iV ((m-2):Nat)) (Arx rfl rfl M fun ai T=>Av (iV ((m-2):Nat)) (l_v (Gl rfl rfl) (l_k T (Co rfl (Oe (by omega)) (Ag rfl rfl (l_v (Ah (v:=.slice (some ⟨r,1,none⟩) m 23) a) (Av (.int .u32 (((n/100):Nat):Int)) (l_v (Br rfl rfl (z:=(((48+(n/100)):Nat):Int)) ((Lu (by omega) (by omega)).trans (by omega))) (l_v (Acf (p:=(((48+(n/100)):Nat):Int)) (z:=(((48+(n/100)):Nat):Int)) Bxy Bxp rfl (Anq (by omega) (by omega))) (l_v (Afy (k':=1) 0 Bxe ty5.2 rfl (q:=0) rfl rfl (by omega) (off':=0+1) (by omega)) (Cx rfl (Cz (j:=0) (v:=.int .u8 (((48+(n/100)):Nat):Int)) ty5.2 rfl rfl rfl rfl (by simp only[Ui,Yy];omega) ?_)))))))))))))))
 apply Ac
 refine e ?_
 obtain rfl:m=3:=by omega
 exact⟨rfl,rfl,List.replicate 20 (.int .u8 0),by rw[Ayx (by omega) (by omega),Qu (d:=((n%100))%10) (d':=n%10) (by omega),Qu (d:=((n%100))/10) (d':=n/10%10) (by omega),Bhk (d:=n/100) (d':=n/100) (by omega) (by omega)]<;>rfl⟩
end
section
open Go
variable{mn:Bool}{X:Frame→List Frame→Ro→Own→Cy→Prop}{ρ:Ro}{σ:Own}
theorem Beb{n:Nat}(h1:n<100):CallsH (CX mn X) 116 #[iV n,iV 10] ρ σ (rP ρ σ (.string (bs (Pa n)))):=by
 refine Bq 54 [4] Tryz.func116 rfl fun Q a l=>w_q rfl rfl fun f b=>Au (.string (ByteArray.mk #[])) (Ds b fun g h m c=>Av (iV 10) (l_v (Hs) (l_k c (Et (Gw fun i j p d=>Av (iV n) (l_v (Uz rfl rfl) (Av (.bool (decide (0≤(n:Int)))) (l_M _ (gY rfl (Oe (by omega))) rfl (Aa (gY rfl (Oe (by omega))) (Fk) (l_v (Bt rfl (Oe (by omega)) rfl) (l_k d (Co rfl (Oe (by omega)) (Cr fun k e=>Av (iV n) (Arv (Ce (Bnd (by omega)) Tryz.func137 ?_)))))))))))))))
 refine Au _ (l_k e (Aq (a (rT _ ?_))))
 rfl
theorem Brn{r n m:Nat}(h0:100≤n)(h1:n≤1000000)(hm:Sn n=m):CallsH (CX mn X) 139 #[.slice (some ⟨r,1,none⟩) m 23,.int .u64 (n:Int)] ρ ((r,oC #[.int .u8 0,.int .u8 0,.int .u8 0,.int .u8 0,.int .u8 0,.int .u8 0,.int .u8 0,.int .u8 0,.int .u8 0,.int .u8 0,.int .u8 0,.int .u8 0,.int .u8 0,.int .u8 0,.int .u8 0,.int .u8 0,.int .u8 0,.int .u8 0,.int .u8 0,.int .u8 0,.int .u8 0,.int .u8 0,.int .u8 0,.int .u8 0] 247)::σ) (fun w ρ' σ'=>ρ'=ρ∧w = .tuple #[]∧∃rest:List Value,σ'=(r,oC (Value.int .u8 0::((Pa n).map (fun b:UInt8=>Value.int .u8 (b.toNat:Int))++rest)).toArray 247)::σ):=by
 refine Brm ?_
 unfold Sn at hm
 (repeat' split at hm)<;>omega
theorem Bhp{n m:Nat}(h0:100≤n)(h1:n≤1000000)(hm:Sn n=m):(Pa n).length=m∧m≤7:=by
 rw[←hm];unfold Sn
 split
 ·rw[Ayx h0 (by omega)];exact⟨rfl,by decide⟩
 split
 ·rw[Ayy (by omega) (by omega)];exact⟨rfl,by decide⟩
 split
 ·rw[Ayz (by omega) (by omega)];exact⟨rfl,by decide⟩
 split
 ·rw[Aza (by omega) (by omega)];exact⟨rfl,by decide⟩
 rw[Bho (by omega) (by omega)];exact⟨rfl,by decide⟩
theorem Bdz{n m:Nat}(hg:GlobE ρ)(h0:100≤n)(h1:n≤1000000)(hm:Sn n=m):CallsH (CX mn X) 116 #[iV n,iV 10] ρ σ (rP ρ σ (.string (bs (Pa n)))):=by
 obtain⟨hl,U⟩:=Bhp h0 h1 hm
 refine Bq 54 [4] Tryz.func116 rfl fun Q e V=>w_q rfl rfl fun E g=>Au (.string (ByteArray.mk #[])) (Ary rfl rfl g fun L M W w=>Av (iV 10) (l_v (Ek rfl rfl) (l_k w (Co rfl rfl (Asb rfl rfl fun N O x y=>Av (iV n) (l_v (Uz rfl rfl) (Av (.bool (decide (0≤(n:Int)))) (l_M (iV n) (gY rfl (Oe (by omega))) rfl (Aa (gY rfl (Oe (by omega))) (Da rfl rfl) (l_v (Bt rfl (Oe (by omega)) (v:=.bool (decide ((n:Int)<100))) rfl) (l_k y (Cg rfl (Jw (by omega)) (Al (kk x ?_))))))))))))))
 refine w_q rfl rfl fun P B=>Arv (Ct Bup fun c=>?_)
 refine Arx rfl rfl B fun R C=>Av (iV n) (l_v (Acf (p:=(n:Int)) (z:=(n:Int)) Tryz.underlying2 Byg rfl (Ev (by omega) (by omega))) (Au (.int .u64 (n:Int)) (Ary rfl rfl C fun T F D i=>Av (iV n) (l_v (Da rfl rfl) (l_k i (Cg rfl (Jw (by omega)) (Al (kk D ?_))))))))
 refine w_q rfl rfl fun G j=>Av (.int .u64 (n:Int)) (Arv (Ce (Asw (n:=n) (m:=m) hg h0 h1 hm) Tryz.func138 ?_))
 refine Au (iV m) (Arx rfl rfl j fun H k=>Av (iV m) (l_v (Br rfl rfl (z:=(((m+1):Nat):Int)) (Bo (by omega) (by omega) (by omega))) (l_v (Adp (l:=1) (h:=m+1) Tryz.underlying247 ty5.2 rfl (.inr ⟨_,rfl,rfl⟩) (.inr ⟨_,rfl,rfl⟩) (by omega) (by omega) (by decide)) (Av (.int .u64 (n:Int)) (Arv (Cm (vs:=[.slice (some ⟨c,1,none⟩) m 23,.int .u64 (n:Int)]) (Brn (r:=c) (n:=n) (m:=m) h0 h1 hm) Tryz.func139 rfl rfl ⟨rfl,rfl,trivial⟩ fun Y Z a0 d=>?_))))))
 obtain⟨a,f,rest,b⟩:=d
 replace a:=a.symm;replace b:=b.symm;subst a b f
 refine Ary rfl rfl k fun I J q t=>Av (iV n) (l_v (Da rfl rfl) (l_k t (Cg rfl (Jw (by omega)) (Al (kk q ?_)))))
 refine w_q rfl rfl fun K u=>Av (iV m) (l_v (Br rfl rfl (z:=(((m+1):Nat):Int)) (Bo (by omega) (by omega) (by omega))) (l_v (Adp (l:=1) (h:=m+1) Tryz.underlying247 ty5.2 rfl (.inr ⟨_,rfl,rfl⟩) (.inr ⟨_,rfl,rfl⟩) (by omega) (by omega) (by decide)) (Azz ⟨Cal,fun _ h=>h⟩ rfl (Bpv (l:=Pa n) Bxe Bwz Bxp (by rw[hl];rfl) mC (by simp)) (Au (.string (bs (Pa n))) (l_k u (Aj Cag (Aq (e (rT (.string (bs (Pa n))) ?_)))))))))
 rfl
theorem Bea{n:Nat}(hg:GlobE ρ)(hn:n≤1000000):CallsH (CX mn X) 116 #[iV n,.int .i64 10] ρ σ (rP ρ σ (.string (bs (Pa n)))):=by
 rcases (show n<100∨100≤n from by omega) with h|h
 ·exact Beb h
 ·exact Bdz hg h hn rfl
theorem Bms{n:Nat}(hg:GlobE ρ)(hn:n≤1000000):CallsH (CX mn X) 86 #[iV n] ρ σ (rP ρ σ (.string (bs (Pa n)))):=by
 refine Bq 5 [2] Tryz.func86 rfl fun Q a f=>w_q rfl rfl fun d b=>Au (.string (ByteArray.mk #[])) (Dr b fun e c=>Av (iV n) (Arv (Ce (Bea hg hn) Tryz.func116 ?_)))
 refine Au _ (l_k c (Aq (a (rT _ ?_))))
 rfl
theorem Bmt{n:Nat}(hg:GlobE ρ)(hn:n≤1000000):CallsH (CX mn X) 33 #[iV n] ρ σ (rP ρ σ (.string (bs (Pa n)))):=by
 refine Bq 5 [2] Bze rfl fun Q a f=>w_q rfl rfl fun d b=>Au (.string (ByteArray.mk #[])) (Dr b fun e c=>Av (iV n) (Arv (Ce (Bms hg hn) Tryz.func86 ?_)))
 refine Au _ (l_k c (Aq (a (rT _ ?_))))
 rfl
theorem Akf{n}(hg:GlobE ρ)(hn:0≤n∧n≤1000000):CallsH (CX mn X) 33 #[.int .i64 n] ρ σ (rP ρ σ (.string (bs (Nl n)))):=by
 obtain⟨k,rfl⟩:∃k:Nat,n=(k:Int):=⟨n.toNat,by omega⟩
 have e:=Aku hn.1
 rw[e]
 exact Bmt hg (by omega)
end
section
open Go
def tk1(l:Lab)(i:Nat):List UInt8:=Gm [wLab,Nl l.most]++Er ((Ig Pj l.kinds).take i)
def tk2(l:Lab)(m:Market)(i:Nat):List UInt8:=Zg l l.tests.length++Gm [Fv]++Er ((Ig Md m.houses).take i)
def tk3(l:Lab)(m:Market)(i:Nat):List UInt8:=(Zg l l.tests.length++Gm [Fv]++Er (Ig Md m.houses))++Er ((Ig Ob m.marks).take i)
theorem Bvx{l}:[]++Gm (wLab::wl [bs (Nl l.most)])=tk1 l 0:=by unfold tk1;simp[Er];rfl
theorem Bld{l i a}(h:l.kinds[i]?=some a):tk1 l i++Gm (Pj::wl [a])=tk1 l (i+1):=by
 unfold tk1;rw[Ts (Abi h),lZ9];rfl
theorem Bpf{l i}(h:i=l.kinds.length):tk1 l i=Zg l 0:=by
 rw[txt2_0,h];unfold tk1 Axq
 rw[Aad (by rw[Aee];omega)]
theorem Bvy{l m i}(h:i=l.tests.length):Zg l i++Gm (Fv::wl [])=tk2 l m 0:=by rw[h];unfold tk2;simp[Er];rfl
theorem Ble{l m i a}(h:m.houses[i]?=some a):tk2 l m i++Gm (Md::wl [a])=tk2 l m (i+1):=by
 unfold tk2;rw[Ts (Abi h),lZ9 _ _ (Gm _)];rfl
theorem Bpg{l m i}(h:i=m.houses.length):tk2 l m i=tk3 l m 0:=by
 rw[h];unfold tk2 tk3
 rw[Aad (by rw[Aee];omega)];simp[Er]
theorem Blf{l m i a}(h:m.marks[i]?=some a):tk3 l m i++Gm (Ob::wl [a])=tk3 l m (i+1):=by
 unfold tk3;rw[Ts (Abi h),lZ9 _ _ (Gm _)];rfl
theorem Bph{l m i}(h:i=m.marks.length):tk3 l m i=Aby l m 0:=by
 rw[txt4_0,h];unfold tk3 Apq
 rw[Aad (by rw[Aee];omega)]
def Acn(t:FTest)(j:Nat):List ByteArray:=bw (t.name.data.toList::(t.sees.take j).map Sa)
theorem Bar{t j b}(hb:t.sees[j]?=some b):Acn t j++[bs (Sa b)]=Acn t (j+1):=by
 unfold Acn;rw[Asp];congr 1
 show _::((t.sees.take j).map Sa++[Sa b])=_::_
 rw[Aeq hb]
theorem Arr{t j u}(h:j=t.sees.length)(hu:(if t.errs then Ot else Pt)=u):u::wl (Acn t j)=Oa t:=by
 unfold Acn;rw[Ank,h,Qa,←hu];rfl
def Uu(a:ByteArray)(x:FField)(j:Nat):List ByteArray:=[x.name,a,bs (Ia x.grows)]++Mm (x.marks.take j)
theorem Avn{a x j y}(h:x.marks[j]?=some y):Uu a x j++[bs (Ia y)]=Uu a x (j+1):=by
 unfold Uu;rw[←Ahy h,lZ9]
theorem Ald{m a x j}(ha:m.houses[x.house.toNat]?=some a)(h:j=x.marks.length):Im::wl (Uu a x j)=Jt m x:=by
 rw[←Tf ha,h];unfold Uu;rw[Qa];rfl
def Aau(m:Market)(s:Sale)(j:Nat):List ByteArray:=bw (Nl s.grams::(s.sellers.take j).map (Tg m))
theorem Bai{m s j h a}(hb:s.sellers[j]?=some h)(ha:m.houses[h.toNat]?=some a):Aau m s j++[a]=Aau m s (j+1):=by
 rw[Aln ha];unfold Aau;rw[Asp];congr 1
 show _::((s.sellers.take j).map (Tg m)++[Tg m h])=_::_
 rw[Aeq hb]
theorem Ari{m s j}(h:j=s.sellers.length):Od::wl (Aau m s j)=Ny m s:=by
 unfold Aau;rw[Ank,h,Qa];rfl
theorem Bpn{b:Int}(h:0≤b∧b≤2):(#[.string (bs Rb),.string (bs Nj),.string (bs wNo)]:Array Value)[b.toNat]?=some (.string (bs (Sa b))):=by
 have:b=0∨b=1∨b=2:=by omega
 rcases this with rfl|rfl|rfl<;>rfl
theorem Bgi{b}:(Sa b).length≤4:=by
 unfold Sa;split
 ·decide
 ·split<;>decide
theorem Bpk{l m i}:Afi l m i≠[]:=by
 unfold Afi Aby Apq Zg Axq Gm
 simp
theorem Ars{t j}(h:j≤t.sees.length):(Acn t j).length=1+j:=by
 simp only[Acn,bw,Xp,lZ3,lZ6];omega
theorem Ale{a x j}(h:j≤x.marks.length):(Uu a x j).length=3+j:=by
 simp only[Uu,Mm,lZ0,Xp,lZ3,lZ4,lZ6];omega
theorem Arj{m s j}(h:j≤s.sellers.length):(Aau m s j).length=1+j:=by
 simp only[Aau,bw,Xp,lZ3,lZ6];omega
theorem Avw{u ws}:u.length≤(Ho (u::ws)).length:=by
 have:=Alp (a:=[u]) (b:=ws);exact this
section
variable{l:Lab}{m:Market}
theorem Btn(lok:LabOk l)(mok:MarketOk m){i}:(tk1 l i).length≤60000:=by
 have h:=Ajd lok mok (i:=0)
 rw[txt2_0]at h
 refine Tl ?_ h
 unfold tk1 Axq
 rw[lZ0,lZ0]
 have:=Tv (ls:=Ig Pj l.kinds) (i:=i)
 omega
theorem Bto(lok:LabOk l)(mok:MarketOk m){i}:(tk2 l m i).length≤60000:=by
 have h:=Aje lok mok
 refine Tl ?_ h
 unfold tk2 Apq
 rw[lZ0,lZ0 (bs:=Er (Ig Ob m.marks)),lZ0 (bs:=Er (Ig Md m.houses))]
 have:=Tv (ls:=Ig Md m.houses) (i:=i)
 omega
theorem Btp(lok:LabOk l)(mok:MarketOk m){i}:(tk3 l m i).length≤60000:=by
 have h:=Aje lok mok
 refine Tl ?_ h
 unfold tk3 Apq
 rw[lZ0,lZ0 (bs:=Er (Ig Ob m.marks))]
 have:=Tv (ls:=Ig Ob m.marks) (i:=i)
 omega
theorem Akw{u ls}{i:Nat}{a k}(h:(Er (Ig u ls)).length≤k)(ha:ls[i]?=some a):(Gm (u::wl [a])).length≤k :=
 Tl (Axo (lZ8 (Abi ha))) h
end
end
section
open Go
variable{mn:Bool}{X:Frame→List Frame→Ro→Own→Cy→Prop}{ρ:Ro}{σ:Own}
theorem Bqf{x vx}(hg:GlobE ρ)(rx:Val ρ vx x)(hx:0≤x.low∧x.low≤x.high∧x.high≤1000000):CallsH (CX mn X) 34 #[vx] ρ σ (rP ρ σ (.string (bs (Ia x)))):=by
 have M:=Rn (n:=x.low) (by omega)
 have N:=Rn (n:=x.high) (by omega)
 refine Bq 19 [2] Tryz.func34 rfl fun Q f O=>w_q rfl rfl fun u l=>Arv (Eb (v:=vx) rfl fun P=>?_)
 refine Bb (a:=x) rx fun Y d b=>?_
 replace hg:=GlobE.mono d hg
 refine Au _ (Ds l fun z B q t=>Arw (Ba Span.f_low Bxl rfl ty3 b) fun V j=>?_)
 have⟨I,J⟩:=At.rng j
 refine l_v (Eo ty3 j) (Arw (Ba Span.f_high Bxl rfl ty3 b) fun W k=>?_)
 have⟨K,L⟩:=At.rng k
 refine l_v (Eo ty3 k) (l_v (Hs) (l_k t (Cw (fun c=>?_) (fun c=>?_))))
 ·have e:=Jr c
  refine Cr fun w m=>Arw (Ba Span.f_low Bxl rfl ty3 b) fun R g=>?_
  have⟨C,D⟩:=At.rng g
  refine l_v (Eo ty3 g) (Arv (Ce (Akf (n:=x.low) hg (by omega)) Bze ?_))
  refine Au _ (l_k m (Aj (Cah d) (Aq (f (rT (.string (bs (Nl x.low))) ?_)))))
  rw[show Ia x=_ from if_pos e]
 have e:=Jq c
 refine Al (kk q ?_)
 refine Ai fun y p=>Px (Cu 0 zZ0 rfl (Ba Span.f_low Bxl rfl ty3 b) fun T h=>?_)
 have⟨E,F⟩:=At.rng h
 refine Bw 1 zZ1 rfl (Eo ty3 h) (Cu 4 [o1,o1,o0,o0,o1,o0,o0,o0,o0] rfl (Ba Span.f_high Bxl rfl ty3 b) fun U i=>?_)
 have⟨G,H⟩:=At.rng i
 refine Bw 5 [o1,o1,o0,o0,o1,o1,o0,o0,o0] rfl (Eo ty3 i) (Hr 2 [o1,o1,o1,o0,o1,o1,o0,o0,o0] rfl (Bm (Akf hg (by omega)) Bze rfl rfl ⟨rfl,trivial⟩ ⟨Cal,?_⟩))
 refine Bw 3 zZ8 rfl (Rm rfl rfl (by first|omega|(simp only[lZ0,lZ3,lZ4,lZ6,lZ5]at *;omega))) (Hr 6 zZ2 rfl (Bm (Akf hg (by omega)) Bze rfl rfl ⟨rfl,trivial⟩ ⟨Cal,?_⟩))
 refine Dp 7 zZ3 rfl (Rm rfl rfl (by first|omega|(simp only[lZ0,lZ3,lZ4,lZ6,lZ5]at *;omega))) (Dp 8 zZ4 rfl (Cp rfl) (Ec rfl (kk p ?_)))
 refine Aj (Cah d) (Aq (f ⟨rfl,rfl,eT (.string (bs (((Nl x.low)++([46,46]:List UInt8))++(Nl x.high)))) ?_⟩))
 rw[show Ia x=_ from if_neg e];simp
theorem Brq{r u ws vw}(rw_:Val ρ vw ws)(hbl:(Gm (u::wl ws)).length≤100000)(hl:ws.length≤1000):CallsH (CX mn X) 30 #[.string (bs u),vw,pV r] ρ ((r,oC #[.pointer none,nS] 83)::σ) (fun w ρ' σ'=>Ro.le ρ ρ'∧w = .tuple #[]∧∃(v':Value) (gr:Own),Grow ρ' 5 v' ([]++Gm (u::wl ws)) gr∧σ'=(r,oC #[pV r,v'] 83)::(gr++σ)):=by
 have hjl:(Ho (u::wl ws)).length+1=(Gm (u::wl ws)).length:=by unfold Gm;simp
 refine Bq 12 [] Byh rfl fun Q q j=>Ag rfl rfl (Av (.string (bs u)) (Arv (Cj (xs:=[bs u]) (vs:=[.string (bs u)]) Bwy ty9 zr9 (by decide) (Dk (os:=[.tmp 5]) ⟨rfl,trivial⟩) ⟨Fp (by have:=Avw (u:=u) (ws:=wl ws);omega),trivial⟩ (by decide) fun c h g=>?_)))
 have d:Grow ρ 9 (.slice (some ⟨c,0,none⟩) 1 1) ([bs u]:List ByteArray) [(c,oC h.toArray 9)]:=Bs g rfl (by decide)
 refine Av vw (Arv (Ge Bwy Bwy (Ab Bxs) nL d rw_ (by simp only[lZ0,lZ3,lZ4];omega) fun t p e=>?_))
 refine Ca e fun y l m=>Arv (Ce (Bhc m (show (Ho (u::wl ws)).length≤1000000 by omega) (by simp)) Tryz.func32 ?_)
 refine l_v (Rm rfl rfl (show (Ho (u::wl ws)).length+1<_ by omega)) (Arv (Fj (Akm Hm (show _+(Gm (u::wl ws)).length≤_ by simp only[lZ4];omega)) Byq ⟨rfl,rfl,trivial⟩ fun x z B i=>?_))
 obtain⟨a,v,n,k,f,b⟩:=i
 replace a:=a.symm;replace b:=b.symm;subst a b k
 apply Ac
 refine j ⟨l,rfl,_,_,f,rfl⟩
theorem Acv{r xs vb gb u ws vw}(hb:Grow ρ 5 vb xs gb)(hx:xs.length≤100000000)(rw_:Val ρ vw ws)(hbl:(Gm (u::wl ws)).length≤100000)(hl:ws.length≤1000):CallsH (CX mn X) 30 #[.string (bs u),vw,pV r] ρ ((r,oC #[pV r,vb] 83)::(gb++σ)) (fun w ρ' σ'=>Ro.le ρ ρ'∧w = .tuple #[]∧∃(v':Value) (gr:Own),Grow ρ' 5 v' (xs++Gm (u::wl ws)) gr∧σ'=(r,oC #[pV r,v'] 83)::(gr++σ)):=by
 have hjl:(Ho (u::wl ws)).length+1=(Gm (u::wl ws)).length:=by unfold Gm;simp
 refine Bq 12 [] Byh rfl fun Q q k=>Ag rfl rfl (Av (.string (bs u)) (Arv (Cj (xs:=[bs u]) (vs:=[.string (bs u)]) Bwy ty9 zr9 (by decide) (Dk (os:=[.tmp 5]) ⟨rfl,trivial⟩) ⟨Fp (by have:=Avw (u:=u) (ws:=wl ws);omega),trivial⟩ (by decide) fun c i h=>?_)))
 have e:Grow ρ 9 (.slice (some ⟨c,0,none⟩) 1 1) ([bs u]:List ByteArray) [(c,oC i.toArray 9)]:=Bs h rfl (by decide)
 refine Av vw (Arv (Ge Bwy Bwy (Ab Bxs) nL e rw_ (by simp only[lZ0,lZ3,lZ4];omega) fun t p f=>?_))
 refine Ca f fun y d m=>?_
 replace hb:=Caj d hb
 refine Arv (Ce (Bhc m (show (Ho (u::wl ws)).length≤1000000 by omega) (by simp)) Tryz.func32 ?_)
 refine l_v (Rm rfl rfl (show (Ho (u::wl ws)).length+1<_ by omega)) (Bj (Cai Asc) (Bj (Cai Asd) (Arv (Fj (Sf hb (show _+(Gm (u::wl ws)).length≤_ by omega)) Byq ⟨rfl,rfl,trivial⟩ fun x z B j=>?_))))
 obtain⟨a,v,n,l,g,b⟩:=j
 replace a:=a.symm;replace b:=b.symm;subst a b l
 apply Ac
 refine k ⟨d,rfl,_,_,g,rfl⟩
theorem Bmv{l m vl vm}(hg:GlobE ρ)(rl:Val ρ vl l)(rm:Val ρ vm m):CallsH (CX mn X) 8 #[vl,vm] ρ σ (fun w ρ' σ'=>Ro.le ρ ρ'∧σ'=σ∧w=(.tuple #[.string (Pb l m),iV (Ow l m)])):=by
 refine Bq 188 [4,5] Tryz.func8 rfl fun Q cp q9=>w_q rfl rfl fun K1 k1=>Arv (Eb (v:=vl) rfl fun k2=>?_)
 refine Bb (a:=l) rl fun t3 l2 k=>?_
 replace rm:=Val.mono l2 rm
 replace hg:=GlobE.mono l2 hg
 refine Arv (Eb (v:=vm) rfl fun B=>?_)
 refine Bb (a:=m) rm fun mu l3 e=>?_
 replace hg:=GlobE.mono l3 hg
 replace k:=At.mono l3 k
 refine Au _ (Au _ (Ds k1 fun K4 K5 k4 k5=>Arw (Gz Zu k) fun v6 r6=>Arv (Ce (Aaz r6) Tryz.func28 ?_)))
 refine Au _ (Dr k5 fun K7 k7=>Av (iV (Gh l)) (l_v (Dg rfl rfl) (l_k k7 (Bu (t:=Gh l != 0) rfl (fun V=>?_) (fun V=>?_)))))
 ·have hlf:=Ls V
  have q8:=Ls V
  refine Cr fun K9 k9=>Av (iV (Gh l)) (Au _ (Au _ (l_k k9 (Aq (cp ?_)))))
  refine⟨(Cam l2 l3),rfl,Eq.trans (Mp (r:=4) (r':=5) (rs:=[]) (v:=.string (ByteArray.mk #[])) (v':=iV (Gh l)) (vs:=[]) ⟨rfl,rfl,trivial⟩) ?_⟩;rw[(Afa hlf).1,(Afa hlf).2];rfl
 have hlf:=Jh V
 have lok:=Ll hlf
 have q8:=Jh V
 refine Al (kk k4 ?_)
 refine Asb rfl rfl fun mx n0 ib ig=>Arw (Gz Ln e) fun rn l6=>Arv (Ce (Js l6) Tryz.func29 ?_)
 refine Au _ (Dr ig fun n8 ip=>Av (iV (Cf m)) (l_v (Dg rfl rfl) (l_k ip (Bu (t:=Cf m != 0) rfl (fun U=>?_) (fun U=>?_)))))
 ·have hmf:=Ls U
  have ku:=Ls U
  refine Cr fun nd iv=>Av (iV (Cf m)) (Au _ (Au _ (l_k iv (Aq (cp ?_)))))
  refine⟨(Cam l2 l3),rfl,Eq.trans (Mp (r:=4) (r':=5) (rs:=[]) (v:=.string (ByteArray.mk #[])) (v':=iV (Cf m)) (vs:=[]) ⟨rfl,rfl,trivial⟩) ?_⟩;rw[(Afb hlf hmf).1,(Afb hlf hmf).2];rfl
 have hmf:=Jh U
 have mok:=Rg hmf
 have hpl:=Awv lok mok
 have hnt:=lok.ntests
 have hnf:=mok.nfields
 have hns:=mok.nsales
 have hkl:=Ua lok.kinds
 have hhl:=Ua mok.houses
 have hml:=Ua mok.marks
 have hmo:=lok.most
 have hdm:=Rn (n:=l.most) (by omega)
 have qa:(Er (Ig bZ8 l.kinds)).length≤60000:=hpl.1
 have qb:(Er (Ig bZ4 m.houses)).length≤60000:=hpl.2.1
 have qc:(Er (Ig bZ5 m.marks)).length≤60000:=hpl.2.2.1
 have qd:(Gm (wl ([bs bZ6,bs (Nl l.most)]:List ByteArray))).length≤60000:=by show (([108,97,98]++32::Nl l.most)++[10]:List UInt8).length≤_;simp only[lZ0,lZ3,lZ4];omega
 have qe:(Gm (wl ([bs bZ2]:List ByteArray))).length≤60000:=by decide
 have ku:=Jh U
 refine Al (kk ib ?_)
 refine Cr fun ni j0=>Arv (Ct Blz fun d=>?_)
 refine Dr j0 fun nn j5=>l_v (Il (fn:=.func 30) (caps:=[.tmp 8]) (vs:=[pV d]) ⟨rfl,trivial⟩) (Au _ (Dr j5 fun ns ja=>Av (.func (.func 30) #[] #[pV d]) (Arw (Ba Lab.f_most Bxd rfl ty3 k) fun s6 fc=>?_)))
 have⟨pr,ps⟩:=At.rng fc
 refine l_v (Eo ty3 fc) (Arv (Ce (Akf (n:=l.most) hg (by omega)) Bze ?_))
 refine Arv (Cj (α:=ByteArray) (xs:=[bs (Nl l.most)]) (vs:=[.string (bs (Nl l.most))]) Bwy ty9 zr9 (by decide) (Dk (os:=[.tmp 46]) ⟨rfl,trivial⟩) ⟨Fp (l:=Nl l.most) (by first|decide|omega),trivial⟩ (by decide) fun d2 gt gk=>?_)
 have g4:Grow mu 9 (.slice (some ⟨d2,0,none⟩) 1 1) ([bs (Nl l.most)]:List ByteArray) [(d2,oC gt.toArray 9)]:=Bs gk rfl (by decide)
 refine Ca g4 fun t9 b1 ls=>?_
 replace hg:=GlobE.mono b1 hg
 replace k:=At.mono b1 k
 replace e:=At.mono b1 e
 refine Arv (Sq (vs:=[.string (ByteArray.mk #[108,97,98]),.slice (some ⟨d2,0,none⟩) 1 1]) (caps:=[pV d]) rfl (Brq (r:=d) (u:=bZ6) (ws:=([bs (Nl l.most)]:List ByteArray)) ls (by show (Gm (wl ([bs bZ6,bs (Nl l.most)]:List ByteArray))).length≤_;omega) (by first|decide|(simp only[lZ3,lZ4];omega)|(rw[show (([bs (Nl l.most)]:List ByteArray)).length=1 from rfl];omega))) Byh rfl rfl ⟨rfl,rfl,trivial⟩ fun sq mt tm hp=>?_)
 obtain⟨b2,i7,mf,h0,g5,cw⟩:=hp
 replace cw:=cw.symm;subst cw i7
 replace hg:=GlobE.mono b2 hg
 replace k:=At.mono b2 k
 replace e:=At.mono b2 e
 refine Ds ja fun o5 o6 jl jm=>Arw (Ba Lab.f_kinds Bxd rfl Hw k) fun sb lt=>Arw (Gz Hw lt) fun mg af=>?_
 have pt:=Can af
 refine l_v (Ci (el:=9) Bwy rfl af) (Av _ (l_k jm (Ao (Aj (Cai Asc) (Cc (fun mm ee dd ρ' σ'=>∃(i:Nat) (bd:Value) (b6:Own),(l.kinds.length-i)=mm∧[]=dd∧Ro.le mt ρ'∧(b6++((d,oC #[pV d,bd] 83)::σ))=σ'∧ee 2=pV k2∧ee 3=pV B∧ee 8=pV d∧ee 9=(.func (.func 30) #[] #[pV d])∧ee 50=mg∧ee 51=(iV (l.kinds.length:Int))∧ee 52=iV i∧(i≤l.kinds.length)∧Grow ρ' 5 bd (tk1 l i) b6∧True) (m:=_) ⟨0,mf,h0,rfl,rfl,Cal,rfl,rfl,rfl,rfl,rfl,rfl,rfl,rfl,Hz _,Fy Bvx g5,trivial⟩ ?_)))))
 rintro r0 p5 _ fq _ ⟨i,bd,b6,rfl,rfl,M,rfl,e3,e4,e7,c7,e5,e6,c6,rc,al,_⟩
 replace hg:=GlobE.mono M hg
 replace k:=At.mono M k
 replace e:=At.mono M e
 replace af:=Val.mono M af
 have qk:=Btn lok mok (i:=i)
 refine Cr fun o7 jn=>l_v (Da c6 e6) (Asa jn fun o8 jo=>Bu (t:=decide ((i:Int)<(l.kinds.length:Int))) rfl (fun bm=>?_) (fun bm=>?_))
 ·have ky:=lZ2 bm
  refine Al (kk jo ?_)
  refine Ai fun o9 jp=>Ao (Cr fun oa jq=>?_)
  obtain⟨I,ck⟩:=Ed (xs:=l.kinds) (i:=i) (by first|omega|(simp only[lZ3,lZ4];omega))
  refine Arw (Ch i Bwy ty9 e5 af (q:=(i:Int)) c6 rfl ck) fun sc ff=>?_
  have pu:I.data.toList.length<2^60:=At.slen ff
  refine l_v (Pk ty9 rfl ff) (Au _ (l_k jq (Bf (l_v (Ah c7) (Av _ (Arv (Cj (α:=ByteArray) (xs:=[bs I.data.toList]) (vs:=[.string I]) Bwy ty9 zr9 (by decide) (Dk (os:=[.tmp 57]) ⟨rfl,trivial⟩) ⟨Fp (l:=I.data.toList) (by first|decide|omega),trivial⟩ (by decide) fun d3 gu gl=>?_)))))))
  have g6:Grow fq 9 (.slice (some ⟨d3,0,none⟩) 1 1) ([bs I.data.toList]:List ByteArray) [(d3,oC gu.toArray 9)]:=Bs gl rfl (by decide)
  refine Ca g6 fun ta ey lu=>?_
  replace al:=Caj ey al
  refine Bj (Cai Asd) (Arv (Sq (vs:=[.string (ByteArray.mk #[107,105,110,100]),.slice (some ⟨d3,0,none⟩) 1 1]) (caps:=[pV d]) rfl (Acv (r:=d) (u:=bZ8) (ws:=([bs I.data.toList]:List ByteArray)) al (by omega) lu (Tl (Akw hpl.1 ck) nL) (by first|decide|(simp only[lZ3,lZ4];omega)|(rw[show (([bs I.data.toList]:List ByteArray)).length=1 from rfl];omega))) Byh rfl rfl ⟨rfl,rfl,trivial⟩ fun sr tb tn hq=>?_))
  obtain⟨kq,i8,mh,h1,g7,cx⟩:=hq
  replace cx:=cx.symm;subst cx i8
  refine l_k jp (Bf (l_v (Br c6 rfl (z:=(((i+1):Nat):Int)) wrE) (Av _ (Bj (Cai Asc) (Ac ?_)))))
  refine⟨_,?_,(i+1),mh,h1,rfl,rfl,(Cam (Cam M ey) kq),rfl,e3,e4,e7,c7,e5,e6,rfl,(by omega),(Fy (Bld ck) g7),trivial⟩
  omega
 have ky:=lZ1 bm
 refine Bx (kk jl ?_)
 refine Asb rfl rfl fun ob oc jr js=>Arw (Ba Lab.f_tests Bxd rfl Vi k e3) fun sd lv=>Arw (Gz Vi lv) fun d8 ag=>?_
 have pv:=Can ag
 refine l_v (Ci (el:=46) Bxg rfl ag) (Av _ (l_k js (Ao (Cc (fun mm ee dd ρ' σ'=>∃(i:Nat) (R:Value) (O:Own),(l.tests.length-i)=mm∧[]=dd∧Ro.le fq ρ'∧(O++((d,oC #[pV d,R] 83)::σ))=σ'∧ee 3=pV B∧ee 8=pV d∧ee 9=(.func (.func 30) #[] #[pV d])∧ee 62=d8∧ee 63=(iV (l.tests.length:Int))∧ee 64=iV i∧(i≤l.tests.length)∧Grow ρ' 5 R (Zg l i) O∧True) (m:=_) ⟨0,bd,b6,rfl,rfl,Cal,rfl,e4,e7,c7,rfl,rfl,rfl,Hz _,Fy (Bpf (by omega)) al,trivial⟩ ?_))))
 rintro r1 p6 _ tc _ ⟨i,R,O,rfl,rfl,a5,rfl,ap,ca,ar,c8,c9,aq,rd,E,_⟩
 replace hg:=GlobE.mono a5 hg
 replace e:=At.mono a5 e
 replace ag:=Val.mono a5 ag
 have ql:=Ajd lok mok (i:=i)
 refine Cr fun od jt=>l_v (Da aq c9) (Asa jt fun oe ju=>Bu (t:=decide ((i:Int)<(l.tests.length:Int))) rfl (fun bn=>?_) (fun bn=>?_))
 ·have kz:=lZ2 bn
  refine Al (kk ju ?_)
  refine Ai fun og jv=>Ao (Cr fun oh jw=>?_)
  obtain⟨h,Y⟩:=Ed (xs:=l.tests) (i:=i) (by first|omega|(simp only[lZ3,lZ4];omega))
  have i0:=lok.test i h Y;have hz:=Bde lok mok (lZ8 Y);have qp:=Wk i0.1
  refine Arw (Ch i Bxg Um c8 ag (q:=(i:Int)) aq rfl Y) fun se lw=>Arw (Gz Um lw) fun mi fg=>Arv (Ct Ws fun jx=>?_)
  refine Cx rfl (Dv (v:=mi) (a:=h) (c:=Aag) Um rfl rfl fg rfl ?_)
  refine Bb (a:=h) fg fun d9 d5 d7=>?_
  replace hg:=GlobE.mono d5 hg
  replace E:=Caj d5 E
  refine Asa jw fun oi jy=>Px (Cu 0 (zT 1 4) rfl (Ba FTest.f_name Bxh rfl ty9 d7) fun sf fh=>?_)
  have pw:h.name.data.toList.length<2^60:=At.slen fh
  refine Bw 1 (zT 2 3) rfl (Pk ty9 rfl fh) (Bw 3 [o1,o1,o0,o1,o0] rfl (Cp (v:=.string (ByteArray.mk #[116,101,115,116])) rfl) (Hr 2 (zT 4 1) rfl (Cj (α:=ByteArray) (xs:=[bs h.name.data.toList]) (vs:=[.string h.name]) Bwy ty9 zr9 (by decide) (Dk (os:=[.tmp 69]) ⟨rfl,trivial⟩) ⟨Fp (l:=h.name.data.toList) (by first|decide|omega),trivial⟩ (by decide) fun J br gm=>⟨Cal,?_⟩)))
  have g8:Grow d9 9 (.slice (some ⟨J,0,none⟩) 1 1) ([bs h.name.data.toList]:List ByteArray) [(J,oC br.toArray 9)]:=Bs gm rfl (by decide)
  refine Dp 4 (zT 5 0) rfl (Cp (v:=.slice (some ⟨J,0,none⟩) 1 1) rfl) (Ec rfl (kk jy ?_))
  refine Ai fun gd jz=>?_
  have eq:∀(ew:List UInt8) (ee:Env),(ee 3=pV B)∧(ee 8=pV d)∧(ee 9=(.func (.func 30) #[] #[pV d]))∧(ee 13=pV jx)∧(ee 15=(.slice (some ⟨J,0,none⟩) 1 1))∧(ee 62=d8)∧(ee 63=(iV (l.tests.length:Int)))∧(ee 64=iV i)∧(ee 14=(.string (bs ew)))∧((if h.errs then Ot else Pt)=ew)∧(ew.length=4)∧True→gd ee [] d9 (([(J,oC br.toArray 9)]++(O++((d,oC #[pV d,R] 83)::σ)))):=by
   rintro ew p7 ⟨hc,hh,hi,h9,hb,hd,he,hf,ha,f1,re,_⟩
   apply jz
   refine Asb rfl rfl fun oj ok k0 k6=>Arw (Ba FTest.f_sees Bxh rfl Afp d7 h9) fun sg lx=>Arw (Gz Afp lx) fun mj ah=>?_
   have px:=Can ah
   refine l_v (Ci (el:=75) Bxq rfl ah) (Av _ (l_k k6 (Ao (Cc (fun mm ee dd ρ' σ'=>∃(j:Nat) (be:Value) (b7:Own),(h.sees.length-j)=mm∧[]=dd∧Ro.le d9 ρ'∧(b7++(O++((d,oC #[pV d,R] 83)::σ)))=σ'∧ee 3=pV B∧ee 8=pV d∧ee 9=(.func (.func 30) #[] #[pV d])∧ee 14=(.string (bs ew))∧ee 62=d8∧ee 63=(iV (l.tests.length:Int))∧ee 64=iV i∧ee 74=mj∧ee 75=(iV (h.sees.length:Int))∧ee 15=be∧ee 76=iV j∧(j≤h.sees.length)∧Grow ρ' 9 be (Acn h j) b7∧True) (m:=_) ⟨0,.slice (some ⟨J,0,none⟩) 1 1,[(J,oC br.toArray 9)],rfl,rfl,Cal,rfl,hc,hh,hi,ha,hd,he,hf,rfl,rfl,hb,rfl,Hz _,Fy (by rfl) g8,trivial⟩ ?_))))
   rintro r4 p8 _ mv _ ⟨j,be,b7,rfl,rfl,a6,rfl,ea,eh,cc,e8,eb,ec,ed,ef,eg,e9,cb,rf,am,_⟩
   replace hg:=GlobE.mono a6 hg
   replace E:=Caj a6 E
   replace ah:=Val.mono a6 ah
   have qq:=Ars (t:=h) (j:=j) (by omega)
   refine Cr fun ol k8=>l_v (Da cb eg) (Asa k8 fun om ka=>Bu (t:=decide ((j:Int)<(h.sees.length:Int))) rfl (fun bo=>?_) (fun bo=>?_))
   ·have l0:=lZ2 bo
    refine Al (kk ka ?_)
    refine Ai fun on kb=>Ao (Cr fun oo kc=>?_)
    obtain⟨y,cl⟩:=Ed (xs:=h.sees) (i:=j) (by first|omega|(simp only[lZ3,lZ4];omega))
    have hv:=Awj hlf Y cl
    have qr:=Bgi (b:=y)
    refine Arw (Ch j Bxq Pi ef ah (q:=(j:Int)) cb rfl cl) fun sh fi=>?_
    have⟨py,pz⟩:=At.rng fi
    refine l_v (Eo Pi fi) (Au _ (l_k kc (Bf (l_v (Ah e9) (Av _ (l_v (Cq (k':=1) ((y).toNat) Bzp ty9.2 rfl (q:=y) rfl (by omega) (by omega) (off':=(y).toNat) (by omega)) ?_))))))
    obtain⟨rh,pa,ht⟩:=hg.views
    refine l_v (Aae (v:=.string (bs (Sa y))) ty9.1 rfl ht (Bpn hv)) (Arv (Cj (α:=ByteArray) (xs:=[bs (Sa y)]) (vs:=[.string (bs (Sa y))]) Bwy ty9 zr9 (by decide) (Dk (os:=[.tmp 83]) ⟨rfl,trivial⟩) ⟨Fp (l:=Sa y) (by first|decide|omega),trivial⟩ (by decide) fun ep gv gn=>?_))
    have g9:Grow mv 9 (.slice (some ⟨ep,0,none⟩) 1 1) ([bs (Sa y)]:List ByteArray) [(ep,oC gv.toArray 9)]:=Bs gn rfl (by decide)
    refine Ca g9 fun td ez ly=>?_
    replace am:=Caj ez am
    refine Arv (Ge (σ:=O++((d,oC #[pV d,R] 83)::σ)) (gr:=b7) (xs:=Acn h j) (ys:=([bs (Sa y)]:List ByteArray)) Bwy Bwy (Ab Bxs) nL am ly (by first|omega|(simp only[lZ0,lZ3,lZ4]at *;omega)) fun fl h6 ga=>?_)
    refine Au fl (l_k kb (Bf (l_v (Br cb rfl (z:=(((j+1):Nat):Int)) wrE) (Av _ (Ac ?_)))))
    refine⟨_,?_,(j+1),fl,h6,rfl,rfl,(Cam a6 ez),rfl,ea,eh,cc,e8,eb,ec,ed,ef,eg,rfl,rfl,(by omega),(Fy (Bar cl) ga),trivial⟩
    omega
   have l0:=lZ1 bo
   refine Bx (kk k0 ?_)
   refine Bf (l_v (Ah cc) (l_v (Ah e8) (l_v (Ah e9) (Ca am fun te f0 lz=>?_))))
   replace E:=Caj f0 E
   refine Bj (Cai Asd) (Arv (Sq (vs:=[.string (bs ew),be]) (caps:=[pV d]) rfl (Acv (r:=d) (u:=ew) (ws:=Acn h j) E (by omega) lz (by rw[Arr (by omega) f1];have:=hz.2;omega) (by first|decide|(simp only[lZ3,lZ4];omega)|(have:=Ars (t:=h) (j:=j) (by omega);omega))) Byh rfl rfl ⟨rfl,rfl,trivial⟩ fun ss tf to hr=>?_))
   obtain⟨kr,i9,ml,h2,gb,cy⟩:=hr
   replace cy:=cy.symm;subst cy i9
   refine l_k jv (Bf (l_v (Br ed rfl (z:=(((i+1):Nat):Int)) wrE) (Av _ (Bj (Cai Asc) (Ac ?_)))))
   refine⟨_,?_,(i+1),ml,h2,rfl,rfl,(Cam (Cam (Cam (Cam a5 d5) a6) f0) kr),rfl,ea,eh,cc,eb,ec,rfl,(by omega),(Fy (by rw[Arr (by omega) f1];exact Aru Y) gb),trivial⟩
   omega
  refine Cr fun op kd=>Arw (Ba FTest.f_errs Bxh rfl ty4 d7) fun si m0=>l_v (Nx ty4 rfl m0) (l_k kd (Bu (t:=h.errs) rfl (fun bp=>?_) (fun bp=>?_)))
  ·refine Bf (Au _ (Ac ?_))
   refine eq bZ1 _ ⟨ap,ca,ar,rfl,rfl,c8,c9,aq,rfl,(by rw[bp];rfl),rfl,trivial⟩
  refine Al (eq bZ9 _ ⟨ap,ca,ar,rfl,rfl,c8,c9,aq,rfl,(by rw[bp];rfl),rfl,trivial⟩)
 have kz:=lZ1 bn
 refine Bx (kk jr ?_)
 refine Cr fun oq ke=>l_v (Ah ar) (Bj (Cai Asd) (Arv (Sq (vs:=[.string (ByteArray.mk #[109,97,114,107,101,116]),nS]) (caps:=[pV d]) rfl (Acv (r:=d) (u:=bZ2) (ws:=([]:List ByteArray)) E (by omega) (Gx (α:=ByteArray)) (by decide) (by first|decide|(simp only[lZ3,lZ4];omega)|(rw[show (([]:List ByteArray)).length=1 from rfl];omega))) Byh rfl rfl ⟨rfl,rfl,trivial⟩ fun st mw tp hs=>?_)))
 obtain⟨d6,ia,mo,h3,gc,cz⟩:=hs
 replace cz:=cz.symm;subst cz ia
 replace hg:=GlobE.mono d6 hg
 replace e:=At.mono d6 e
 refine Ds ke fun ot ou kf kg=>Arw (Ba Market.f_houses Bxa rfl Hw e ap) fun sj m1=>Arw (Gz Hw m1) fun mp ai=>?_
 have q0:=Can ai
 refine l_v (Ci (el:=9) Bwy rfl ai) (Av _ (l_k kg (Ao (Aj (Cai Asc) (Cc (fun mm ee dd ρ' σ'=>∃(i:Nat) (bf:Value) (b9:Own),(m.houses.length-i)=mm∧[]=dd∧Ro.le mw ρ'∧(b9++((d,oC #[pV d,bf] 83)::σ))=σ'∧ee 3=pV B∧ee 8=pV d∧ee 9=(.func (.func 30) #[] #[pV d])∧ee 95=mp∧ee 96=(iV (m.houses.length:Int))∧ee 97=iV i∧(i≤m.houses.length)∧Grow ρ' 5 bf (tk2 l m i) b9∧True) (m:=_) ⟨0,mo,h3,rfl,rfl,Cal,rfl,ap,ca,ar,rfl,rfl,rfl,Hz _,Fy (Bvy (by omega)) gc,trivial⟩ ?_)))))
 rintro r5 p9 _ fr _ ⟨i,bf,b9,rfl,rfl,a7,rfl,cd,ei,ce,ej,ek,cf,rg,an,_⟩
 replace hg:=GlobE.mono a7 hg
 replace e:=At.mono a7 e
 replace ai:=Val.mono a7 ai
 have qm:=Bto lok mok (i:=i)
 refine Cr fun ov kh=>l_v (Da cf ek) (Asa kh fun ow ki=>Bu (t:=decide ((i:Int)<(m.houses.length:Int))) rfl (fun bq=>?_) (fun bq=>?_))
 ·have l1:=lZ2 bq
  refine Al (kk ki ?_)
  refine Ai fun ox kj=>Ao (Cr fun oy kl=>?_)
  obtain⟨F,au⟩:=Ed (xs:=m.houses) (i:=i) (by first|omega|(simp only[lZ3,lZ4];omega))
  have q4:=Qp mok.houses (lZ8 au)
  refine Arw (Ch i Bwy ty9 ej ai (q:=(i:Int)) cf rfl au) fun ri f2=>?_
  have pb:F.data.toList.length<2^60:=At.slen f2
  refine l_v (Pk ty9 rfl f2) (Au _ (l_k kl (Bf (l_v (Ah ce) (Av _ (Arv (Cj (α:=ByteArray) (xs:=[bs F.data.toList]) (vs:=[.string F]) Bwy ty9 zr9 (by decide) (Dk (os:=[.tmp 102]) ⟨rfl,trivial⟩) ⟨Fp (l:=F.data.toList) (by first|decide|omega),trivial⟩ (by decide) fun d0 go ge=>?_)))))))
  have fs:Grow fr 9 (.slice (some ⟨d0,0,none⟩) 1 1) ([bs F.data.toList]:List ByteArray) [(d0,oC go.toArray 9)]:=Bs ge rfl (by decide)
  refine Ca fs fun su er l4=>?_
  replace an:=Caj er an
  refine Bj (Cai Asd) (Arv (Sq (vs:=[.string (ByteArray.mk #[104,111,117,115,101]),.slice (some ⟨d0,0,none⟩) 1 1]) (caps:=[pV d]) rfl (Acv (r:=d) (u:=bZ4) (ws:=([bs F.data.toList]:List ByteArray)) an (by omega) l4 (Tl (Akw hpl.2.1 au) nL) (by first|decide|(simp only[lZ3,lZ4];omega)|(rw[show (([bs F.data.toList]:List ByteArray)).length=1 from rfl];omega))) Byh rfl rfl ⟨rfl,rfl,trivial⟩ fun sk sv tg hj=>?_))
  obtain⟨km,i1,m3,gw,ft,cq⟩:=hj
  replace cq:=cq.symm;subst cq i1
  refine l_k kj (Bf (l_v (Br cf rfl (z:=(((i+1):Nat):Int)) wrE) (Av _ (Bj (Cai Asc) (Ac ?_)))))
  refine⟨_,?_,(i+1),m3,gw,rfl,rfl,(Cam (Cam a7 er) km),rfl,cd,ei,ce,ej,ek,rfl,(by omega),(Fy (Ble au) ft),trivial⟩
  omega
 have l1:=lZ1 bq
 refine Bx (kk kf ?_)
 refine Asb rfl rfl fun my mz ic ie=>Arw (Ba Market.f_marks Bxa rfl Hw e cd) fun rj l5=>Arw (Gz Hw l5) fun m4 aa=>?_
 have pc:=Can aa
 refine l_v (Ci (el:=9) Bwy rfl aa) (Av _ (l_k ie (Ao (Cc (fun mm ee dd ρ' σ'=>∃(i:Nat) (ba:Value) (b3:Own),(m.marks.length-i)=mm∧[]=dd∧Ro.le fr ρ'∧(b3++((d,oC #[pV d,ba] 83)::σ))=σ'∧ee 3=pV B∧ee 8=pV d∧ee 9=(.func (.func 30) #[] #[pV d])∧ee 107=m4∧ee 108=(iV (m.marks.length:Int))∧ee 109=iV i∧(i≤m.marks.length)∧Grow ρ' 5 ba (tk3 l m i) b3∧True) (m:=_) ⟨0,bf,b9,rfl,rfl,Cal,rfl,cd,ei,ce,rfl,rfl,rfl,Hz _,Fy (Bpg (by omega)) an,trivial⟩ ?_))))
 rintro qv oz _ fm _ ⟨i,ba,b3,rfl,rfl,a0,rfl,bu,df,bv,dc,de,bt,r7,aj,_⟩
 replace hg:=GlobE.mono a0 hg
 replace e:=At.mono a0 e
 replace aa:=Val.mono a0 aa
 have qh:=Btp lok mok (i:=i)
 refine Cr fun n1 ih=>l_v (Da bt de) (Asa ih fun n2 ii=>Bu (t:=decide ((i:Int)<(m.marks.length:Int))) rfl (fun bh=>?_) (fun bh=>?_))
 ·have ks:=lZ2 bh
  refine Al (kk ii ?_)
  refine Ai fun n3 ij=>Ao (Cr fun n4 ik=>?_)
  obtain⟨G,cg⟩:=Ed (xs:=m.marks) (i:=i) (by first|omega|(simp only[lZ3,lZ4];omega))
  refine Arw (Ch i Bwy ty9 dc aa (q:=(i:Int)) bt rfl cg) fun rk f3=>?_
  have pd:G.data.toList.length<2^60:=At.slen f3
  refine l_v (Pk ty9 rfl f3) (Au _ (l_k ik (Bf (l_v (Ah bv) (Av _ (Arv (Cj (α:=ByteArray) (xs:=[bs G.data.toList]) (vs:=[.string G]) Bwy ty9 zr9 (by decide) (Dk (os:=[.tmp 114]) ⟨rfl,trivial⟩) ⟨Fp (l:=G.data.toList) (by first|decide|omega),trivial⟩ (by decide) fun d1 gp gf=>?_)))))))
  have fu:Grow fm 9 (.slice (some ⟨d1,0,none⟩) 1 1) ([bs G.data.toList]:List ByteArray) [(d1,oC gp.toArray 9)]:=Bs gf rfl (by decide)
  refine Ca fu fun sw es l7=>?_
  replace aj:=Caj es aj
  refine Bj (Cai Asd) (Arv (Sq (vs:=[.string (ByteArray.mk #[109,97,114,107]),.slice (some ⟨d1,0,none⟩) 1 1]) (caps:=[pV d]) rfl (Acv (r:=d) (u:=bZ5) (ws:=([bs G.data.toList]:List ByteArray)) aj (by omega) l7 (Tl (Akw hpl.2.2.1 cg) nL) (by first|decide|(simp only[lZ3,lZ4];omega)|(rw[show (([bs G.data.toList]:List ByteArray)).length=1 from rfl];omega))) Byh rfl rfl ⟨rfl,rfl,trivial⟩ fun sl sx th hk=>?_))
  obtain⟨kn,i2,m5,gx,fv,cr⟩:=hk
  replace cr:=cr.symm;subst cr i2
  refine l_k ij (Bf (l_v (Br bt rfl (z:=(((i+1):Nat):Int)) wrE) (Av _ (Bj (Cai Asc) (Ac ?_)))))
  refine⟨_,?_,(i+1),m5,gx,rfl,rfl,(Cam (Cam a0 es) kn),rfl,bu,df,bv,dc,de,rfl,(by omega),(Fy (Blf cg) fv),trivial⟩
  omega
 have ks:=lZ1 bh
 refine Bx (kk ic ?_)
 refine Asb rfl rfl fun n5 n6 il im=>Arw (Ba Market.f_fields Bxa rfl Se e bu) fun ro l8=>Arw (Gz Se l8) fun fj ab=>?_
 have pe:=Can ab
 refine l_v (Ci (el:=51) Bxn rfl ab) (Av _ (l_k im (Ao (Cc (fun mm ee dd ρ' σ'=>∃(i:Nat) (P:Value) (N:Own),(m.fields.length-i)=mm∧[]=dd∧Ro.le fm ρ'∧(N++((d,oC #[pV d,P] 83)::σ))=σ'∧ee 3=pV B∧ee 8=pV d∧ee 9=(.func (.func 30) #[] #[pV d])∧ee 119=fj∧ee 120=(iV (m.fields.length:Int))∧ee 121=iV i∧(i≤m.fields.length)∧Grow ρ' 5 P (Aby l m i) N∧True) (m:=_) ⟨0,ba,b3,rfl,rfl,Cal,rfl,bu,df,bv,rfl,rfl,rfl,Hz _,Fy (Bph (by omega)) aj,trivial⟩ ?_))))
 rintro qw p1 _ mq _ ⟨i,P,N,rfl,rfl,a1,rfl,ao,dj,dk,dh,di,bx,r8,D,_⟩
 replace hg:=GlobE.mono a1 hg
 replace e:=At.mono a1 e
 replace ab:=Val.mono a1 ab
 have qi:=Atz lok mok (i:=i)
 refine Cr fun n7 io=>l_v (Da bx di) (Asa io fun n9 iq=>Bu (t:=decide ((i:Int)<(m.fields.length:Int))) rfl (fun bi=>?_) (fun bi=>?_))
 ·have kt:=lZ2 bi
  refine Al (kk iq ?_)
  refine Ai fun na ir=>Ao (Cr fun nb it=>?_)
  obtain⟨f,W⟩:=Ed (xs:=m.fields) (i:=i) (by first|omega|(simp only[lZ3,lZ4];omega))
  have cm:=mok.field i f W;have hx:=Avo lok mok (lZ8 W);have q2:=Wk cm.1;have hu:=Ama mok (lZ8 W);have qn:=Yi cm.2.2.2.1
  refine Arw (Ch i Bxn Lo dh ab (q:=(i:Int)) bx rfl W) fun rp l9=>Arw (Gz Lo l9) fun m6 f4=>Arv (Ct Xu fun qs=>?_)
  refine Cx rfl (Dv (v:=m6) (a:=f) (c:=Aah) Lo rfl rfl f4 rfl ?_)
  refine Bb (a:=f) f4 fun fo az bg=>?_
  replace hg:=GlobE.mono az hg
  replace e:=At.mono az e
  replace D:=Caj az D
  refine Asa it fun nc iu=>Px (Cu 0 Aoe rfl (Ba FField.f_name Bxf rfl ty9 bg) fun rq f5=>?_)
  have pf:f.name.data.toList.length<2^60:=At.slen f5
  refine Bw 1 (zT 2 11) rfl (Pk ty9 rfl f5) (Cu 2 (zT 3 10) rfl (Ba Market.f_houses Bxa rfl Hw e ao) fun rr la=>Cu 3 (zT 4 9) rfl (Gz Hw la) fun rt lb=>Cu 4 (zT 5 8) rfl (Ba FField.f_house Bxf rfl ty3 bg) fun ru f6=>?_)
  have⟨pg,ph⟩:=At.rng f6
  refine Bw 5 (zT 6 7) rfl (Eo ty3 f6) ?_
  obtain⟨p,av⟩:=Ed (xs:=m.houses) (i:=(f.house).toNat) (by first|omega|(simp only[lZ3,lZ4];omega))
  have q5:=Qp mok.houses (lZ8 av)
  refine Cu 6 (zT 7 6) rfl (Ch ((f.house).toNat) Bwy ty9 rfl lb (q:=f.house) rfl (by omega) av) fun rv f7=>?_
  have pi:p.data.toList.length<2^60:=At.slen f7
  refine Bw 7 (zT 8 5) rfl (Pk ty9 rfl f7) (Jm 8 (zT 9 4) rfl (Ba FField.f_grows Bxf rfl Mx bg) fun rx lc=>Jm 9 (zT 10 3) rfl (Gz Mx lc) fun ry ld=>Hr 10 (zT 11 2) rfl (Bm (Bqf hg ld cm.2.2.2.1) Tryz.func34 rfl rfl ⟨rfl,trivial⟩ ⟨Cal,?_⟩))
  refine Hr 11 (zT 12 1) rfl (Cj (α:=ByteArray) (xs:=[bs f.name.data.toList,bs p.data.toList,bs (Ia f.grows)]) (vs:=[.string f.name,.string p,.string (bs (Ia f.grows))]) Bwy ty9 zr9 (by decide) (Dk (os:=[.tmp 126,.tmp 132,.tmp 135]) ⟨rfl,rfl,rfl,trivial⟩) ⟨Fp (l:=f.name.data.toList) (by first|decide|omega),Fp (l:=p.data.toList) (by first|decide|omega),Fp (l:=Ia f.grows) (by first|decide|omega),trivial⟩ (by decide) fun Z da gg=>⟨Cal,?_⟩)
  have fw:Grow fo 9 (.slice (some ⟨Z,0,none⟩) 3 3) ([bs f.name.data.toList,bs p.data.toList,bs (Ia f.grows)]:List ByteArray) [(Z,oC da.toArray 9)]:=Bs gg rfl (by decide)
  refine Dp 12 Aoj rfl (Cp (v:=.slice (some ⟨Z,0,none⟩) 3 3) rfl) (Ec rfl (kk iu ?_))
  refine Asb rfl rfl fun ne nf iw ix=>Arw (Ba FField.f_marks Bxf rfl Uo bg) fun rz lf=>Arw (Gz Uo lf) fun m7 ac=>?_
  have pj:=Can ac
  refine l_v (Ci (el:=48) Bxi rfl ac) (Av _ (l_k ix (Ao (Cc (fun mm ee dd ρ' σ'=>∃(j:Nat) (bb:Value) (b4:Own),(f.marks.length-j)=mm∧[]=dd∧Ro.le fo ρ'∧(b4++(N++((d,oC #[pV d,P] 83)::σ)))=σ'∧ee 3=pV B∧ee 8=pV d∧ee 9=(.func (.func 30) #[] #[pV d])∧ee 119=fj∧ee 120=(iV (m.fields.length:Int))∧ee 121=iV i∧ee 138=m7∧ee 139=(iV (f.marks.length:Int))∧ee 24=bb∧ee 140=iV j∧(j≤f.marks.length)∧Grow ρ' 9 bb (Uu p f j) b4∧True) (m:=_) ⟨0,.slice (some ⟨Z,0,none⟩) 3 3,[(Z,oC da.toArray 9)],rfl,rfl,Cal,rfl,ao,dj,dk,dh,di,bx,rfl,rfl,rfl,rfl,Hz _,Fy (by unfold Uu;rw[Azy];rfl) fw,trivial⟩ ?_))))
  rintro qx p2 _ sy _ ⟨j,bb,b4,rfl,rfl,a2,rfl,ds,dt,c0,dl,dm,dn,dp,dq,dr,bz,r9,K,_⟩
  replace hg:=GlobE.mono a2 hg
  replace D:=Caj a2 D
  replace ac:=Val.mono a2 ac
  have q3:=Ale (a:=p) (x:=f) (j:=j) (by omega)
  refine Cr fun ng iy=>l_v (Da bz dq) (Asa iy fun nh iz=>Bu (t:=decide ((j:Int)<(f.marks.length:Int))) rfl (fun bj=>?_) (fun bj=>?_))
  ·have kv:=lZ2 bj
   refine Al (kk iz ?_)
   refine Ai fun nj j1=>Ao (Cr fun nk j2=>?_)
   obtain⟨H,ch⟩:=Ed (xs:=f.marks) (i:=j) (by first|omega|(simp only[lZ3,lZ4];omega))
   have em:=hu _ (lZ8 ch);have q7:=Yi em
   refine Arw (Ch j Bxi Mx dp ac (q:=(j:Int)) bz rfl ch) fun s0 lg=>Arw (Gz Mx lg) fun m8 f8=>Arv (Ct Aak fun qt=>?_)
   refine Cx rfl (Dv (v:=m8) (a:=H) (c:=Arm) Mx rfl rfl f8 rfl ?_)
   refine Bb (a:=H) f8 fun mr d4 lh=>?_
   replace hg:=GlobE.mono d4 hg
   replace K:=Caj d4 K
   refine l_k j2 (Bf (l_v (Ah dr) (Arw (Gz Mx lh) fun s1 li=>Arv (Ce (Bqf hg li em) Tryz.func34 ?_))))
   refine Arv (Cj (α:=ByteArray) (xs:=[bs (Ia H)]) (vs:=[.string (bs (Ia H))]) Bwy ty9 zr9 (by decide) (Dk (os:=[.tmp 146]) ⟨rfl,trivial⟩) ⟨Fp (l:=Ia H) (by first|decide|omega),trivial⟩ (by decide) fun en gq gh=>?_)
   have fx:Grow mr 9 (.slice (some ⟨en,0,none⟩) 1 1) ([bs (Ia H)]:List ByteArray) [(en,oC gq.toArray 9)]:=Bs gh rfl (by decide)
   refine Ca fx fun sz et lj=>?_
   replace K:=Caj et K
   refine Arv (Ge (σ:=N++((d,oC #[pV d,P] 83)::σ)) (gr:=b4) (xs:=Uu p f j) (ys:=([bs (Ia H)]:List ByteArray)) Bwy Bwy (Ab Bxs) nL K lj (by first|omega|(simp only[lZ0,lZ3,lZ4]at *;omega)) fun m9 h4 fy=>?_)
   refine Au _ (l_k j1 (Bf (l_v (Br bz rfl (z:=(((j+1):Nat):Int)) wrE) (Av _ (Ac ?_)))))
   refine⟨_,?_,(j+1),m9,h4,rfl,rfl,(Cam (Cam a2 d4) et),rfl,ds,dt,c0,dl,dm,dn,dp,dq,rfl,rfl,(by omega),(Fy (Avn ch) fy),trivial⟩
   omega
  have kv:=lZ1 bj
  refine Bx (kk iw ?_)
  refine Bf (l_v (Ah c0) (l_v (Ah dr) (Ca K fun t0 eu lk=>?_)))
  replace D:=Caj eu D
  refine Bj (Cai Asd) (Arv (Sq (vs:=[.string (ByteArray.mk #[102,105,101,108,100]),bb]) (caps:=[pV d]) rfl (Acv (r:=d) (u:=bZ0) (ws:=Uu p f j) D (by omega) lk (by rw[show (bZ0:List UInt8)=Im from rfl,Ald av (by omega)];have:=hx.2;omega) (by first|decide|(simp only[lZ3,lZ4];omega)|(rw[show (Uu p f j).length=1 from rfl];omega)|(have:=Ale (a:=p) (x:=f) (j:=j) (by omega);omega))) Byh rfl rfl ⟨rfl,rfl,trivial⟩ fun sm t1 ti hl=>?_))
  obtain⟨ko,i3,ma,gy,fz,cs⟩:=hl
  replace cs:=cs.symm;subst cs i3
  refine l_k ir (Bf (l_v (Br dn rfl (z:=(((i+1):Nat):Int)) wrE) (Av _ (Bj (Cai Asc) (Ac ?_)))))
  refine⟨_,?_,(i+1),ma,gy,rfl,rfl,(Cam (Cam (Cam (Cam a1 az) a2) eu) ko),rfl,ds,dt,c0,dl,dm,rfl,(by omega),(Fy (by rw[show bZ0=Im from rfl,Ald av (by omega)];exact Ahh W) fz),trivial⟩
  omega
 have kt:=lZ1 bi
 refine Bx (kk il ?_)
 refine Asb rfl rfl fun nl nm j3 j4=>Arw (Ba Market.f_sales Bxa rfl Qn e ao) fun s2 ll=>Arw (Gz Qn ll) fun fk ad=>?_
 have pk:=Can ad
 refine l_v (Ci (el:=54) Bxk rfl ad) (Av _ (l_k j4 (Ao (Cc (fun mm ee dd ρ' σ'=>∃(i:Nat) (a9:Value) (a8:Own),(m.sales.length-i)=mm∧[]=dd∧Ro.le mq ρ'∧(a8++((d,oC #[pV d,a9] 83)::σ))=σ'∧ee 3=pV B∧ee 8=pV d∧ee 9=(.func (.func 30) #[] #[pV d])∧ee 155=fk∧ee 156=(iV (m.sales.length:Int))∧ee 157=iV i∧(i≤m.sales.length)∧Grow ρ' 5 a9 (Afi l m i) a8∧True) (m:=_) ⟨0,P,N,rfl,rfl,Cal,rfl,ao,dj,dk,rfl,rfl,rfl,Hz _,Fy ((show Aby l m i=Aby l m m.fields.length by rw[show i=m.fields.length by omega]).trans txt5_0.symm) D,trivial⟩ ?_))))
 rintro qy p3 _ t2 _ ⟨i,a9,a8,rfl,rfl,a3,rfl,h7,c2,h8,du,dv,c1,ra,C,_⟩
 replace hg:=GlobE.mono a3 hg
 replace e:=At.mono a3 e
 replace ad:=Val.mono a3 ad
 have qj:=Aua lok mok (i:=i)
 refine Cr fun no j6=>l_v (Da c1 dv) (Asa j6 fun np j7=>Bu (t:=decide ((i:Int)<(m.sales.length:Int))) rfl (fun bk=>?_) (fun bk=>?_))
 ·have kw:=lZ2 bk
  refine Al (kk j7 ?_)
  refine Ai fun nq j8=>Ao (Cr fun nr j9=>?_)
  obtain⟨g,aw⟩:=Ed (xs:=m.sales) (i:=i) (by first|omega|(simp only[lZ3,lZ4];omega))
  have ax:=mok.sale i g aw;have hy:=Bcz lok mok (lZ8 aw);have qf:=Rn (n:=g.grams) (by have:=ax.1;omega);have q1:=Ajs (n:=m.houses.length) ax.2.2.1 ax.2.2.2
  refine Arw (Ch i Bxk Up du ad (q:=(i:Int)) c1 rfl aw) fun s3 lm=>Arw (Gz Up lm) fun mb f9=>Arv (Ct Agb fun qu=>?_)
  refine Cx rfl (Dv (v:=mb) (a:=g) (c:=Akd) Up rfl rfl f9 rfl ?_)
  refine Bb (a:=g) f9 fun fp b0 fa=>?_
  replace hg:=GlobE.mono b0 hg
  replace e:=At.mono b0 e
  replace C:=Caj b0 C
  refine Dr j9 fun nt jb=>Arw (Ba Sale.f_grams Bxm rfl ty3 fa) fun s4 fb=>?_
  have⟨pl,pm⟩:=At.rng fb
  refine l_v (Eo ty3 fb) (Arv (Ce (Akf (n:=g.grams) hg (by omega)) Bze ?_))
  refine Arv (Cj (α:=ByteArray) (xs:=[bs (Nl g.grams)]) (vs:=[.string (bs (Nl g.grams))]) Bwy ty9 zr9 (by decide) (Dk (os:=[.tmp 163]) ⟨rfl,trivial⟩) ⟨Fp (l:=Nl g.grams) (by first|decide|omega),trivial⟩ (by decide) fun ay db gi=>?_)
  have g0:Grow fp 9 (.slice (some ⟨ay,0,none⟩) 1 1) ([bs (Nl g.grams)]:List ByteArray) [(ay,oC db.toArray 9)]:=Bs gi rfl (by decide)
  refine Au _ (Ds jb fun nu nv jc jd=>Arw (Ba Sale.f_sellers Bxm rfl Vh fa) fun s5 ln=>Arw (Gz Vh ln) fun mc ae=>?_)
  have pn:=Can ae
  refine l_v (Ci (el:=3) Bxj rfl ae) (Av _ (l_k jd (Ao (Cc (fun mm ee dd ρ' σ'=>∃(j:Nat) (bc:Value) (b5:Own),(g.sellers.length-j)=mm∧[]=dd∧Ro.le fp ρ'∧(b5++(a8++((d,oC #[pV d,a9] 83)::σ)))=σ'∧ee 3=pV B∧ee 8=pV d∧ee 9=(.func (.func 30) #[] #[pV d])∧ee 155=fk∧ee 156=(iV (m.sales.length:Int))∧ee 157=iV i∧ee 166=mc∧ee 167=(iV (g.sellers.length:Int))∧ee 29=bc∧ee 168=iV j∧(j≤g.sellers.length)∧Grow ρ' 9 bc (Aau m g j) b5∧True) (m:=_) ⟨0,.slice (some ⟨ay,0,none⟩) 1 1,[(ay,oC db.toArray 9)],rfl,rfl,Cal,rfl,h7,c2,h8,du,dv,c1,rfl,rfl,rfl,rfl,Hz _,Fy (by rfl) g0,trivial⟩ ?_))))
  rintro qz p4 _ ms _ ⟨j,bc,b5,rfl,rfl,a4,rfl,c4,e2,c5,dw,dx,dy,dz,e0,e1,c3,rb,ak,_⟩
  replace e:=At.mono a4 e
  replace C:=Caj a4 C
  replace ae:=Val.mono a4 ae
  have qo:=Arj (m:=m) (s:=g) (j:=j) (by omega)
  refine Cr fun nw je=>l_v (Da c3 e0) (Asa je fun nx jf=>Bu (t:=decide ((j:Int)<(g.sellers.length:Int))) rfl (fun bl=>?_) (fun bl=>?_))
  ·have kx:=lZ2 bl
   refine Al (kk jf ?_)
   refine Ai fun ny jg=>Ao (Cr fun nz jh=>?_)
   obtain⟨T,ci⟩:=Ed (xs:=g.sellers) (i:=j) (by first|omega|(simp only[lZ3,lZ4];omega))
   have qg:=ax.2.2.1 j T ci
   refine Arw (Ch j Bxj ty3 dz ae (q:=(j:Int)) c3 rfl ci) fun s7 fd=>?_
   have⟨po,pp⟩:=At.rng fd
   refine l_v (Eo ty3 fd) (Au _ (l_k jh (Bf (l_v (Ah e1) (Arw (Ba Market.f_houses Bxa rfl Hw e c4) fun s8 lo=>Arw (Gz Hw lo) fun s9 lp=>Av (iV T) ?_)))))
   obtain⟨L,cj⟩:=Ed (xs:=m.houses) (i:=(T).toNat) (by first|omega|(simp only[lZ3,lZ4];omega))
   have q6:=Qp mok.houses (lZ8 cj)
   refine Arw (Ch ((T).toNat) Bwy ty9 rfl lp (q:=T) rfl (by omega) cj) fun sa fe=>?_
   have pq:L.data.toList.length<2^60:=At.slen fe
   refine l_v (Pk ty9 rfl fe) (Arv (Cj (α:=ByteArray) (xs:=[bs L.data.toList]) (vs:=[.string L]) Bwy ty9 zr9 (by decide) (Dk (os:=[.tmp 177]) ⟨rfl,trivial⟩) ⟨Fp (l:=L.data.toList) (by first|decide|omega),trivial⟩ (by decide) fun eo gs gj=>?_))
   have g1:Grow ms 9 (.slice (some ⟨eo,0,none⟩) 1 1) ([bs L.data.toList]:List ByteArray) [(eo,oC gs.toArray 9)]:=Bs gj rfl (by decide)
   refine Ca g1 fun t4 ev lq=>?_
   replace ak:=Caj ev ak
   refine Arv (Ge (σ:=a8++((d,oC #[pV d,a9] 83)::σ)) (gr:=b5) (xs:=Aau m g j) (ys:=([bs L.data.toList]:List ByteArray)) Bwy Bwy (Ab Bxs) nL ak lq (by first|omega|(simp only[lZ0,lZ3,lZ4]at *;omega)) fun md h5 g2=>?_)
   refine Au _ (l_k jg (Bf (l_v (Br c3 rfl (z:=(((j+1):Nat):Int)) wrE) (Av _ (Ac ?_)))))
   refine⟨_,?_,(j+1),md,h5,rfl,rfl,(Cam a4 ev),rfl,c4,e2,c5,dw,dx,dy,dz,e0,rfl,rfl,(by omega),(Fy (Bai ci cj) g2),trivial⟩
   omega
  have kx:=lZ1 bl
  refine Bx (kk jc ?_)
  refine Bf (l_v (Ah c5) (l_v (Ah e1) (Ca ak fun t5 ex lr=>?_)))
  replace C:=Caj ex C
  refine Bj (Cai Asd) (Arv (Sq (vs:=[.string (ByteArray.mk #[115,97,108,101]),bc]) (caps:=[pV d]) rfl (Acv (r:=d) (u:=bZ7) (ws:=Aau m g j) C (by omega) lr (by rw[show (bZ7:List UInt8)=Od from rfl,Ari (by omega)];have:=hy.2;omega) (by first|decide|(simp only[lZ3,lZ4];omega)|(rw[show (Aau m g j).length=1 from rfl];omega)|(have:=Arj (m:=m) (s:=g) (j:=j) (by omega);omega))) Byh rfl rfl ⟨rfl,rfl,trivial⟩ fun sn t6 tj hm=>?_))
  obtain⟨kp,i4,me,gz,g3,ct⟩:=hm
  replace ct:=ct.symm;subst ct i4
  refine l_k j8 (Bf (l_v (Br dy rfl (z:=(((i+1):Nat):Int)) wrE) (Av _ (Bj (Cai Asc) (Ac ?_)))))
  refine⟨_,?_,(i+1),me,gz,rfl,rfl,(Cam (Cam (Cam (Cam a3 b0) a4) ex) kp),rfl,c4,e2,c5,dw,dx,rfl,(by omega),(Fy (by rw[show bZ7=Od from rfl,Ari (by omega)];exact Asf aw) g3),trivial⟩
  omega
 have kw:=lZ1 bk
 refine Bx (kk j3 ?_)
 refine Asb rfl rfl fun o2 o3 ji jj=>Bj (Cai Asd) (Arv (Fj (vs:=[pV d]) (Brg (r:=d) C) Tryz.func35 ⟨c2,trivial⟩ fun so t7 tk hn=>?_))
 obtain⟨cn,cu,i5⟩:=hn
 replace cn:=cn.symm;replace cu:=cu.symm;subst cn cu i5
 refine l_v (Gl rfl rfl) (l_k jj (Cg rfl (Jw (by omega)) (Al (kk ji ?_))))
 refine Cr fun o4 jk=>Bj (Cai Asc) (Bj (Cai Asd) (Arv (Fj (vs:=[pV d]) (Aqa (r:=d) C Bpk) Tryz.func36 ⟨c2,trivial⟩ fun sp t8 tl ho=>?_)))
 obtain⟨co,cv,i6⟩:=ho
 replace co:=co.symm;replace cv:=cv.symm;subst co cv i6
 refine Au _ (Au _ (l_k jk (Aq (cp ?_))))
 refine⟨(Cam (Cam (Cam (Cam (Cam (Cam (Cam (Cam (Cam (Cam l2 l3) b1) b2) M) a5) d6) a7) a0) a1) a3),rfl,Eq.trans (Mp (r:=4) (r':=5) (rs:=[]) (v:=.string (bs (Afi l m i))) (v':=iV 0) (vs:=[]) ⟨rfl,rfl,trivial⟩) ?_⟩;rw[Awy hlf hmf,Amo hlf hmf,show i=m.sales.length by omega,Anf]
end
section
open Go
theorem Auy{mn X ρ σ l m vl vm}(rl:Val ρ vl l)(rm:Val ρ vm m):CallsH (CX mn X) 9 #[vl,vm] ρ σ (rP ρ σ (.tuple #[.string (Pb l m),iV (Ow l m)])):=by
 refine Bq 181 [4,5] Tryz.func9 rfl fun Q b3 j0=>w_q rfl rfl fun K1 k1=>Arv (Eb (v:=vl) rfl fun k2=>?_)
 refine Bb (a:=l) rl fun m4 l2 k=>?_
 replace rm:=Val.mono l2 rm
 refine Arv (Eb (v:=vm) rfl fun N=>?_)
 refine Bb (a:=m) rm fun gv l3 f=>?_
 replace k:=At.mono l3 k
 refine Au _ (Au _ (Ds k1 fun K4 K5 k4 k5=>Arw (Ax Zu rfl k) fun v6 r6=>Arv (Ce (Ach r6) Tryz.func14 ?_)))
 refine Au _ (Dr k5 fun K7 k7=>Av (iV (Gh l)) (l_v (Dg rfl rfl) (l_k k7 (Bu (t:=Gh l != 0) rfl (fun D=>?_) (fun D=>?_)))))
 ·have hlf:=Ls D
  have q8:=Ls D
  refine Cr fun K9 k9=>Av (iV (Gh l)) (Au _ (Au _ (l_k k9 (Aj (Cah (Cam l2 l3)) (Aq (b3 ⟨rfl,rfl,Eq.trans (b:=.tuple #[.string (ByteArray.mk #[]),iV (Gh l)]) (Mp (r:=4) (r':=5) (rs:=[]) (v:=.string (ByteArray.mk #[])) (vs:=[]) ⟨rfl,rfl,trivial⟩) ?_⟩))))))
  rw[(Afa hlf).1,(Afa hlf).2];rfl
 have hlf:=Jh D
 have lok:=Ll hlf
 have q8:=Jh D
 refine Al (kk k4 ?_)
 refine Asb rfl rfl fun gx gy du dv=>Arw (Ax Ln rfl f) fun k6 fc=>Arv (Ce (Acd fc) Tryz.func15 ?_)
 refine Au _ (Dr dv fun h3 e0=>Av (iV (Cf m)) (l_v (Dg rfl rfl) (l_k e0 (Bu (t:=Cf m != 0) rfl (fun C=>?_) (fun C=>?_)))))
 ·have hmf:=Ls C
  have f1:=Ls C
  refine Cr fun ha e7=>Av (iV (Cf m)) (Au _ (Au _ (l_k e7 (Aj (Cah (Cam l2 l3)) (Aq (b3 ⟨rfl,rfl,Eq.trans (b:=.tuple #[.string (ByteArray.mk #[]),iV (Cf m)]) (Mp (r:=4) (r':=5) (rs:=[]) (v:=.string (ByteArray.mk #[])) (vs:=[]) ⟨rfl,rfl,trivial⟩) ?_⟩))))))
  rw[(Afb hlf hmf).1,(Afb hlf hmf).2];rfl
 have hmf:=Jh C
 have mok:=Rg hmf
 have hpl:=Awv lok mok
 have hnt:=lok.ntests
 have hnf:=mok.nfields
 have hns:=mok.nsales
 have hkl:=Ua lok.kinds
 have hhl:=Ua mok.houses
 have hml:=Ua mok.marks
 have hmo:=lok.most
 have hdm:=Rn (n:=l.most) (by omega)
 have j1:(Er (Ig bZ8 l.kinds)).length≤60000:=hpl.1
 have j2:(Er (Ig bZ4 m.houses)).length≤60000:=hpl.2.1
 have j3:(Er (Ig bZ5 m.marks)).length≤60000:=hpl.2.2.1
 have j4:(Gm (wl ([bs bZ6,bs (Nl l.most)]:List ByteArray))).length≤60000:=by show (([108,97,98]++32::Nl l.most)++[10]:List UInt8).length≤_;simp only[lZ0,lZ3,lZ4];omega
 have j5:(Gm (wl ([bs bZ2]:List ByteArray))).length≤60000:=by decide
 have f1:=Jh C
 refine Al (kk du ?_)
 refine Ai fun hc e9=>Px (Cu 0 (zT 1 9) rfl (Ba Lab.f_most Bxd rfl ty3 k) fun kw cg=>?_)
 have⟨ij,ik⟩:=At.rng cg
 refine Bw 1 (zT 2 8) rfl (Eo ty3 cg) (Cu 5 [o1,o1,o0,o0,o0,o1,o0,o0,o0,o0] rfl (Ba Lab.f_kinds Bxd rfl Hw k) fun kx fx=>Cu 6 [o1,o1,o0,o0,o0,o1,o1,o0,o0,o0] rfl (Ax Hw rfl fx) fun ky be=>Hr 2 [o1,o1,o1,o0,o0,o1,o1,o0,o0,o0] rfl (Bm (Zy (n:=l.most) (by omega)) Byn rfl rfl ⟨rfl,trivial⟩ ⟨Cal,?_⟩))
 refine Hr 3 [o1,o1,o1,o1,o0,o1,o1,o0,o0,o0] rfl (Cj (α:=ByteArray) (xs:=[bs bZ6,bs (Nl l.most)]) (vs:=[.string (ByteArray.mk #[108,97,98]),.string (bs (Nl l.most))]) Bwy ty9 zr9 (by decide) (Dk (os:=[.const (.string (ByteArray.mk #[108,97,98])),.tmp 29]) ⟨rfl,rfl,trivial⟩) ⟨Fp (l:=bZ6) (by first|decide|omega),Fp (l:=Nl l.most) (by first|decide|omega),trivial⟩ (by decide) fun c1 db d6=>⟨Cal,?_⟩)
 have cv:Grow gv 9 (.slice (some ⟨c1,0,none⟩) 2 2) ([bs bZ6,bs (Nl l.most)]:List ByteArray) [(c1,oC db.toArray 9)]:=Bs d6 rfl (by decide)
 refine Lr cv fun P z fy=>?_
 replace k:=At.mono z k
 replace f:=At.mono z f
 replace be:=Val.mono z be
 refine Hr 4 (zT 7 3) rfl (Bm (Acu fy (by show (Ho [wLab,Nl l.most]).length≤_;show (wLab++32::Nl l.most).length≤_;simp only[lZ0,lZ3];have:wLab.length=3:=rfl;omega)) Bym rfl rfl ⟨rfl,trivial⟩ ⟨z,?_⟩)
 refine Hr 7 (zT 8 2) rfl (Bm (Asu (u:=bZ8) be (by decide) (by have:=hpl.1;exact Tl this nL)) Bzz rfl rfl ⟨rfl,rfl,trivial⟩ ⟨z,?_⟩)
 refine Jg 8 (zT 9 1) rfl z rfl (Rm (p:=Gm (wl ([bs bZ6,bs (Nl l.most)]:List ByteArray))) (q:=Er (Ig bZ8 l.kinds)) rfl rfl (by first|omega|(rw[lZ0];omega)|(rw[lZ0,lZ0];omega)|(rw[lZ0,lZ0,lZ0];omega))) (Jg 9 (zT 10 0) rfl z rfl (Cp (v:=.string (bs ((Gm (wl ([bs bZ6,bs (Nl l.most)]:List ByteArray)))++(Er (Ig bZ8 l.kinds))))) rfl) (Ec rfl (kk e9 ?_)))
 refine Asb rfl rfl fun hg hh ed ef=>Au (iV 0) (l_k ef (Ao (Cc (fun mm ee dd ρ' σ'=>∃(i:Nat) (s:List UInt8),(l.tests.length-i)=mm∧[]=dd∧P=ρ'∧σ=σ'∧ee 2=pV k2∧ee 3=pV N∧ee 8=(.string (bs s))∧ee 9=iV i∧(i≤l.tests.length)∧(s=Zg l i)∧True) (m:=_) ⟨0,Axq l,rfl,rfl,rfl,rfl,rfl,rfl,rfl,rfl,Hz _,txt2_0.symm,trivial⟩ ?_)))
 rintro ji i2 _ _ _ ⟨i,s,rfl,rfl,rfl,rfl,U,V,ay,W,jn,bd,_⟩
 have j9:s.length≤60000:=by rw[bd];exact Ajd lok mok
 refine Asb rfl rfl fun hi hj eg eh=>l_v (Ah W) (Arw (Ba Lab.f_tests Bxd rfl Vi k U) fun kz fz=>Arw (Ax Vi rfl fz) fun l0 ch=>?_)
 have il:=Can ch
 refine l_v (Ci (el:=46) Bxg rfl ch) (l_v (Fk) (l_k eh (Bu (t:=decide ((i:Int)<(l.tests.length:Int))) rfl (fun R=>?_) (fun R=>?_))))
 ·have f3:=lZ2 R
  refine Al (kk eg ?_)
  refine Ai fun hk ei=>Ao (Cr fun hl ej=>Arw (Ba Lab.f_tests Bxd rfl Vi k U) fun l1 g0=>Arw (Ax Vi rfl g0) fun l4 g1=>l_v (Ah W) ?_)
  obtain⟨g,y⟩:=Ed (xs:=l.tests) (i:=i) (by first|omega|(simp only[lZ3,lZ4];omega))
  have dt:=lok.test i g y;have bz:=Bde lok mok (lZ8 y);have jd:=Wk dt.1
  refine Arw (Em i Bxg Um g1 (q:=(i:Int)) y) fun l5 g2=>Arw (Ba FTest.f_name Bxh rfl ty9 g2) fun l6 ci=>?_
  have im:g.name.data.toList.length<2^60:=At.slen ci
  refine l_v (Pk ty9 rfl ci) (Arv (Cj (α:=ByteArray) (xs:=[bs bZ9,bs g.name.data.toList]) (vs:=[.string (ByteArray.mk #[116,101,115,116]),.string g.name]) Bwy ty9 zr9 (by decide) (Dk (os:=[.const (.string (ByteArray.mk #[116,101,115,116])),.tmp 48]) ⟨rfl,rfl,trivial⟩) ⟨Fp (l:=bZ9) (by first|decide|omega),Fp (l:=g.name.data.toList) (by first|decide|omega),trivial⟩ (by decide) fun E ar d7=>?_))
  have ak:Grow P 9 (.slice (some ⟨E,0,none⟩) 2 2) ([bs bZ9,bs g.name.data.toList]:List ByteArray) [(E,oC ar.toArray 9)]:=Bs d7 rfl (by decide)
  refine Au _ (Asa ej fun d1 ek=>?_)
  have c5:∀(a8:Value) (a7:Own) (ee:Env),(ee 2=pV k2)∧(ee 3=pV N)∧(ee 8=(.string (bs s)))∧(ee 9=iV i)∧(ee 10=a8)∧(Grow P 9 a8 (Xl g 0) a7)∧True→d1 ee [] P ((a7++σ)):=by
   rintro a8 a7 i3 ⟨dk,dl,dm,dn,dj,d0,_⟩
   apply ek
   refine Asb rfl rfl fun hm hn em en=>Au (iV 0) (l_k en (Ao (Cc (fun mm ee dd ρ' σ'=>∃(j:Nat) (bb:Value) (af:Own),(g.sees.length-j)=mm∧[]=dd∧Ro.le P ρ'∧(af++σ)=σ'∧ee 2=pV k2∧ee 3=pV N∧ee 8=(.string (bs s))∧ee 9=iV i∧ee 10=bb∧ee 11=iV j∧(j≤g.sees.length)∧Grow ρ' 9 bb (Xl g j) af∧True) (m:=_) ⟨0,a8,a7,rfl,rfl,Cal,rfl,dk,dl,dm,dn,dj,rfl,Hz _,d0,trivial⟩ ?_)))
   rintro jj i4 _ m5 _ ⟨j,bb,af,rfl,rfl,b9,rfl,a2,bq,br,a3,bp,az,jo,H,_⟩
   replace k:=At.mono b9 k
   have je:=Bgf (t:=g) (j:=j) (by omega)
   refine Asb rfl rfl fun ho hp eo ep=>l_v (Ah az) (Arw (Ba Lab.f_tests Bxd rfl Vi k a2) fun l7 g3=>Arw (Ax Vi rfl g3) fun l8 g4=>l_v (Ah a3) (Arw (Em i Bxg Um g4 (q:=(i:Int)) y) fun l9 g5=>Arw (Ba FTest.f_sees Bxh rfl Afp g5) fun la g6=>Arw (Ax Afp rfl g6) fun lb cj=>?_))
   have io:=Can cj
   refine l_v (Ci (el:=75) Bxq rfl cj) (l_v (Fk) (l_k ep (Bu (t:=decide ((j:Int)<(g.sees.length:Int))) rfl (fun ao=>?_) (fun ao=>?_))))
   ·have f4:=lZ2 ao
    refine Al (kk eo ?_)
    refine Ai fun hq eq=>Ao (Px (Bw 0 (zT 1 15) rfl (Ah bp) (Cu 2 [o1,o0,o1,o0,o0,o0,o0,o0,o0,o0,o0,o0,o0,o0,o0,o0] rfl (Ba Lab.f_tests Bxd rfl Vi k a2) fun lc g7=>Cu 3 [o1,o0,o1,o1,o0,o0,o0,o0,o0,o0,o0,o0,o0,o0,o0,o0] rfl (Ax Vi rfl g7) fun ld g8=>Bw 4 [o1,o0,o1,o1,o1,o0,o0,o0,o0,o0,o0,o0,o0,o0,o0,o0] rfl (Ah a3) (Cu 5 [o1,o0,o1,o1,o1,o1,o0,o0,o0,o0,o0,o0,o0,o0,o0,o0] rfl (Em i Bxg Um g8 (q:=(i:Int)) y) fun lf g9=>Cu 6 [o1,o0,o1,o1,o1,o1,o1,o0,o0,o0,o0,o0,o0,o0,o0,o0] rfl (Ba FTest.f_sees Bxh rfl Afp g9) fun lg ga=>Cu 7 [o1,o0,o1,o1,o1,o1,o1,o1,o0,o0,o0,o0,o0,o0,o0,o0] rfl (Ax Afp rfl ga) fun lh gb=>Bw 8 [o1,o0,o1,o1,o1,o1,o1,o1,o1,o0,o0,o0,o0,o0,o0,o0] rfl (Ah az) ?_))))
    obtain⟨al,b2⟩:=Ed (xs:=g.sees) (i:=j) (by first|omega|(simp only[lZ3,lZ4];omega))
    have ds:=Awj hlf y b2
    refine Cu 9 [o1,o0,o1,o1,o1,o1,o1,o1,o1,o1,o0,o0,o0,o0,o0,o0] rfl (Em j Bxq Pi gb (q:=(j:Int)) b2) fun li ck=>?_
    have⟨ip,iq⟩:=At.rng ck
    refine Bw 10 [o1,o0,o1,o1,o1,o1,o1,o1,o1,o1,o1,o0,o0,o0,o0,o0] rfl (Eo Pi ck) (Hr 1 (zT 11 5) rfl (Fj Akn Tryz.func40 trivial fun lj gw ma dr=>?_))
    obtain⟨B,bj,gc⟩:=dr
    replace bj:=bj.symm;subst bj
    replace H:=Caj B H
    refine⟨B,?_⟩
    obtain⟨J,bu⟩:=Ed (xs:=[bs Rb,bs Nj,bs wNo]) (i:=(al).toNat) (by first|omega|(simp only[lZ3,lZ4];omega))
    refine Rh 11 (zT 12 4) rfl B rfl (Ch ((al).toNat) Bwy ty9 rfl gc (q:=al) rfl (by omega) bu) fun lk cl=>?_
    have ir:J.data.toList.length<2^60:=At.slen cl
    refine Jg 12 (zT 13 3) rfl B rfl (Pk ty9 rfl cl) (Hr 13 (zT 14 2) rfl (Cj (α:=ByteArray) (xs:=[bs J.data.toList]) (vs:=[.string J]) Bwy ty9 zr9 (by decide) (Dk (os:=[.tmp 81]) ⟨rfl,trivial⟩) ⟨Fp (l:=J.data.toList) (by first|decide|omega),trivial⟩ (by decide) fun c2 dc d8=>⟨B,?_⟩))
    have cw:Grow gw 9 (.slice (some ⟨c2,0,none⟩) 1 1) ([bs J.data.toList]:List ByteArray) [(c2,oC dc.toArray 9)]:=Bs d8 rfl (by decide)
    refine Lr cw fun m6 ad gd=>?_
    replace H:=Caj ad H
    refine Hr 14 (zT 15 1) rfl (Ge (σ:=σ) (gr:=af) (xs:=Xl g j) (ys:=([bs J.data.toList]:List ByteArray)) Bwy Bwy (Ab Bxs) nL H gd (by simp only[lZ0,lZ3,lZ4,Mm,Xp]at *;have:=hpl;omega) fun co dh cx=>⟨Cam B ad,?_⟩)
    refine Jg 15 (zT 16 0) rfl (Cam B ad) rfl (Cp (v:=co) rfl) (Ec rfl (kk eq ?_))
    refine Bf (l_v (Ah az) (l_v (Dm (((j+1):Nat):Int)) (Au _ (Ac ?_))))
    refine⟨_,?_,(j+1),co,dh,rfl,rfl,(Cam (Cam b9 B) ad),rfl,a2,bq,br,a3,rfl,rfl,(by omega),(Fy (Bas b2 ds bu) cx),trivial⟩
    omega
   have f4:=lZ1 ao
   refine Bx (kk em ?_)
   refine Bf (l_v (Ah br) (l_v (Ah bp) (Ca H fun m7 ez ge=>Arv (Ce (Acu ge (by rw[Ahg (by omega)];have:=bz.1;omega)) Bym ?_))))
   refine l_v (Rm (p:=s) (q:=Gm (wl (Xl g j))) rfl rfl (by rw[Ahg (by omega)];have:=bz.2;omega)) (Au _ (l_k ei (Bf (l_v (Ah a3) (l_v (Dm (((i+1):Nat):Int)) (Au _ (Bj (Cah (Cam b9 ez)) (Ac ?_))))))))
   refine⟨_,?_,(i+1),(s++(Gm (wl (Xl g j)))),rfl,rfl,rfl,rfl,a2,bq,rfl,rfl,(by omega),(by rw[bd,←Aru y,Ahg (by omega)]),trivial⟩
   omega
  refine Cr fun hr er=>Arw (Ba Lab.f_tests Bxd rfl Vi k U) fun ll gf=>Arw (Ax Vi rfl gf) fun lm gg=>l_v (Ah W) (Arw (Em i Bxg Um gg (q:=(i:Int)) y) fun ln gh=>Arw (Ba FTest.f_errs Bxh rfl ty4 gh) fun lo gi=>l_v (Nx ty4 rfl gi) (l_k er (Bu (t:=g.errs) rfl (fun ap=>?_) (fun ap=>?_))))
  ·refine Bf (Av _ (l_v (Nw 0 Bwy ty9.info rfl ak (q:=0) rfl rfl (by first|omega|(simp only[lZ3,lZ4];omega)) rfl) (Cx rfl (Anh (σ:=σ) (gr:=[(E,oC ar.toArray 9)]) (i:=0) (v:=.slice (some ⟨E,0,none⟩) 2 2) (w:=.string (ByteArray.mk #[101,114,114,115])) ty9.info rfl rfl rfl (Fp (l:=bZ1) (by first|decide|omega)) ak (by first|omega|simp) fun di cy=>?_))))
   apply Ac
   refine c5 (.slice (some ⟨E,0,none⟩) 2 2) di _ ⟨U,V,ay,W,rfl,Fy (by simp[Xl,Axm,bw,Aho,D,C,R,ap];try rfl) cy,trivial⟩
  refine Al (c5 (.slice (some ⟨E,0,none⟩) 2 2) [(E,oC ar.toArray 9)] _ ⟨U,V,ay,W,rfl,Fy (by simp[Xl,Axm,bw,Aho,D,C,R,ap];try rfl) ak,trivial⟩)
 have f3:=lZ1 R
 refine Bx (kk ed ?_)
 refine Ai fun hs es=>Px (Bw 0 Aoe rfl (Ah ay) (Cu 4 [o1,o0,o0,o0,o1,o0,o0,o0,o0,o0,o0,o0,o0] rfl (Ba Market.f_houses Bxa rfl Hw f V) fun lp gj=>Cu 5 [o1,o0,o0,o0,o1,o1,o0,o0,o0,o0,o0,o0,o0] rfl (Ax Hw rfl gj) fun lq bf=>Cu 8 [o1,o0,o0,o0,o1,o1,o0,o0,o1,o0,o0,o0,o0] rfl (Ba Market.f_marks Bxa rfl Hw f V) fun lr gk=>Cu 9 [o1,o0,o0,o0,o1,o1,o0,o0,o1,o1,o0,o0,o0] rfl (Ax Hw rfl gk) fun ls bg=>Hr 1 [o1,o1,o0,o0,o1,o1,o0,o0,o1,o1,o0,o0,o0] rfl (Cj (α:=ByteArray) (xs:=[bs bZ2]) (vs:=[.string (ByteArray.mk #[109,97,114,107,101,116])]) Bwy ty9 zr9 (by decide) (Dk (os:=[.const (.string (ByteArray.mk #[109,97,114,107,101,116]))]) ⟨rfl,trivial⟩) ⟨Fp (l:=bZ2) (by first|decide|omega),trivial⟩ (by decide) fun c3 de d9=>⟨Cal,?_⟩)))
 have cz:Grow P 9 (.slice (some ⟨c3,0,none⟩) 1 1) ([bs bZ2]:List ByteArray) [(c3,oC de.toArray 9)]:=Bs d9 rfl (by decide)
 refine Lr cz fun ai O gl=>?_
 replace f:=At.mono O f
 replace bf:=Val.mono O bf
 replace bg:=Val.mono O bg
 refine Hr 2 [o1,o1,o1,o0,o1,o1,o0,o0,o1,o1,o0,o0,o0] rfl (Bm (Acu gl (by decide)) Bym rfl rfl ⟨rfl,trivial⟩ ⟨O,?_⟩)
 refine Pm (by kernel_rfl) O Cal (Bw 3 [o1,o1,o1,o1,o1,o1,o0,o0,o1,o1,o0,o0,o0] rfl (Rm (p:=s) (q:=Gm (wl ([bs bZ2]:List ByteArray))) rfl rfl (by first|omega|(rw[lZ0];omega)|(rw[lZ0,lZ0];omega)|(rw[lZ0,lZ0,lZ0];omega))) (Hr 6 [o1,o1,o1,o1,o1,o1,o1,o0,o1,o1,o0,o0,o0] rfl (Bm (Asu (u:=bZ4) bf (by decide) (by have:=hpl.2.1;exact Tl this nL)) Bzz rfl rfl ⟨rfl,rfl,trivial⟩ ⟨Cal,?_⟩)))
 refine Bw 7 (zT 10 3) rfl (Rm (p:=s++(Gm (wl ([bs bZ2]:List ByteArray)))) (q:=Er (Ig bZ4 m.houses)) rfl rfl (by first|omega|(rw[lZ0];omega)|(rw[lZ0,lZ0];omega)|(rw[lZ0,lZ0,lZ0];omega))) (Hr 10 (zT 11 2) rfl (Bm (Asu (u:=bZ5) bg (by decide) (by have:=hpl.2.2.1;exact Tl this nL)) Bzz rfl rfl ⟨rfl,rfl,trivial⟩ ⟨Cal,?_⟩))
 refine Dp 11 (zT 12 1) rfl (Rm (p:=(s++(Gm (wl ([bs bZ2]:List ByteArray))))++(Er (Ig bZ4 m.houses))) (q:=Er (Ig bZ5 m.marks)) rfl rfl (by first|omega|(rw[lZ0];omega)|(rw[lZ0,lZ0];omega)|(rw[lZ0,lZ0,lZ0];omega))) (Dp 12 Aoj rfl (Cp (v:=.string (bs (((s++(Gm (wl ([bs bZ2]:List ByteArray))))++(Er (Ig bZ4 m.houses)))++(Er (Ig bZ5 m.marks))))) rfl) (Ec rfl (kk es ?_)))
 refine Asb rfl rfl fun ht hu et eu=>Au (iV 0) (l_k eu (Ao (Cc (fun mm ee dd ρ' σ'=>∃(i:Nat) (s:List UInt8),(m.fields.length-i)=mm∧[]=dd∧ai=ρ'∧σ=σ'∧ee 3=pV N∧ee 8=(.string (bs s))∧ee 12=iV i∧(i≤m.fields.length)∧(s=Aby l m i)∧True) (m:=_) ⟨0,((s++(Gm (wl ([bs bZ2]:List ByteArray))))++(Er (Ig bZ4 m.houses)))++(Er (Ig bZ5 m.marks)),rfl,rfl,rfl,rfl,V,rfl,rfl,Hz _,(by rw[bd,show i=l.tests.length by omega];exact txt4_0.symm),trivial⟩ ?_)))
 rintro jk i5 _ _ _ ⟨i,s,rfl,rfl,rfl,rfl,K,bt,a4,jp,ag,_⟩
 have ja:s.length≤60000:=by rw[ag];exact Atz lok mok
 refine Asb rfl rfl fun hv hx ev ew=>l_v (Ah a4) (Arw (Ba Market.f_fields Bxa rfl Se f K) fun lt gm=>Arw (Ax Se rfl gm) fun lu cm=>?_)
 have it:=Can cm
 refine l_v (Ci (el:=51) Bxn rfl cm) (l_v (Fk) (l_k ew (Bu (t:=decide ((i:Int)<(m.fields.length:Int))) rfl (fun aq=>?_) (fun aq=>?_))))
 ·have f5:=lZ2 aq
  refine Al (kk ev ?_)
  refine Ai fun hy c4=>Ao (Cr fun hz ex=>Arw (Ba Market.f_fields Bxa rfl Se f K) fun lv gn=>Arw (Ax Se rfl gn) fun lw go=>l_v (Ah a4) ?_)
  obtain⟨d,L⟩:=Ed (xs:=m.fields) (i:=i) (by first|omega|(simp only[lZ3,lZ4];omega))
  have Y:=mok.field i d L;have a6:=Avo lok mok (lZ8 L);have ix:=Wk Y.1;have bv:=Ama mok (lZ8 L);have jb:=Yi Y.2.2.2.1
  refine Arw (Em i Bxn Lo go (q:=(i:Int)) L) fun lx gp=>Arw (Ax Lo rfl gp) fun gq c6=>Arv (Ct Xu fun jf=>?_)
  refine Cx rfl (Dv (v:=gq) (a:=d) (c:=Aah) Lo rfl rfl c6 rfl ?_)
  refine Bb (a:=d) c6 fun gs b6 ah=>?_
  replace f:=At.mono b6 f
  refine l_k ex (Px (Bw 0 (zT 1 19) rfl (Ah bt) (Cu 1 (zT 2 18) rfl (Ba FField.f_name Bxf rfl ty9 ah) fun jq c7=>?_)))
  have i6:d.name.data.toList.length<2^60:=At.slen c7
  refine Bw 2 (zT 3 17) rfl (Pk ty9 rfl c7) (Cu 3 (zT 4 16) rfl (Ba Market.f_houses Bxa rfl Hw f K) fun jr f6=>Cu 4 (zT 5 15) rfl (Ax Hw rfl f6) fun js f7=>Cu 5 (zT 6 14) rfl (Ba FField.f_house Bxf rfl ty3 ah) fun jt c8=>?_)
  have⟨i7,i8⟩:=At.rng c8
  refine Bw 6 (zT 7 13) rfl (Eo ty3 c8) ?_
  obtain⟨e,x⟩:=Ed (xs:=m.houses) (i:=(d.house).toNat) (by first|omega|(simp only[lZ3,lZ4];omega))
  have iy:=Qp mok.houses (lZ8 x)
  refine Cu 7 (zT 8 12) rfl (Ch ((d.house).toNat) Bwy ty9 rfl f7 (q:=d.house) rfl (by omega) x) fun ju c9=>?_
  have i9:e.data.toList.length<2^60:=At.slen c9
  refine Bw 8 (zT 9 11) rfl (Pk ty9 rfl c9) (Cu 9 (zT 10 10) rfl (Ba FField.f_grows Bxf rfl Mx ah) fun jv f8=>Cu 10 (zT 11 9) rfl (Ax Mx rfl f8) fun jw f9=>Cu 13 [o1,o1,o1,o1,o1,o1,o1,o1,o1,o1,o1,o0,o0,o1,o0,o0,o0,o0,o0,o0] rfl (Ba FField.f_marks Bxf rfl Uo ah) fun jx fa=>Cu 14 [o1,o1,o1,o1,o1,o1,o1,o1,o1,o1,o1,o0,o0,o1,o1,o0,o0,o0,o0,o0] rfl (Ax Uo rfl fa) fun jy ca=>Hr 11 [o1,o1,o1,o1,o1,o1,o1,o1,o1,o1,o1,o1,o0,o1,o1,o0,o0,o0,o0,o0] rfl (Bm (Aqb f9 Y.2.2.2.1) Tryz.func41 rfl rfl ⟨rfl,trivial⟩ ⟨Cal,?_⟩))
  refine Acq (i:=12) (j:=15) (zT 15 5) [o1,o1,o1,o1,o1,o1,o1,o1,o1,o1,o1,o1,o0,o1,o1,o1,o0,o0,o0,o0] rfl rfl (by kernel_rfl) rfl rfl rfl rfl ?_ ?_
  ·refine Cj (α:=ByteArray) (xs:=[bs bZ0,bs d.name.data.toList,bs e.data.toList,bs (Ia d.grows)]) (vs:=[.string (ByteArray.mk #[102,105,101,108,100]),.string d.name,.string e,.string (bs (Ia d.grows))]) Bwy ty9 zr9 (by decide) (Dk (os:=[.const (.string (ByteArray.mk #[102,105,101,108,100])),.tmp 114,.tmp 120,.tmp 123]) ⟨rfl,rfl,rfl,rfl,trivial⟩) ⟨Fp (l:=bZ0) (by first|decide|omega),Fp (l:=d.name.data.toList) (by first|decide|omega),Fp (l:=e.data.toList) (by first|decide|omega),Fp (l:=Ia d.grows) (by first|decide|omega),trivial⟩ (by decide) fun b4 bk d2=>⟨Cal,?_⟩
   have aj:Grow gs 9 (.slice (some ⟨b4,0,none⟩) 4 4) ([bs bZ0,bs d.name.data.toList,bs e.data.toList,bs (Ia d.grows)]:List ByteArray) [(b4,oC bk.toArray 9)]:=Bs d2 rfl (by decide)
   refine Hr 15 (zT 16 4) rfl (Fj (Auz ca (by have:=Y.2.2.2.2.1;omega) bv) Tryz.func42 ⟨rfl,trivial⟩ fun jz ly m8 dp=>?_)
   obtain⟨F,bh,fb⟩:=dp
   replace bh:=bh.symm;subst bh
   replace aj:=Caj F aj
   refine⟨F,?_⟩
   refine Hr 16 (zT 17 3) rfl (Ge (σ:=σ) (gr:=[(b4,oC bk.toArray 9)]) (xs:=([bs bZ0,bs d.name.data.toList,bs e.data.toList,bs (Ia d.grows)]:List ByteArray)) (ys:=Mm d.marks) Bwy Bwy (Ab Bxs) nL aj fb (by simp only[lZ0,lZ3,lZ4,Mm,Xp]at *;have:=hpl;omega) fun k0 iu cp=>⟨F,?_⟩)
   refine Lr cp fun lz aa fd=>Hr 17 (zT 18 2) rfl (Bm (Acu fd (by rw[show (([bs bZ0,bs d.name.data.toList,bs e.data.toList,bs (Ia d.grows)]:List ByteArray)++Mm d.marks)=Acz e d from rfl,Tf x];have:=a6.1;omega)) Bym rfl rfl ⟨rfl,trivial⟩ ⟨Cam F aa,?_⟩)
   refine Jg 18 (zT 19 1) rfl (Cam F aa) rfl (Rm (p:=s) (q:=Gm (wl (([bs bZ0,bs d.name.data.toList,bs e.data.toList,bs (Ia d.grows)]:List ByteArray)++Mm d.marks))) rfl rfl (by rw[show (Gm (wl (([bs bZ0,bs d.name.data.toList,bs e.data.toList,bs (Ia d.grows)]:List ByteArray)++Mm d.marks)))=Gm (wl (Acz e d)) from rfl,Tf x];have:=a6.2;omega)) (Jg 19 (zT 20 0) rfl (Cam F aa) rfl (Cp (v:=.string (bs (s++(Gm (wl (([bs bZ0,bs d.name.data.toList,bs e.data.toList,bs (Ia d.grows)]:List ByteArray)++Mm d.marks)))))) rfl) (Ec rfl (kk c4 ?_)))
   refine Bf (l_v (Ah a4) (l_v (Dm (((i+1):Nat):Int)) (Au _ (Bj (Cah (Cam (Cam b6 F) aa)) (Ac ?_)))))
   refine⟨_,?_,(i+1),(s++(Gm (wl (([bs bZ0,bs d.name.data.toList,bs e.data.toList,bs (Ia d.grows)]:List ByteArray)++Mm d.marks)))),rfl,rfl,rfl,rfl,K,rfl,rfl,(by omega),(by rw[ag,←Ahh L,←Tf x];rfl),trivial⟩
   omega
  ·refine Fj (Auz ca (by have:=Y.2.2.2.2.1;omega) bv) Tryz.func42 ⟨rfl,trivial⟩ fun k8 gt m9 dq=>?_
   obtain⟨G,bi,fe⟩:=dq
   replace bi:=bi.symm;subst bi
   refine⟨G,?_⟩
   refine Hr 12 (zT 16 4) rfl (Cj (α:=ByteArray) (xs:=[bs bZ0,bs d.name.data.toList,bs e.data.toList,bs (Ia d.grows)]) (vs:=[.string (ByteArray.mk #[102,105,101,108,100]),.string d.name,.string e,.string (bs (Ia d.grows))]) Bwy ty9 zr9 (by decide) (Dk (os:=[.const (.string (ByteArray.mk #[102,105,101,108,100])),.tmp 114,.tmp 120,.tmp 123]) ⟨rfl,rfl,rfl,rfl,trivial⟩) ⟨Fp (l:=bZ0) (by first|decide|omega),Fp (l:=d.name.data.toList) (by first|decide|omega),Fp (l:=e.data.toList) (by first|decide|omega),Fp (l:=Ia d.grows) (by first|decide|omega),trivial⟩ (by decide) fun b5 bl d3=>⟨G,?_⟩)
   have cq:Grow gt 9 (.slice (some ⟨b5,0,none⟩) 4 4) ([bs bZ0,bs d.name.data.toList,bs e.data.toList,bs (Ia d.grows)]:List ByteArray) [(b5,oC bl.toArray 9)]:=Bs d3 rfl (by decide)
   refine Hr 16 (zT 17 3) rfl (Ge (σ:=σ) (gr:=[(b5,oC bl.toArray 9)]) (xs:=([bs bZ0,bs d.name.data.toList,bs e.data.toList,bs (Ia d.grows)]:List ByteArray)) (ys:=Mm d.marks) Bwy Bwy (Ab Bxs) nL cq fe (by simp only[lZ0,lZ3,lZ4,Mm,Xp]at *;have:=hpl;omega) fun ka iv cr=>⟨G,?_⟩)
   refine Lr cr fun m0 ab ff=>Hr 17 (zT 18 2) rfl (Bm (Acu ff (by rw[show (([bs bZ0,bs d.name.data.toList,bs e.data.toList,bs (Ia d.grows)]:List ByteArray)++Mm d.marks)=Acz e d from rfl,Tf x];have:=a6.1;omega)) Bym rfl rfl ⟨rfl,trivial⟩ ⟨Cam G ab,?_⟩)
   refine Jg 18 (zT 19 1) rfl (Cam G ab) rfl (Rm (p:=s) (q:=Gm (wl (([bs bZ0,bs d.name.data.toList,bs e.data.toList,bs (Ia d.grows)]:List ByteArray)++Mm d.marks))) rfl rfl (by rw[show (Gm (wl (([bs bZ0,bs d.name.data.toList,bs e.data.toList,bs (Ia d.grows)]:List ByteArray)++Mm d.marks)))=Gm (wl (Acz e d)) from rfl,Tf x];have:=a6.2;omega)) (Jg 19 (zT 20 0) rfl (Cam G ab) rfl (Cp (v:=.string (bs (s++(Gm (wl (([bs bZ0,bs d.name.data.toList,bs e.data.toList,bs (Ia d.grows)]:List ByteArray)++Mm d.marks)))))) rfl) (Ec rfl (kk c4 ?_)))
   refine Bf (l_v (Ah a4) (l_v (Dm (((i+1):Nat):Int)) (Au _ (Bj (Cah (Cam (Cam b6 G) ab)) (Ac ?_)))))
   refine⟨_,?_,(i+1),(s++(Gm (wl (([bs bZ0,bs d.name.data.toList,bs e.data.toList,bs (Ia d.grows)]:List ByteArray)++Mm d.marks)))),rfl,rfl,rfl,rfl,K,rfl,rfl,(by omega),(by rw[ag,←Ahh L,←Tf x];rfl),trivial⟩
   omega
 have f5:=lZ1 aq
 refine Bx (kk et ?_)
 refine Asb rfl rfl fun gz h0 dw dx=>Au (iV 0) (l_k dx (Ao (Cc (fun mm ee dd ρ' σ'=>∃(i:Nat) (s:List UInt8),(m.sales.length-i)=mm∧[]=dd∧ai=ρ'∧σ=σ'∧ee 3=pV N∧ee 8=(.string (bs s))∧ee 14=iV i∧(i≤m.sales.length)∧(s=Afi l m i)∧True) (m:=_) ⟨0,s,rfl,rfl,rfl,rfl,K,bt,rfl,Hz _,(by rw[ag,show i=m.fields.length by omega];exact txt5_0.symm),trivial⟩ ?_)))
 rintro jg i0 _ _ _ ⟨i,s,rfl,rfl,rfl,rfl,av,aw,au,jl,bc,_⟩
 have j8:s.length≤60000:=by rw[bc];exact Aua lok mok
 refine Asb rfl rfl fun h1 h2 dy dz=>l_v (Ah au) (Arw (Ba Market.f_sales Bxa rfl Qn f av) fun kb fg=>Arw (Ax Qn rfl fg) fun kc cb=>?_)
 have ia:=Can cb
 refine l_v (Ci (el:=54) Bxk rfl cb) (l_v (Fk) (l_k dz (Bu (t:=decide ((i:Int)<(m.sales.length:Int))) rfl (fun am=>?_) (fun am=>?_))))
 ·have f0:=lZ2 am
  refine Al (kk dy ?_)
  refine Ai fun h4 e1=>Ao (Cr fun h5 e2=>Arw (Ba Market.f_sales Bxa rfl Qn f av) fun kd fh=>Arw (Ax Qn rfl fh) fun ke fi=>l_v (Ah au) ?_)
  obtain⟨h,M⟩:=Ed (xs:=m.sales) (i:=i) (by first|omega|(simp only[lZ3,lZ4];omega))
  have a5:=mok.sale i h M;have bx:=Bcz lok mok (lZ8 M);have j6:=Rn (n:=h.grams) (by have:=a5.1;omega);have iw:=Ajs (n:=m.houses.length) a5.2.2.1 a5.2.2.2
  refine Arw (Em i Bxk Up fi (q:=(i:Int)) M) fun kf fj=>Arw (Ba Sale.f_grams Bxm rfl ty3 fj) fun kg cc=>?_
  have⟨ib,ic⟩:=At.rng cc
  refine l_v (Eo ty3 cc) (Arv (Ce (Zy (n:=h.grams) (by omega)) Byn ?_))
  refine Arv (Cj (α:=ByteArray) (xs:=[bs bZ7,bs (Nl h.grams)]) (vs:=[.string (ByteArray.mk #[115,97,108,101]),.string (bs (Nl h.grams))]) Bwy ty9 zr9 (by decide) (Dk (os:=[.const (.string (ByteArray.mk #[115,97,108,101])),.tmp 144]) ⟨rfl,rfl,trivial⟩) ⟨Fp (l:=bZ7) (by first|decide|omega),Fp (l:=Nl h.grams) (by first|decide|omega),trivial⟩ (by decide) fun a9 bm d4=>?_)
  have cs:Grow ai 9 (.slice (some ⟨a9,0,none⟩) 2 2) ([bs bZ7,bs (Nl h.grams)]:List ByteArray) [(a9,oC bm.toArray 9)]:=Bs d4 rfl (by decide)
  refine Au _ (Ds e2 fun h6 h7 e3 e4=>Au (iV 0) (l_k e4 (Ao (Cc (fun mm ee dd ρ' σ'=>∃(j:Nat) (ba:Value) (ae:Own),(h.sellers.length-j)=mm∧[]=dd∧Ro.le ai ρ'∧(ae++σ)=σ'∧ee 3=pV N∧ee 8=(.string (bs s))∧ee 14=iV i∧ee 15=ba∧ee 16=iV j∧(j≤h.sellers.length)∧Grow ρ' 9 ba (Aav m h j) ae∧True) (m:=_) ⟨0,.slice (some ⟨a9,0,none⟩) 2 2,[(a9,oC bm.toArray 9)],rfl,rfl,Cal,rfl,av,aw,au,rfl,rfl,Hz _,Fy (by rfl) cs,trivial⟩ ?_))))
  rintro jh i1 _ gu _ ⟨j,ba,ae,rfl,rfl,b7,rfl,T,bo,a1,bn,ax,jm,Z,_⟩
  replace f:=At.mono b7 f
  have jc:=Bfq (m:=m) (s:=h) (j:=j) (by omega)
  refine Asb rfl rfl fun h8 h9 e5 e6=>l_v (Ah ax) (Arw (Ba Market.f_sales Bxa rfl Qn f T) fun kh fk=>Arw (Ax Qn rfl fk) fun ki fl=>l_v (Ah a1) (Arw (Em i Bxk Up fl (q:=(i:Int)) M) fun kj fm=>Arw (Ba Sale.f_sellers Bxm rfl Vh fm) fun kl fn=>Arw (Ax Vh rfl fn) fun km cd=>?_))
  have ie:=Can cd
  refine l_v (Ci (el:=3) Bxj rfl cd) (l_v (Fk) (l_k e6 (Bu (t:=decide ((j:Int)<(h.sellers.length:Int))) rfl (fun an=>?_) (fun an=>?_))))
  ·have f2:=lZ2 an
   refine Al (kk e5 ?_)
   refine Ai fun hb e8=>Ao (Px (Bw 0 (zT 1 16) rfl (Ah bn) (Cu 1 (zT 2 15) rfl (Ba Market.f_houses Bxa rfl Hw f T) fun kn fo=>Cu 2 (zT 3 14) rfl (Ax Hw rfl fo) fun ko fp=>Cu 3 (zT 4 13) rfl (Ba Market.f_sales Bxa rfl Qn f T) fun kp fq=>Cu 4 (zT 5 12) rfl (Ax Qn rfl fq) fun kq fr=>Bw 5 (zT 6 11) rfl (Ah a1) (Cu 6 (zT 7 10) rfl (Em i Bxk Up fr (q:=(i:Int)) M) fun kr fs=>Cu 7 (zT 8 9) rfl (Ba Sale.f_sellers Bxm rfl Vh fs) fun ks ft=>Cu 8 (zT 9 8) rfl (Ax Vh rfl ft) fun kt fu=>Dp 9 (zT 10 7) rfl (Ah ax) ?_))))
   obtain⟨a0,b0⟩:=Ed (xs:=h.sellers) (i:=j) (by first|omega|(simp only[lZ3,lZ4];omega))
   have j7:=a5.2.2.1 j a0 b0
   refine Jm 10 (zT 11 6) rfl (Em j Bxj ty3 fu (q:=(j:Int)) b0) fun ku ce=>?_
   have⟨ig,ih⟩:=At.rng ce
   refine Dp 11 (zT 12 5) rfl (Eo ty3 ce) ?_
   obtain⟨I,b1⟩:=Ed (xs:=m.houses) (i:=(a0).toNat) (by first|omega|(simp only[lZ3,lZ4];omega))
   have iz:=Qp mok.houses (lZ8 b1)
   refine Jm 12 (zT 13 4) rfl (Ch ((a0).toNat) Bwy ty9 rfl fp (q:=a0) rfl (by omega) b1) fun kv cf=>?_
   have ii:I.data.toList.length<2^60:=At.slen cf
   refine Dp 13 (zT 14 3) rfl (Pk ty9 rfl cf) (Hr 14 (zT 15 2) rfl (Cj (α:=ByteArray) (xs:=[bs I.data.toList]) (vs:=[.string I]) Bwy ty9 zr9 (by decide) (Dk (os:=[.tmp 170]) ⟨rfl,trivial⟩) ⟨Fp (l:=I.data.toList) (by first|decide|omega),trivial⟩ (by decide) fun c0 da d5=>⟨Cal,?_⟩))
   have ct:Grow gu 9 (.slice (some ⟨c0,0,none⟩) 1 1) ([bs I.data.toList]:List ByteArray) [(c0,oC da.toArray 9)]:=Bs d5 rfl (by decide)
   refine Lr ct fun m1 ac fv=>?_
   replace Z:=Caj ac Z
   refine Hr 15 (zT 16 1) rfl (Ge (σ:=σ) (gr:=ae) (xs:=Aav m h j) (ys:=([bs I.data.toList]:List ByteArray)) Bwy Bwy (Ab Bxs) nL Z fv (by simp only[lZ0,lZ3,lZ4,Mm,Xp]at *;have:=hpl;omega) fun cn df cu=>⟨ac,?_⟩)
   refine Jg 16 (zT 17 0) rfl ac rfl (Cp (v:=cn) rfl) (Ec rfl (kk e8 ?_))
   refine Bf (l_v (Ah ax) (l_v (Dm (((j+1):Nat):Int)) (Au _ (Ac ?_))))
   refine⟨_,?_,(j+1),cn,df,rfl,rfl,(Cam b7 ac),rfl,T,bo,a1,rfl,rfl,(by omega),(Fy (Baj b0 b1) cu),trivial⟩
   omega
  have f2:=lZ1 an
  refine Bx (kk e3 ?_)
  refine Bf (l_v (Ah bo) (l_v (Ah bn) (Ca Z fun m3 ey fw=>Arv (Ce (Acu fw (by rw[Agz (by omega)];have:=bx.1;omega)) Bym ?_))))
  refine l_v (Rm (p:=s) (q:=Gm (wl (Aav m h j))) rfl rfl (by rw[Agz (by omega)];have:=bx.2;omega)) (Au _ (l_k e1 (Bf (l_v (Ah a1) (l_v (Dm (((i+1):Nat):Int)) (Au _ (Bj (Cah (Cam b7 ey)) (Ac ?_))))))))
  refine⟨_,?_,(i+1),(s++(Gm (wl (Aav m h j)))),rfl,rfl,rfl,rfl,T,rfl,rfl,(by omega),(by rw[bc,←Asf M,Agz (by omega)]),trivial⟩
  omega
 have f0:=lZ1 am
 refine Bx (kk dw ?_)
 refine Asb rfl rfl fun hd he ea eb=>l_v (Ah aw) (l_v (Ga Bwz (p:=s) rfl) (l_v (Gl rfl rfl) (l_k eb (Cg rfl (Jw (by omega)) (Al (kk ea ?_))))))
 refine Cr fun hf ec=>l_v (Ah aw) (Au _ (Au _ (l_k ec (Aj (Cah (Cam (Cam (Cam l2 l3) z) O)) (Aq (b3 ⟨rfl,rfl,Eq.trans (b:=.tuple #[.string (bs s),iV 0]) (Mp (r:=4) (r':=5) (rs:=[]) (v:=.string (bs s)) (vs:=[]) ⟨rfl,rfl,trivial⟩) ?_⟩))))))
 rw[Awy hlf hmf,Amo hlf hmf,bc,show i=m.sales.length by omega,Anf]
end
section
open Go
variable{mn:Bool}{X:Frame→List Frame→Ro→Own→Cy→Prop}{ρ:Ro}{σ:Own}
theorem Yr{x:List ByteArray}{va vb}(ra:Val ρ va x)(rb:Val ρ vb x):CallsH (CX mn X) 49 #[va,vb] ρ σ (rP ρ σ bT):=by
 refine Bq 26 [4] Cab rfl fun Q j V=>w_q rfl rfl fun E k=>Au bF (Ds k fun I K v y=>Av va ?_)
 refine l_v (Ci (el:=9) Bwy rfl ra) (Av vb ?_)
 have U:=Can rb
 refine l_v (Ci (el:=9) Bwy rfl rb) (l_v (Dg rfl rfl) (l_k y (Cg rfl (by simp) (Al (kk v ?_)))))
 refine Asb rfl rfl fun L M z B=>Au (iV 0) (l_k B (Ao (Cc (fun mm ee dd ρ' σ'=>∃(i:Nat),(x.length-i)=mm∧[]=dd∧ρ=ρ'∧σ=σ'∧ee 0=va∧ee 1=vb∧ee 5=iV i∧(i≤x.length)∧True) (m:=_) ⟨0,rfl,rfl,rfl,rfl,rfl,rfl,rfl,Hz _,trivial⟩ ?_)))
 rintro W O _ _ _ ⟨i,rfl,rfl,rfl,rfl,d,e,b,Y,_⟩
 refine Asb rfl rfl fun N F C l=>l_v (Ah b) (l_v (Ah d) ?_)
 have P:=Can ra
 refine l_v (Ci (el:=9) Bwy rfl ra) (l_v (Fk) (l_k l (Bu (t:=decide ((i:Int)<(x.length:Int))) rfl (fun c=>?_) (fun c=>?_))))
 ·have D:=lZ2 c
  refine Al (kk C ?_)
  refine Ai fun G n=>Ao (Ai fun H u=>Px (Bw 0 zZ0 rfl (Ah d) (Bw 1 zZ1 rfl (Ah b) ?_)))
  obtain⟨a,f⟩:=Ed (xs:=x) (i:=i) (by omega)
  refine Cu 2 Anr rfl (Em i Bwy ty9 ra (q:=(i:Int)) f) fun Z g=>?_
  have R:a.data.toList.length<2^60:=At.slen g
  refine Bw 3 Ans rfl (Pk ty9 rfl g) (Bw 4 Ant rfl (Ah e) (Dp 5 zZ8 rfl (Ah b) (Jm 6 zZ2 rfl (Em i Bwy ty9 rb (q:=(i:Int)) f) fun a0 h=>?_)))
  have T:a.data.toList.length<2^60:=At.slen h
  refine Dp 7 zZ3 rfl (Pk ty9 rfl h) (Dp 8 zZ4 rfl (Aoq (p:=a.data.toList) (q:=a.data.toList) rfl rfl) (Ec rfl (kk u ?_)))
  refine Cg rfl (by simp) (Al (kk n ?_))
  refine Bf (l_v (Ah b) (l_v (Dm (((i+1):Nat):Int)) (Au _ (Ac ?_))))
  refine⟨_,?_,(i+1),rfl,rfl,rfl,rfl,d,e,rfl,(by omega),trivial⟩
  omega
 have D:=lZ1 c
 refine Bx (kk z ?_)
 refine Cr fun J w=>Au bT (l_k w (Aq (j (rT bT ?_))))
 rfl
theorem Adv{x:List Span}{va vb}(ra:Val ρ va x)(rb:Val ρ vb x):CallsH (CX mn X) 50 #[va,vb] ρ σ (rP ρ σ bT):=by
 refine Bq 26 [4] Tryz.func50 rfl fun Q j a0=>w_q rfl rfl fun J k=>Au bF (Ds k fun N P u w=>Av va ?_)
 refine l_v (Ci (el:=48) Bxi rfl ra) (Av vb ?_)
 have g5:=Can rb
 refine l_v (Ci (el:=48) Bxi rfl rb) (l_v (Dg rfl rfl) (l_k w (Cg rfl (by simp) (Al (kk u ?_)))))
 refine Gw fun R T y z=>Au (iV 0) (l_k z (Ao (Cc (fun mm ee dd ρ' σ'=>∃(i:Nat),(x.length-i)=mm∧[]=dd∧ρ=ρ'∧σ=σ'∧ee 0=va∧ee 1=vb∧ee 5=iV i∧(i≤x.length)∧True) (m:=_) ⟨0,rfl,rfl,rfl,rfl,rfl,rfl,rfl,Hz _,trivial⟩ ?_)))
 rintro m8 Y _ _ _ ⟨i,rfl,rfl,rfl,rfl,d,g,b,a9,_⟩
 refine Gw fun U K B l=>l_v (Ah b) (l_v (Ah d) ?_)
 have Z:=Can ra
 refine l_v (Ci (el:=48) Bxi rfl ra) (l_v (Fk) (l_k l (Bu (t:=decide ((i:Int)<(x.length:Int))) rfl (fun c=>?_) (fun c=>?_))))
 ·have C:=lZ2 c
  refine Al (kk B ?_)
  refine Ai fun L n=>Ao (Ai fun M p=>Px (Bw 0 zZ0 rfl (Ah d) (Bw 1 zZ1 rfl (Ah b) ?_)))
  obtain⟨a,h⟩:=Ed (xs:=x) (i:=i) (by omega)
  refine Cu 2 Anr rfl (Em i Bxi Mx ra (q:=(i:Int)) h) fun aa D=>Cu 3 Ans rfl (Ax Mx rfl D) fun H E=>Bw 4 Ant rfl (Ah g) (Dp 5 zZ8 rfl (Ah b) (Jm 6 zZ2 rfl (Em i Bxi Mx rb (q:=(i:Int)) h) fun ab F=>Jm 7 zZ3 rfl (Ax Mx rfl F) fun I G=>?_))
  obtain⟨e,⟨a1,a2⟩,⟨a3,a4⟩⟩:=Span.open_ E
  have V:H.cells=[iV a.low,iV a.high].toArray:=by rw[e];rfl
  obtain⟨f,⟨a5,a6⟩,⟨a7,a8⟩⟩:=Span.open_ G
  have W:I.cells=[iV a.low,iV a.high].toArray:=by rw[f];rfl
  refine Dp 8 zZ4 rfl (Aci (ps:=[a.low,a.high]) (qs:=[a.low,a.high]) Bxl (by kernel_rfl) (by kernel_rfl) (rfl.trans e) (rfl.trans f) ⟨⟨by decide,_,Bxr,rfl,rfl⟩,⟨by decide,_,Bxr,rfl,rfl⟩,trivial⟩) (Ec rfl (kk p ?_))
  refine Cg rfl (by simp) (Al (kk n ?_))
  refine Bf (l_v (Ah b) (l_v (Dm (((i+1):Nat):Int)) (Au _ (Ac ?_))))
  refine⟨_,?_,(i+1),rfl,rfl,rfl,rfl,d,g,rfl,(by omega),trivial⟩
  omega
 have C:=lZ1 c
 refine Bx (kk y ?_)
 refine Cr fun O v=>Au bT (l_k v (Aq (j (rT bT ?_))))
 rfl
theorem Ayq{x:Lab}{va vb}(ra:Val ρ va x)(rb:Val ρ vb x):CallsH (CX mn X) 12 #[va,vb] ρ σ (rP ρ σ bT):=by
 refine Bq 79 [4] Tryz.func12 rfl fun Q D b5=>w_q rfl rfl fun K1 E=>Arv (Eb (v:=va) rfl fun F=>?_)
 refine Bb (a:=x) ra fun c9 k c=>?_
 replace rb:=Val.mono k rb
 refine Arv (Eb (v:=vb) rfl fun L=>?_)
 refine Bb (a:=x) rb fun al l f=>?_
 replace c:=At.mono l c
 refine Au bF (Ds E fun K4 K5 N O=>Arw (Ba Lab.f_kinds Bxd rfl Hw c) fun v6 r6=>Arw (Ax Hw rfl r6) fun v7 r7=>Arw (Ba Lab.f_kinds Bxd rfl Hw f) fun v8 r8=>Arw (Ax Hw rfl r8) fun v9 r9=>Arv (Ce (Yr r7 r9) Cab ?_))
 refine l_v (Iy rfl) (Av (.bool (!(true))) (Ak (gY rfl (not_t rfl)) (Ba Lab.f_most Bxd rfl ty3 c) fun b8 n=>?_))
 have⟨aw,ax⟩:=At.rng n
 refine Aa (gY rfl (not_t rfl)) (Eo ty3 n) (Ak (gY rfl (not_t rfl)) (Ba Lab.f_most Bxd rfl ty3 f) fun b9 u=>?_)
 have⟨ay,az⟩:=At.rng u
 refine Aa (gY rfl (not_t rfl)) (Eo ty3 u) (Aa (gY rfl (not_t rfl)) (Dg rfl rfl) (l_v (Bn rfl (not_t rfl) (v:=.bool (x.most != x.most)) rfl) (Av (.bool (x.most != x.most)) (Ak (gY rfl (by simp)) (Ba Lab.f_tests Bxd rfl Vi c) fun ba T=>Ak (gY rfl (by simp)) (Ax Vi rfl T) fun bb w=>?_))))
 have b0:=Can w
 refine Aa (gY rfl (by simp)) (Ci (el:=46) Bxg rfl w) (Ak (gY rfl (by simp)) (Ba Lab.f_tests Bxd rfl Vi f) fun bc U=>Ak (gY rfl (by simp)) (Ax Vi rfl U) fun bd y=>?_)
 have b1:=Can y
 refine Aa (gY rfl (by simp)) (Ci (el:=46) Bxg rfl y) (Aa (gY rfl (by simp)) (Dg rfl rfl) (l_v (Bn rfl (by simp) (v:=.bool ((x.tests.length:Int) != (x.tests.length:Int))) rfl) (l_k O (Cg rfl (by simp) (Al (kk N ?_))))))
 refine Asb rfl rfl fun am an G H=>Au (iV 0) (l_k H (Ao (Cc (fun mm ee dd ρ' σ'=>∃(i:Nat),(x.tests.length-i)=mm∧[]=dd∧al=ρ'∧σ=σ'∧ee 2=pV F∧ee 3=pV L∧ee 5=iV i∧(i≤x.tests.length)∧True) (m:=_) ⟨0,rfl,rfl,rfl,rfl,rfl,rfl,rfl,Hz _,trivial⟩ ?_)))
 rintro b6 av _ _ _ ⟨i,rfl,rfl,rfl,rfl,g,h,d,b7,_⟩
 refine Asb rfl rfl fun ao ap I J=>l_v (Ah d) (Arw (Ba Lab.f_tests Bxd rfl Vi c g) fun be V=>Arw (Ax Vi rfl V) fun bf z=>?_)
 have b2:=Can z
 refine l_v (Ci (el:=46) Bxg rfl z) (l_v (Fk) (l_k J (Bu (t:=decide ((i:Int)<(x.tests.length:Int))) rfl (fun j=>?_) (fun j=>?_))))
 ·have R:=lZ2 j
  refine Al (kk I ?_)
  refine Ai fun aq K=>Ao (Ai fun ar M=>Px (Cu 0 (zT 1 43) rfl (Ba Lab.f_tests Bxd rfl Vi c g) fun bg W=>Cu 1 (zT 2 42) rfl (Ax Vi rfl W) fun bh Y=>Bw 2 (zT 3 41) rfl (Ah d) ?_))
  obtain⟨b,e⟩:=Ed (xs:=x.tests) (i:=i) (by omega)
  refine Cu 3 (zT 4 40) rfl (Em i Bxg Um Y (q:=(i:Int)) e) fun bi Z=>Cu 4 (zT 5 39) rfl (Ba FTest.f_name Bxh rfl ty9 Z) fun bj B=>?_
  have b3:b.name.data.toList.length<2^60:=At.slen B
  refine Bw 5 (zT 6 38) rfl (Pk ty9 rfl B) (Cu 6 (zT 7 37) rfl (Ba Lab.f_tests Bxd rfl Vi f h) fun bk a0=>Cu 7 (zT 8 36) rfl (Ax Vi rfl a0) fun bl a1=>Dp 8 (zT 9 35) rfl (Ah d) (Jm 9 (zT 10 34) rfl (Em i Bxg Um a1 (q:=(i:Int)) e) fun bm a2=>Jm 10 (zT 11 33) rfl (Ba FTest.f_name Bxh rfl ty9 a2) fun bn C=>?_))
  have b4:b.name.data.toList.length<2^60:=At.slen C
  refine Dp 11 (zT 12 32) rfl (Pk ty9 rfl C) (Dp 12 (zT 13 31) rfl (Aoq (p:=b.name.data.toList) (q:=b.name.data.toList) rfl rfl) (Dp 13 (zT 14 30) rfl (Ah rfl) (Iu 14 (zT 15 29) rfl Cal (gY rfl (by simp)) (Ba Lab.f_tests Bxd rfl Vi c g) fun bo a3=>Iu 15 (zT 16 28) rfl Cal (gY rfl (by simp)) (Ax Vi rfl a3) fun bp a4=>Afn 16 (zT 17 27) rfl Cal (gY rfl (by simp)) (Ah d) ?_)))
  refine Iu 17 (zT 18 26) rfl Cal (gY rfl (by simp)) (Em i Bxg Um a4 (q:=(i:Int)) e) fun bq a5=>Iu 18 (zT 19 25) rfl Cal (gY rfl (by simp)) (Ba FTest.f_errs Bxh rfl ty4 a5) fun br a6=>Afn 19 (zT 20 24) rfl Cal (gY rfl (by simp)) (Nx ty4 rfl a6) (Iu 20 (zT 21 23) rfl Cal (gY rfl (by simp)) (Ba Lab.f_tests Bxd rfl Vi f h) fun bt a7=>Iu 21 (zT 22 22) rfl Cal (gY rfl (by simp)) (Ax Vi rfl a7) fun bu a8=>Jg 22 (zT 23 21) rfl Cal (gY rfl (by simp)) (Ah d) (Rh 23 (zT 24 20) rfl Cal (gY rfl (by simp)) (Em i Bxg Um a8 (q:=(i:Int)) e) fun bv a9=>Rh 24 (zT 25 19) rfl Cal (gY rfl (by simp)) (Ba FTest.f_errs Bxh rfl ty4 a9) fun bx aa=>Jg 25 (zT 26 18) rfl Cal (gY rfl (by simp)) (Nx ty4 rfl aa) (Jg 26 (zT 27 17) rfl Cal (gY rfl (by simp)) (Blx Byl (p:=b.errs) (q:=b.errs) rfl rfl) (Dp 27 (zT 28 16) rfl (Bn rfl (by simp) (v:=.bool (b.errs != b.errs)) rfl) (Dp 28 (zT 29 15) rfl (Ah rfl) (Iu 29 (zT 30 14) rfl Cal (gY rfl (by simp)) (Ba Lab.f_tests Bxd rfl Vi c g) fun bz ab=>Iu 30 (zT 31 13) rfl Cal (gY rfl (by simp)) (Ax Vi rfl ab) fun c0 ac=>Afn 31 (zT 32 12) rfl Cal (gY rfl (by simp)) (Ah d) (Iu 32 (zT 33 11) rfl Cal (gY rfl (by simp)) (Em i Bxg Um ac (q:=(i:Int)) e) fun c1 ad=>Iu 33 (zT 34 10) rfl Cal (gY rfl (by simp)) (Ba FTest.f_sees Bxh rfl Afp ad) fun c2 ae=>Iu 34 (zT 35 9) rfl Cal (gY rfl (by simp)) (Ax Afp rfl ae) fun c3 af=>Iu 35 (zT 36 8) rfl Cal (gY rfl (by simp)) (Ba Lab.f_tests Bxd rfl Vi f h) fun c4 ag=>Iu 36 (zT 37 7) rfl Cal (gY rfl (by simp)) (Ax Vi rfl ag) fun c5 ah=>Jg 37 (zT 38 6) rfl Cal (gY rfl (by simp)) (Ah d) (Rh 38 (zT 39 5) rfl Cal (gY rfl (by simp)) (Em i Bxg Um ah (q:=(i:Int)) e) fun c6 ai=>Rh 39 (zT 40 4) rfl Cal (gY rfl (by simp)) (Ba FTest.f_sees Bxh rfl Afp ai) fun c7 aj=>Rh 40 (zT 41 3) rfl Cal (gY rfl (by simp)) (Ax Afp rfl aj) fun c8 ak=>Bgq 41 (zT 42 2) rfl (gY rfl (by simp)) (Bm (Ol af ak) Tryz.func25 rfl rfl ⟨rfl,rfl,trivial⟩ ⟨Cal,?_⟩)))))))))
  refine Jg 42 (zT 43 1) rfl Cal (gY rfl (by simp)) (Iy rfl) (Dp 43 (zT 44 0) rfl (Bn rfl (by simp) (v:=.bool (!(decide (b.sees=b.sees)))) rfl) (Ec rfl (kk M ?_)))
  refine Cg rfl (by simp) (Al (kk K ?_))
  refine Bf (l_v (Ah d) (l_v (Dm (((i+1):Nat):Int)) (Au _ (Ac ?_))))
  refine⟨_,?_,(i+1),rfl,rfl,rfl,rfl,g,h,rfl,(by omega),trivial⟩
  omega
 have R:=lZ1 j
 refine Bx (kk G ?_)
 refine Cr fun au P=>Au bT (l_k P (Aj (Cah (Cam k l)) (Aq (D (rT bT ?_)))))
 rfl
theorem Aow{x:Market}{va vb}(ra:Val ρ va x)(rb:Val ρ vb x):CallsH (CX mn X) 13 #[va,vb] ρ σ (rP ρ σ bT):=by
 refine Bq 121 [4] Tryz.func13 rfl fun Q aj du=>w_q rfl rfl fun K1 k1=>Arv (Eb (v:=va) rfl fun P=>?_)
 refine Bb (a:=x) ra fun g9 V d=>?_
 replace rb:=Val.mono V rb
 refine Arv (Eb (v:=vb) rfl fun R=>?_)
 refine Bb (a:=x) rb fun ai W f=>?_
 replace d:=At.mono W d
 refine Au bF (Ds k1 fun K4 K5 k4 k5=>Arw (Ba Market.f_houses Bxa rfl Hw d) fun v6 r6=>Arw (Ax Hw rfl r6) fun v7 r7=>Arw (Ba Market.f_houses Bxa rfl Hw f) fun v8 r8=>Arw (Ax Hw rfl r8) fun v9 r9=>Arv (Ce (Yr r7 r9) Cab ?_))
 refine l_v (Iy rfl) (Av (.bool (!(true))) (Ak (gY rfl (not_t rfl)) (Ba Market.f_marks Bxa rfl Hw d) fun ek b1=>Ak (gY rfl (not_t rfl)) (Ax Hw rfl b1) fun er b6=>Ak (gY rfl (not_t rfl)) (Ba Market.f_marks Bxa rfl Hw f) fun f1 bf=>Ak (gY rfl (not_t rfl)) (Ax Hw rfl bf) fun f6 bk=>Ae (gY rfl (not_t rfl)) (Ce (Yr b6 bk) Cab ?_)))
 refine Aa (gY rfl (not_t rfl)) (Iy rfl) (l_v (Bn rfl (not_t rfl) (v:=.bool (!(true))) rfl) (Av (.bool (!(true))) (Ak (gY rfl (not_t rfl)) (Ba Market.f_fields Bxa rfl Se d) fun f7 bl=>Ak (gY rfl (not_t rfl)) (Ax Se rfl bl) fun f8 a2=>?_)))
 have d9:=Can a2
 refine Aa (gY rfl (not_t rfl)) (Ci (el:=51) Bxn rfl a2) (Ak (gY rfl (not_t rfl)) (Ba Market.f_fields Bxa rfl Se f) fun f9 bm=>Ak (gY rfl (not_t rfl)) (Ax Se rfl bm) fun fa a3=>?_)
 have da:=Can a3
 refine Aa (gY rfl (not_t rfl)) (Ci (el:=51) Bxn rfl a3) (Aa (gY rfl (not_t rfl)) (Dg rfl rfl) (l_v (Bn rfl (not_t rfl) (v:=.bool ((x.fields.length:Int) != (x.fields.length:Int))) rfl) (Av (.bool ((x.fields.length:Int) != (x.fields.length:Int))) (Ak (gY rfl (by simp)) (Ba Market.f_sales Bxa rfl Qn d) fun fb bn=>Ak (gY rfl (by simp)) (Ax Qn rfl bn) fun fc a4=>?_))))
 have db:=Can a4
 refine Aa (gY rfl (by simp)) (Ci (el:=54) Bxk rfl a4) (Ak (gY rfl (by simp)) (Ba Market.f_sales Bxa rfl Qn f) fun fd bo=>Ak (gY rfl (by simp)) (Ax Qn rfl bo) fun fe a5=>?_)
 have dc:=Can a5
 refine Aa (gY rfl (by simp)) (Ci (el:=54) Bxk rfl a5) (Aa (gY rfl (by simp)) (Dg rfl rfl) (l_v (Bn rfl (by simp) (v:=.bool ((x.sales.length:Int) != (x.sales.length:Int))) rfl) (l_k k5 (Cg rfl (by simp) (Al (kk k4 ?_))))))
 refine Asb rfl rfl fun cn co an ao=>Au (iV 0) (l_k ao (Ao (Cc (fun mm ee dd ρ' σ'=>∃(i:Nat),(x.fields.length-i)=mm∧[]=dd∧ai=ρ'∧σ=σ'∧ee 2=pV P∧ee 3=pV R∧ee 5=iV i∧(i≤x.fields.length)∧True) (m:=_) ⟨0,rfl,rfl,rfl,rfl,rfl,rfl,rfl,Hz _,trivial⟩ ?_)))
 rintro eg cz _ _ _ ⟨i,rfl,rfl,rfl,rfl,n,w,u,ei,_⟩
 refine Asb rfl rfl fun cp cq ap aq=>l_v (Ah u) (Arw (Ba Market.f_fields Bxa rfl Se d n) fun ff bp=>Arw (Ax Se rfl bp) fun fg a6=>?_)
 have de:=Can a6
 refine l_v (Ci (el:=51) Bxn rfl a6) (l_v (Fk) (l_k aq (Bu (t:=decide ((i:Int)<(x.fields.length:Int))) rfl (fun F=>?_) (fun F=>?_))))
 ·have b0:=lZ2 F
  refine Al (kk ap ?_)
  refine Ai fun cr T=>Ao (Ai fun cs U=>Px (Cu 0 zZ9 rfl (Ba Market.f_fields Bxa rfl Se d n) fun fh bq=>Cu 1 Aka rfl (Ax Se rfl bq) fun fi br=>Bw 2 Akb rfl (Ah u) ?_))
  obtain⟨b,O⟩:=Ed (xs:=x.fields) (i:=i) (by omega)
  refine Cu 3 Amg rfl (Em i Bxn Lo br (q:=(i:Int)) O) fun fj bt=>Cu 4 Anu rfl (Ax Lo rfl bt) fun ag B=>Cu 5 Anv rfl (Ba Market.f_fields Bxa rfl Se f w) fun fk bu=>Cu 6 Anw rfl (Ax Se rfl bu) fun fl bv=>Bw 7 Anx rfl (Ah u) (Cu 8 Anz rfl (Em i Bxn Lo bv (q:=(i:Int)) O) fun fm bx=>Cu 9 Ajy rfl (Ax Lo rfl bx) fun ah e=>Acq (i:=10) (j:=11) Ajz [o1,o1,o1,o1,o1,o1,o1,o1,o1,o1,o0,o1,o0,o0] rfl rfl (by kernel_rfl) rfl rfl rfl rfl ?_ ?_)
  ·refine Ct Xu fun eb=>⟨Cal,?_⟩
   refine Hr 11 zZ5 rfl (Ct Xu fun ec=>⟨Cal,?_⟩)
   refine Ej (Cai Arz) id (Oc 12 zZ6 rfl (Dv (v:=ag) (a:=b) (c:=Aah) Lo rfl rfl B rfl ⟨Cal,?_⟩))
   refine Ajl (a:=b) B fun ga H h=>?_
   replace e:=Val.mono H e
   refine Oc 13 zZ7 rfl (Dv (v:=ah) (a:=b) (c:=Aah) Lo rfl rfl e rfl ⟨H,?_⟩)
   refine Ec rfl (kk U ?_)
   refine Nt (a:=b) e fun gb Y C=>?_
   replace h:=At.mono Y h
   refine Cr fun ct ar=>Arw (Ba FField.f_name Bxf rfl ty9 h) fun fn a7=>?_
   have df:b.name.data.toList.length<2^60:=At.slen a7
   refine l_v (Pk ty9 rfl a7) (Arw (Ba FField.f_name Bxf rfl ty9 C) fun fo a8=>?_)
   have dh:b.name.data.toList.length<2^60:=At.slen a8
   refine l_v (Pk ty9 rfl a8) (l_v (Aoq (p:=b.name.data.toList) (q:=b.name.data.toList) rfl rfl) (Av (.bool (b.name.data.toList != b.name.data.toList)) (Ak (gY rfl (by simp)) (Ba FField.f_house Bxf rfl ty3 h) fun fp a9=>?_)))
   have⟨di,dj⟩:=At.rng a9
   refine Aa (gY rfl (by simp)) (Eo ty3 a9) (Ak (gY rfl (by simp)) (Ba FField.f_house Bxf rfl ty3 C) fun fq aa=>?_)
   have⟨dk,dl⟩:=At.rng aa
   refine Aa (gY rfl (by simp)) (Eo ty3 aa) (Aa (gY rfl (by simp)) (Dg rfl rfl) (l_v (Bn rfl (by simp) (v:=.bool (b.house != b.house)) rfl) (Av (.bool (b.house != b.house)) (Ak (gY rfl (by simp)) (Ba FField.f_grows Bxf rfl Mx h) fun fr bz=>Ak (gY rfl (by simp)) (Ax Mx rfl bz) fun cg c0=>Ak (gY rfl (by simp)) (Ba FField.f_grows Bxf rfl Mx C) fun fs c1=>Ak (gY rfl (by simp)) (Ax Mx rfl c1) fun ch c2=>?_))))
   obtain⟨K,⟨dv,dw⟩,⟨dx,dy⟩⟩:=Span.open_ c0
   have d0:cg.cells=[iV b.grows.low,iV b.grows.high].toArray:=by rw[K];rfl
   obtain⟨L,⟨dz,e0⟩,⟨e1,e2⟩⟩:=Span.open_ c2
   have d1:ch.cells=[iV b.grows.low,iV b.grows.high].toArray:=by rw[L];rfl
   refine Aa (gY rfl (by simp)) (Aci (ps:=[b.grows.low,b.grows.high]) (qs:=[b.grows.low,b.grows.high]) Bxl (by kernel_rfl) (by kernel_rfl) (rfl.trans K) (rfl.trans L) ⟨⟨by decide,_,Bxr,rfl,rfl⟩,⟨by decide,_,Bxr,rfl,rfl⟩,trivial⟩) (l_v (Bn rfl (by simp) (v:=.bool (!(decide ([b.grows.low,b.grows.high]=[b.grows.low,b.grows.high])))) rfl) (Av (.bool (!(decide ([b.grows.low,b.grows.high]=[b.grows.low,b.grows.high])))) (Ak (gY rfl (by simp)) (Ba FField.f_marks Bxf rfl Uo h) fun ft c3=>Ak (gY rfl (by simp)) (Ax Uo rfl c3) fun fu c4=>Ak (gY rfl (by simp)) (Ba FField.f_marks Bxf rfl Uo C) fun fv c5=>Ak (gY rfl (by simp)) (Ax Uo rfl c5) fun fw c6=>Ae (gY rfl (by simp)) (Ce (Adv c4 c6) Tryz.func50 ?_))))
   refine Aa (gY rfl (by simp)) (Iy rfl) (l_v (Bn rfl (by simp) (v:=.bool (!(true))) rfl) (l_k ar (Cg rfl (not_t rfl) (Al (kk T ?_)))))
   refine Bf (l_v (Ah u) (l_v (Dm (((i+1):Nat):Int)) (Au _ (Bj (Cah (Cam H Y)) (Ac ?_)))))
   refine⟨_,?_,(i+1),rfl,rfl,rfl,rfl,n,w,rfl,(by omega),trivial⟩
   omega
  ·refine Ct Xu fun ed=>⟨Cal,?_⟩
   refine Hr 10 zZ5 rfl (Ct Xu fun ef=>⟨Cal,?_⟩)
   refine Oc 12 zZ6 rfl (Dv (v:=ag) (a:=b) (c:=Aah) Lo rfl rfl B rfl ⟨Cal,?_⟩)
   refine Ajl (a:=b) B fun gc I l=>?_
   replace e:=Val.mono I e
   refine Oc 13 zZ7 rfl (Dv (v:=ah) (a:=b) (c:=Aah) Lo rfl rfl e rfl ⟨I,?_⟩)
   refine Ec rfl (kk U ?_)
   refine Nt (a:=b) e fun gd Z D=>?_
   replace l:=At.mono Z l
   refine Cr fun cu au=>Arw (Ba FField.f_name Bxf rfl ty9 l) fun fx ab=>?_
   have dm:b.name.data.toList.length<2^60:=At.slen ab
   refine l_v (Pk ty9 rfl ab) (Arw (Ba FField.f_name Bxf rfl ty9 D) fun fy ac=>?_)
   have dn:b.name.data.toList.length<2^60:=At.slen ac
   refine l_v (Pk ty9 rfl ac) (l_v (Aoq (p:=b.name.data.toList) (q:=b.name.data.toList) rfl rfl) (Av (.bool (b.name.data.toList != b.name.data.toList)) (Ak (gY rfl (by simp)) (Ba FField.f_house Bxf rfl ty3 l) fun fz ad=>?_)))
   have⟨dp,dq⟩:=At.rng ad
   refine Aa (gY rfl (by simp)) (Eo ty3 ad) (Ak (gY rfl (by simp)) (Ba FField.f_house Bxf rfl ty3 D) fun g0 ae=>?_)
   have⟨dr,ds⟩:=At.rng ae
   refine Aa (gY rfl (by simp)) (Eo ty3 ae) (Aa (gY rfl (by simp)) (Dg rfl rfl) (l_v (Bn rfl (by simp) (v:=.bool (b.house != b.house)) rfl) (Av (.bool (b.house != b.house)) (Ak (gY rfl (by simp)) (Ba FField.f_grows Bxf rfl Mx l) fun g1 c7=>Ak (gY rfl (by simp)) (Ax Mx rfl c7) fun ci c8=>Ak (gY rfl (by simp)) (Ba FField.f_grows Bxf rfl Mx D) fun g2 c9=>Ak (gY rfl (by simp)) (Ax Mx rfl c9) fun cj ca=>?_))))
   obtain⟨M,⟨e3,e4⟩,⟨e5,e6⟩⟩:=Span.open_ c8
   have d2:ci.cells=[iV b.grows.low,iV b.grows.high].toArray:=by rw[M];rfl
   obtain⟨N,⟨e7,e8⟩,⟨e9,ea⟩⟩:=Span.open_ ca
   have d3:cj.cells=[iV b.grows.low,iV b.grows.high].toArray:=by rw[N];rfl
   refine Aa (gY rfl (by simp)) (Aci (ps:=[b.grows.low,b.grows.high]) (qs:=[b.grows.low,b.grows.high]) Bxl (by kernel_rfl) (by kernel_rfl) (rfl.trans M) (rfl.trans N) ⟨⟨by decide,_,Bxr,rfl,rfl⟩,⟨by decide,_,Bxr,rfl,rfl⟩,trivial⟩) (l_v (Bn rfl (by simp) (v:=.bool (!(decide ([b.grows.low,b.grows.high]=[b.grows.low,b.grows.high])))) rfl) (Av (.bool (!(decide ([b.grows.low,b.grows.high]=[b.grows.low,b.grows.high])))) (Ak (gY rfl (by simp)) (Ba FField.f_marks Bxf rfl Uo l) fun g3 cb=>Ak (gY rfl (by simp)) (Ax Uo rfl cb) fun g4 cc=>Ak (gY rfl (by simp)) (Ba FField.f_marks Bxf rfl Uo D) fun g5 cd=>Ak (gY rfl (by simp)) (Ax Uo rfl cd) fun g6 ce=>Ae (gY rfl (by simp)) (Ce (Adv cc ce) Tryz.func50 ?_))))
   refine Aa (gY rfl (by simp)) (Iy rfl) (l_v (Bn rfl (by simp) (v:=.bool (!(true))) rfl) (l_k au (Cg rfl (not_t rfl) (Al (kk T ?_)))))
   refine Bf (l_v (Ah u) (l_v (Dm (((i+1):Nat):Int)) (Au _ (Bj (Cah (Cam I Z)) (Ac ?_)))))
   refine⟨_,?_,(i+1),rfl,rfl,rfl,rfl,n,w,rfl,(by omega),trivial⟩
   omega
 have b0:=lZ1 F
 refine Bx (kk an ?_)
 refine Asb rfl rfl fun cv cw av aw=>Au (iV 0) (l_k aw (Ao (Cc (fun mm ee dd ρ' σ'=>∃(k:Nat),(x.sales.length-k)=mm∧[]=dd∧ai=ρ'∧σ=σ'∧ee 2=pV P∧ee 3=pV R∧ee 8=iV k∧(k≤x.sales.length)∧True) (m:=_) ⟨0,rfl,rfl,rfl,rfl,n,w,rfl,Hz _,trivial⟩ ?_)))
 rintro eh d4 _ _ _ ⟨k,rfl,rfl,rfl,rfl,y,G,g,ej,_⟩
 refine Asb rfl rfl fun cx cy ax ay=>l_v (Ah g) (Arw (Ba Market.f_sales Bxa rfl Qn d y) fun g7 cf=>Arw (Ax Qn rfl cf) fun g8 af=>?_)
 have dt:=Can af
 refine l_v (Ci (el:=54) Bxk rfl af) (l_v (Fk) (l_k ay (Bu (t:=decide ((k:Int)<(x.sales.length:Int))) rfl (fun E=>?_) (fun E=>?_))))
 ·have az:=lZ2 E
  refine Al (kk ax ?_)
  refine Ai fun ck ak=>Ao (Ai fun cl al=>Px (Cu 0 (zT 1 28) rfl (Ba Market.f_sales Bxa rfl Qn d y) fun em b2=>Cu 1 (zT 2 27) rfl (Ax Qn rfl b2) fun en b3=>Bw 2 (zT 3 26) rfl (Ah g) ?_))
  obtain⟨J,z⟩:=Ed (xs:=x.sales) (i:=k) (by omega)
  refine Cu 3 (zT 4 25) rfl (Em k Bxk Up b3 (q:=(k:Int)) z) fun eo b4=>Cu 4 (zT 5 24) rfl (Ba Sale.f_grams Bxm rfl ty3 b4) fun ep a0=>?_
  have⟨d5,d6⟩:=At.rng a0
  refine Bw 5 (zT 6 23) rfl (Eo ty3 a0) (Cu 6 (zT 7 22) rfl (Ba Market.f_sales Bxa rfl Qn f G) fun eq b5=>Cu 7 (zT 8 21) rfl (Ax Qn rfl b5) fun es b7=>Dp 8 (zT 9 20) rfl (Ah g) (Jm 9 (zT 10 19) rfl (Em k Bxk Up b7 (q:=(k:Int)) z) fun et b8=>Jm 10 (zT 11 18) rfl (Ba Sale.f_grams Bxm rfl ty3 b8) fun eu a1=>?_))
  have⟨d7,d8⟩:=At.rng a1
  refine Dp 11 (zT 12 17) rfl (Eo ty3 a1) (Dp 12 (zT 13 16) rfl (Dg rfl rfl) (Dp 13 (zT 14 15) rfl (Ah rfl) (Iu 14 (zT 15 14) rfl Cal (gY rfl (by simp)) (Ba Market.f_sales Bxa rfl Qn d y) fun ev b9=>Iu 15 (zT 16 13) rfl Cal (gY rfl (by simp)) (Ax Qn rfl b9) fun ew ba=>Afn 16 (zT 17 12) rfl Cal (gY rfl (by simp)) (Ah g) (Iu 17 (zT 18 11) rfl Cal (gY rfl (by simp)) (Em k Bxk Up ba (q:=(k:Int)) z) fun ex bb=>Iu 18 (zT 19 10) rfl Cal (gY rfl (by simp)) (Ba Sale.f_sellers Bxm rfl Vh bb) fun ey bc=>Iu 19 (zT 20 9) rfl Cal (gY rfl (by simp)) (Ax Vh rfl bc) fun ez bd=>Iu 20 (zT 21 8) rfl Cal (gY rfl (by simp)) (Ba Market.f_sales Bxa rfl Qn f G) fun f0 be=>Iu 21 (zT 22 7) rfl Cal (gY rfl (by simp)) (Ax Qn rfl be) fun f2 bg=>Jg 22 (zT 23 6) rfl Cal (gY rfl (by simp)) (Ah g) (Rh 23 (zT 24 5) rfl Cal (gY rfl (by simp)) (Em k Bxk Up bg (q:=(k:Int)) z) fun f3 bh=>Rh 24 (zT 25 4) rfl Cal (gY rfl (by simp)) (Ba Sale.f_sellers Bxm rfl Vh bh) fun f4 bi=>Rh 25 (zT 26 3) rfl Cal (gY rfl (by simp)) (Ax Vh rfl bi) fun f5 bj=>Bgq 26 (zT 27 2) rfl (gY rfl (by simp)) (Bm (Agv bd bj) Tryz.func27 rfl rfl ⟨rfl,rfl,trivial⟩ ⟨Cal,?_⟩))))))
  refine Jg 27 (zT 28 1) rfl Cal (gY rfl (by simp)) (Iy rfl) (Dp 28 (zT 29 0) rfl (Bn rfl (by simp) (v:=.bool (!(decide (J.sellers=J.sellers)))) rfl) (Ec rfl (kk al ?_)))
  refine Cg rfl (by simp) (Al (kk ak ?_))
  refine Bf (l_v (Ah g) (l_v (Dm (((k+1):Nat):Int)) (Au _ (Ac ?_))))
  refine⟨_,?_,(k+1),rfl,rfl,rfl,rfl,y,G,rfl,(by omega),trivial⟩
  omega
 have az:=lZ1 E
 refine Bx (kk av ?_)
 refine Cr fun cm am=>Au bT (l_k am (Aj (Cah (Cam V W)) (Aq (aj (rT bT ?_)))))
 rfl
end
section
open Go
variable{mn:Bool}{X:Frame→List Frame→Ro→Own→Cy→Prop}{ρ:Ro}{σ:Own}
theorem Bhd{t}(hb:t.length≤60000):CallsH (CX mn X) 45 #[.string (bs t)] ρ σ (fun w ρ' σ'=>Ro.le ρ ρ'∧σ'=σ∧Val ρ' w (bw (Ix t):List ByteArray)):=by
 refine Bq 36 [2] Tryz.func45 rfl fun Q B ai=>w_q rfl rfl fun K1 V=>Au nS (Dr V fun K2 k2=>Au nS (Dr k2 fun K3 k3=>Au (iV 0) (Ds k3 fun K4 K5 k4 k5=>Au (iV 0) (l_k k5 (Ao (Cc (fun mm ee dd ρ' σ'=>∃(i:Nat) (fr:Nat) (ov:List ByteArray) (h:Value) (g:Own),(t.length-i)=mm∧[]=dd∧Ro.le ρ ρ'∧(g++σ)=σ'∧ee 0=(.string (bs t))∧ee 3=h∧ee 4=iV fr∧ee 5=iV i∧(fr≤i∧i≤t.length)∧(Zi t i fr ov)∧(ov.length≤i)∧Grow ρ' 9 h ov g∧True) (m:=_) ⟨0,0,[],nS,[],rfl,rfl,Cal,rfl,rfl,rfl,rfl,rfl,⟨Lb _,Hz _⟩,Bwm,Lb _,Hm,trivial⟩ ?_))))))
 rintro m6 e6 _ J _ ⟨i,fr,ov,h,g,rfl,rfl,f,rfl,b,d,e,c,a4,j,ak,a,_⟩
 obtain⟨al,am⟩:=a4
 refine Gw fun K7 K8 k7 k8=>l_v (Ah c) (l_v (Ah b) (l_v (Ga Bwz rfl) (l_v (Fk) (l_k k8 (Cw (fun u=>?_) (fun u=>?_))))))
 ·have q9:=lZ2 u
  refine Al (kk k7 ?_)
  refine Ai fun aa C=>Ao (Cr fun ab W=>l_v (Ah b) (l_v (Ah c) ?_))
  obtain⟨z,v⟩:=Va (p:=t) (i:=i) (by omega)
  have aj:=z.toNat_lt
  refine l_v (Rk i z Bwz v) (l_v (Hs) (l_k W (Cw (fun k=>?_) (fun k=>?_))))
  ·have x:=Jr k
   refine Cr fun ac Y=>l_v (Ah d) (l_v (Ah b) (l_v (Ah e) (l_v (Ah c) (l_v (Td (l:=fr) Bwz rfl (.inr ⟨_,rfl,rfl⟩) (.inr ⟨_,rfl,rfl⟩) (by omega) (by omega)) (Arv (Cj (xs:=[bs ((t.take i).drop fr)]) (vs:=[.string (bs ((t.take i).drop fr))]) Bwy ty9 zr9 (by decide) (Dk (os:=[.tmp 20]) ⟨rfl,trivial⟩) ⟨Fp (by first|omega|(rw[Wb (by omega)];omega)|(rw[lZ5,lZ6];omega)),trivial⟩ (by decide) fun D R O=>?_))))))
   have K:Grow J 9 (.slice (some ⟨D,0,none⟩) 1 1) ([bs ((t.take i).drop fr)]:List ByteArray) [(D,oC R.toArray 9)]:=Bs O rfl (by decide)
   refine Ca K fun an G a6=>?_
   replace a:=Caj G a
   refine Arv (Ge Bwy Bwy (Ab Bxs) nL a a6 (by simp only[lZ0,lZ3,lZ4]at *;omega) fun I U L=>?_)
   refine Au I (l_k Y (Bf (l_v (Ah c) (l_v (Dm (((i+1):Nat):Int)) (Au _ (l_k C (Bf (l_v (Ah c) (l_v (Dm (((i+1):Nat):Int)) (Au _ (Ac ?_)))))))))))
   refine⟨_,?_,(i+1),(i+1),(ov++([bs ((t.take i).drop fr)]:List ByteArray)),I,U,rfl,rfl,(Cam f G),rfl,b,rfl,rfl,rfl,⟨by omega,by omega⟩,(Bso j v (Ub (n:=10) x)),(by first|omega|(rw[lZ0];simp only[lZ3,lZ4];omega)),(Fy rfl L),trivial⟩
   omega
  have x:=Jq k
  refine Al (kk C ?_)
  refine Bf (l_v (Ah c) (l_v (Dm (((i+1):Nat):Int)) (Au _ (Ac ?_))))
  refine⟨_,?_,(i+1),fr,ov,h,g,rfl,rfl,f,rfl,b,d,e,rfl,⟨by omega,by omega⟩,(Bvn j v (by omega) (Zk (n:=10) x)),(by first|omega|(rw[lZ0];simp only[lZ3,lZ4];omega)),(Fy rfl a),trivial⟩
  omega
 have q9:=lZ1 u
 refine Bx (kk k4 ?_)
 refine Gw fun ad ae E Z=>l_v (Ah e) (l_v (Ah b) (l_v (Ga Bwz rfl) (l_v (Fk) (l_k Z (Cw (fun q=>?_) (fun q=>?_))))))
 ·have a5:=lZ2 q
  refine Bf (l_v (Ah d) (l_v (Ah b) (l_v (Ah e) (l_v (Td (l:=fr) Bwz rfl (.inr ⟨_,rfl,rfl⟩) (.inl ⟨rfl,rfl⟩) (by omega) (by omega)) (Arv (Cj (xs:=[bs ((t.take t.length).drop fr)]) (vs:=[.string (bs ((t.take t.length).drop fr))]) Bwy ty9 zr9 (by decide) (Dk (os:=[.tmp 32]) ⟨rfl,trivial⟩) ⟨Fp (by first|omega|(rw[Wb (by omega)];omega)|(rw[lZ5,lZ6];omega)),trivial⟩ (by decide) fun F T P=>?_))))))
  have M:Grow J 9 (.slice (some ⟨F,0,none⟩) 1 1) ([bs ((t.take t.length).drop fr)]:List ByteArray) [(F,oC T.toArray 9)]:=Bs P rfl (by decide)
  refine Ca M fun ao H a7=>?_
  replace a:=Caj H a
  refine Arv (Ge Bwy Bwy (Ab Bxs) nL a a7 (by simp only[lZ0,lZ3,lZ4]at *;omega) fun y ah N=>?_)
  refine Au y (Dr E fun af a0=>Av y (Au y (l_k a0 (Hc N fun ap a2 a8=>Aq (B ⟨Cam (Cam f H) a2,rfl,Abz rfl (Val.cast ?_ a8)⟩)))))
  ·exact Boh j (by omega) (by omega)
 have a5:=lZ1 q
 refine Al (kk E ?_)
 refine Cr fun ag a1=>l_v (Ah d) (Au _ (l_k a1 (Hc a fun aq a3 a9=>Aq (B ⟨Cam f a3,rfl,Abz rfl (Val.cast ?_ a9)⟩))))
 ·exact Bsp j (by omega) (by omega)
theorem Bdy{t}(hb:t.length≤60000):CallsH (CX mn X) 46 #[.string (bs t)] ρ σ (fun w ρ' σ'=>Ro.le ρ ρ'∧σ'=σ∧((Na t=true∧w = .tuple #[.string (bs []),nS,bF])∨∃(u:List UInt8) (r:List ByteArray) (v:Value),Na t=false∧Hn t=u::wl r∧w = .tuple #[.string (bs u),v,bT]∧Val ρ' v r)):=by
 refine Bq 41 [2,3,4] Tryz.func46 rfl fun Q G b3=>w_q rfl rfl fun K1 k1=>Au (.string (ByteArray.mk #[])) (Au nS (Au bF (Dr k1 fun K2 k2=>Au nS (Dr k2 fun K3 k3=>Au (iV 0) (Ds k3 fun K4 K5 k4 k5=>Au (iV 0) (l_k k5 (Ao (Cc (fun mm ee dd ρ' σ'=>∃(i:Nat) (fr:Nat) (ov:List ByteArray) (z:Value) (y:Own),(t.length+1-i)=mm∧[]=dd∧Ro.le ρ ρ'∧(y++σ)=σ'∧ee 0=(.string (bs t))∧ee 5=z∧ee 6=iV fr∧ee 7=iV i∧(Aca t i fr ov)∧(ov.length≤i)∧(i≤t.length+1)∧Grow ρ' 9 z ov y∧True) (m:=_) ⟨0,0,[],nS,[],rfl,rfl,Cal,rfl,rfl,rfl,rfl,rfl,Bwl,Lb _,Hz _,Hm,trivial⟩ ?_))))))))
 rintro m6 e6 _ V _ ⟨i,fr,ov,z,y,rfl,rfl,f,rfl,d,g,j,b,e,b5,b6,c,_⟩
 refine Gw fun K7 K8 k7 k8=>l_v (Ah b) (l_v (Ah d) (l_v (Ga Bwz rfl) (l_v (Uz rfl rfl) (l_k k8 (Cw (fun k=>?_) (fun k=>?_))))))
 ·obtain⟨hfr,_⟩:=e.2.1 (by have:=lZ2 k;omega)
  have q9:=lZ2 k
  refine Al (kk k7 ?_)
  refine Ai fun ap H=>Ao (Cr fun aq K=>l_v (Ah b) (l_v (Ah d) (l_v (Ga Bwz rfl) (l_v (Hs) (Av _ (Cn ((i:Int)==(t.length:Int)) (fun a=>?_) (fun a=>?_)))))))
  ·have aj:=Jr a
   refine Ap (gNZ a) (Ap (gNZ a) (Ap (gNZ a) (Ap (gNZ a) (l_v (Es a (v:=bT)) (l_k K (Et (Gw fun ar au a7 a8=>l_v (Ah b) (l_v (Ah j) (l_v (Hs) (l_k a8 (Cw (fun C=>?_) (fun C=>?_))))))))))))
   ·have ak:=Jr C
    refine Cr fun av a9=>Au (.string (ByteArray.mk #[])) (Au nS (Au bF (l_k a9 (Hc c fun bc ag b7=>Aq (G ⟨Cam f ag,rfl,.inl ⟨Big e (by omega) (.inl (by omega)) (by omega),Mp (r:=2) (v:=.string (ByteArray.mk #[])) ⟨rfl,rfl,rfl,trivial⟩⟩⟩)))))
   have ak:=Jq C
   refine Al (kk a7 ?_)
   refine Cr fun aw aa=>l_v (Ah g) (l_v (Ah d) (l_v (Ah j) (l_v (Ah b) (l_v (Td (l:=fr) (h:=i) Bwz rfl (.inr ⟨_,rfl,rfl⟩) (.inr ⟨_,rfl,rfl⟩) (by omega) (by omega)) (Arv (Cj (xs:=[bs ((t.take i).drop fr)]) (vs:=[.string (bs ((t.take i).drop fr))]) Bwy ty9 zr9 (by decide) (Dk (os:=[.tmp 31]) ⟨rfl,trivial⟩) ⟨Fp (by first|omega|(rw[Wb (by omega)];omega)|(rw[lZ5,lZ6];omega)),trivial⟩ (by decide) fun L a3 a1=>?_))))))
   have W:Grow V 9 (.slice (some ⟨L,0,none⟩) 1 1) ([bs ((t.take i).drop fr)]:List ByteArray) [(L,oC a3.toArray 9)]:=Bs a1 rfl (by decide)
   refine Ca W fun bd N am=>?_
   replace c:=Caj N c
   refine Arv (Ge Bwy Bwy (Ab Bxs) nL c am (by simp only[lZ0,lZ3,lZ4]at *;omega) fun T a5 Y=>?_)
   refine Au T (l_k aa (Bf (l_v (Ah b) (l_v (Dm (((i+1):Nat):Int)) (Au _ (l_k H (Bf (l_v (Ah b) (l_v (Dm (((i+1):Nat):Int)) (Au _ (Ac ?_)))))))))))
   refine⟨_,?_,(i+1),(i+1),(ov++([bs ((t.take i).drop fr)]:List ByteArray)),T,a5,rfl,rfl,(Cam f N),rfl,d,rfl,rfl,rfl,(Bsj e (by omega) (by omega)),(by first|omega|(rw[lZ0];simp only[lZ3,lZ4];omega)),(by omega),(Fy rfl Y),trivial⟩
   omega
  have aj:=Jq a
  refine Aa (gYZ a) (Ah d) (Aa (gYZ a) (Ah b) ?_)
  obtain⟨F,x⟩:=Va (p:=t) (i:=i) (by omega)
  have b4:=F.toNat_lt
  refine Aa (gYZ a) (Mw i F Bwz rfl rfl rfl x) (Aa (gYZ a) (Hs) (l_v (En a (v:=.bool ((F.toNat:Int)==32))) (l_k K (Cw (fun D=>?_) (fun D=>?_)))))
  ·have B:=Jr D
   refine Gw fun ax ay ab ac=>l_v (Ah b) (l_v (Ah j) (l_v (Hs) (l_k ac (Cw (fun E=>?_) (fun E=>?_)))))
   ·have al:=Jr E
    refine Cr fun az ad=>Au (.string (ByteArray.mk #[])) (Au nS (Au bF (l_k ad (Hc c fun be ah b8=>Aq (G ⟨Cam f ah,rfl,.inl ⟨Big e (by omega) (.inr (by rw[x,Ub (n:=32) B])) (by omega),Mp (r:=2) (v:=.string (ByteArray.mk #[])) ⟨rfl,rfl,rfl,trivial⟩⟩⟩)))))
   have al:=Jq E
   refine Al (kk ab ?_)
   refine Cr fun b0 ae=>l_v (Ah g) (l_v (Ah d) (l_v (Ah j) (l_v (Ah b) (l_v (Td (l:=fr) (h:=i) Bwz rfl (.inr ⟨_,rfl,rfl⟩) (.inr ⟨_,rfl,rfl⟩) (by omega) (by omega)) (Arv (Cj (xs:=[bs ((t.take i).drop fr)]) (vs:=[.string (bs ((t.take i).drop fr))]) Bwy ty9 zr9 (by decide) (Dk (os:=[.tmp 31]) ⟨rfl,trivial⟩) ⟨Fp (by first|omega|(rw[Wb (by omega)];omega)|(rw[lZ5,lZ6];omega)),trivial⟩ (by decide) fun M a4 a2=>?_))))))
   have Z:Grow V 9 (.slice (some ⟨M,0,none⟩) 1 1) ([bs ((t.take i).drop fr)]:List ByteArray) [(M,oC a4.toArray 9)]:=Bs a2 rfl (by decide)
   refine Ca Z fun bf O an=>?_
   replace c:=Caj O c
   refine Arv (Ge Bwy Bwy (Ab Bxs) nL c an (by simp only[lZ0,lZ3,lZ4]at *;omega) fun U a6 a0=>?_)
   refine Au U (l_k ae (Bf (l_v (Ah b) (l_v (Dm (((i+1):Nat):Int)) (Au _ (l_k H (Bf (l_v (Ah b) (l_v (Dm (((i+1):Nat):Int)) (Au _ (Ac ?_)))))))))))
   refine⟨_,?_,(i+1),(i+1),(ov++([bs ((t.take i).drop fr)]:List ByteArray)),U,a6,rfl,rfl,(Cam f O),rfl,d,rfl,rfl,rfl,(Bsi e x (Ub (n:=32) B) (by omega)),(by first|omega|(rw[lZ0];simp only[lZ3,lZ4];omega)),(by omega),(Fy rfl a0),trivial⟩
   omega
  have B:=Jq D
  refine Al (kk H ?_)
  refine Bf (l_v (Ah b) (l_v (Dm (((i+1):Nat):Int)) (Au _ (Ac ?_))))
  refine⟨_,?_,(i+1),fr,ov,z,y,rfl,rfl,f,rfl,d,g,j,rfl,(Bvj e x (Zk (n:=32) B)),(by first|omega|(rw[lZ0];simp only[lZ3,lZ4];omega)),(by omega),(Fy rfl c),trivial⟩
  omega
 have q9:=lZ1 k
 refine Bx (kk k4 ?_)
 refine Ai fun b1 af=>?_
 have hok:=Bvk e (by omega)
 have hov:=Bty hok.2
 refine Hc c fun bg ai P=>Px (Bw 0 (zT 1 7) rfl (Ah g) ?_)
 obtain⟨I,J⟩:=Ed (xs:=ov) (i:=0) (by omega)
 refine Cu 1 (zT 2 6) rfl (Em 0 Bwy ty9 P J) fun ba R=>?_
 have b2:I.data.toList.length<2^60:=At.slen R
 refine Bw 2 (zT 3 5) rfl (Fd ty9 R) (Bw 3 (zT 4 4) rfl (Ah g) (Cu 4 (zT 5 3) rfl (Ack 1 Bwy ty9 rfl P (q:=1) rfl rfl (by omega)) fun bb ao=>Dp 5 (zT 6 2) rfl (Cp rfl) (Dp 6 (zT 7 1) rfl (Cp rfl) (Dp 7 (zT 8 0) rfl (Cp rfl) (Ec rfl (kk af ?_))))))
 refine Aq (G ⟨Cam f ai,rfl,.inr ⟨_,_,_,hok.1,hok.2.trans (Bpp J),Mp (r:=2) (v:=.string I) ⟨rfl,rfl,rfl,trivial⟩,ao⟩⟩)
theorem Xx{s}(hb:s.length≤60000):CallsH (CX mn X) 125 #[.string (bs s)] ρ σ (rP ρ σ (.tuple #[iV (De s),.bool (Gn s)])):=by
 refine Bq 62 [2,3] Byv rfl fun Q D b9=>w_q rfl rfl fun K1 k1=>Au (iV 0) (Au bF (Dr k1 fun K2 k2=>Au bF (Asa k2 fun K3 k3=>?_)))
 have T:∀  (ee:Env),(ee 0=(.string (bs (Ha s))))∧(ee 4=(.bool (Nd s)))∧((Ha s).length≤s.length)∧True→K3 ee [] ρ σ:=by
  rintro e3 ⟨k,y,bg,_⟩
  apply k3
  refine Ai fun K4 k4=>Ai fun K5 k5=>?_
  have G:∀(bd:Bool) (ee:Env),(ee 0=(.string (bs (Ha s))))∧(ee 4=(.bool (Nd s)))∧(ee 33=(.bool bd))∧(bd=true→Gn s=false)∧(bd=false→1≤(Ha s).length∧(Ha s).length≤9∧∀c,(Ha s)[0]?=some c→c≠48∨s=[48])∧True→K5 ee [] ρ σ:=by
   rintro bd e5 ⟨a2,a4,a3,aj,ak,_⟩
   have a5:=aj
   have a6:=ak
   apply k5
   refine Bu a3 (fun N=>?_) (fun N=>?_)
   ·refine Cr fun K7 k7=>Au (iV 0) (Au bF (l_k k7 (Aq (D ⟨rfl,rfl,Eq.trans (b:=.tuple #[iV 0,bF]) (Mp (r:=2) (r':=3) (rs:=[]) (v:=iV 0) (vs:=[]) ⟨rfl,rfl,trivial⟩) ?_⟩))))
    have hz:Gn s=false:=a5 N
    rw[Agu hz,hz]
   refine Al (kk k4 ?_)
   refine Ai fun K8 k8=>?_
   obtain⟨V,W,hbz⟩:=a6 N
   refine Bf (Au _ (Ds k8 fun K9 aq k9 a7=>Au (iV 0) (l_k a7 (Ao (Cc (fun mm ee dd ρ' σ'=>∃(i:Nat) (n:Nat),((Ha s).length-i)=mm∧[]=dd∧ρ=ρ'∧σ=σ'∧ee 0=(.string (bs (Ha s)))∧ee 4=(.bool (Nd s))∧ee 5=iV n∧ee 6=iV i∧(i≤(Ha s).length)∧(n=Aii ((Ha s).take i))∧(((Ha s).take i).all Mg=true)∧True) (m:=_) ⟨0,0,rfl,rfl,rfl,rfl,a2,a4,rfl,rfl,Hz _,rfl,rfl,trivial⟩ ?_)))))
   rintro be b7 _ _ _ ⟨i,n,rfl,rfl,rfl,rfl,u,U,R,w,bf,H,I,_⟩
   have b8:n<1000000000:=by rw[H];have:=Aiu (n:=9) I (by rw[lZ6];omega);omega
   refine Gw fun ar au a8 a9=>l_v (Ah w) (l_v (Ah u) (l_v (Ga Bwz rfl) (l_v (Fk) (l_k a9 (Cw (fun J=>?_) (fun J=>?_))))))
   ·have al:=lZ2 J
    refine Al (kk a8 ?_)
    refine Ai fun av aa=>Ao (Gw fun aw ax ab Y=>l_v (Ah u) (l_v (Ah w) ?_))
    obtain⟨g,t⟩:=Va (p:=Ha s) (i:=i) (by omega)
    have ba:=g.toNat_lt
    refine l_v (Rk (p:=Ha s) i g Bwz (q:=(i:Int)) t) (l_v (Fk) (Av _ (Cn (decide ((g.toNat:Int)<48)) (fun e=>?_) (fun e=>?_))))
    ·have am:=lZ2 e
     refine Ap (gNZ e) (Ap (gNZ e) (Ap (gNZ e) (Ap (gNZ e) (l_v (Es e (v:=bT)) (l_k Y (Et (Cr fun ay ac=>Au (iV 0) (Au bF (l_k ac (Aq (D ⟨rfl,rfl,Eq.trans (b:=.tuple #[iV 0,bF]) (Mp (r:=2) (r':=3) (rs:=[]) (v:=iV 0) (vs:=[]) ⟨rfl,rfl,trivial⟩) ?_⟩)))))))))))
     have hz:Gn s=false:=Bcs (Bbl t (by first|exact Avi (by omega)|exact Avj (by omega)))
     rw[Agu hz,hz]
    have am:=lZ1 e
    refine Aa (gYZ e) (Ah u) (Aa (gYZ e) (Ah w) (Aa (gYZ e) (Rk (p:=Ha s) i g Bwz (q:=(i:Int)) t) (Aa (gYZ e) (Rd) (l_v (En e (v:=.bool (decide ((g.toNat:Int)>57)))) (l_k Y (Cw (fun K=>?_) (fun K=>?_)))))))
    ·have an:=lZ2 K
     refine Cr fun az ad=>Au (iV 0) (Au bF (l_k ad (Aq (D ⟨rfl,rfl,Eq.trans (b:=.tuple #[iV 0,bF]) (Mp (r:=2) (r':=3) (rs:=[]) (v:=iV 0) (vs:=[]) ⟨rfl,rfl,trivial⟩) ?_⟩))))
     have hz:Gn s=false:=Bcs (Bbl t (by first|exact Avi (by omega)|exact Avj (by omega)))
     rw[Agu hz,hz]
    have an:=lZ1 K
    refine Al (kk ab ?_)
    refine Bf (l_v (Ah R) (l_v (Abc (z:=(((10*n):Nat):Int)) wrE) (l_v (Ah u) (l_v (Ah w) (l_v (Rk (p:=Ha s) i g Bwz (q:=(i:Int)) t) (l_v (Ou rfl rfl (z:=(((g.toNat-48):Nat):Int)) ((Anq (by omega) (by omega)).trans (by omega))) (l_v (Acf (p:=(((g.toNat-48):Nat):Int)) (z:=(((g.toNat-48):Nat):Int)) Bxp Bxr rfl wrR) (l_v (Dm ((((10*n)+(g.toNat-48)):Nat):Int)) (Au _ (l_k aa (Bf (l_v (Ah w) (l_v (Dm (((i+1):Nat):Int)) (Au _ (Ac ?_)))))))))))))))
    refine⟨_,?_,(i+1),((10*n)+(g.toNat-48)),rfl,rfl,rfl,rfl,u,U,rfl,rfl,(by omega),(by rw[Akt t,H]),(Bgt t I (Brw (by omega) (by omega))),trivial⟩
    omega
   have al:=lZ1 J
   refine Bx (kk k9 ?_)
   refine Gw fun b0 b1 ae af=>l_v (Ah U) (l_k af (Cw (fun L=>?_) (fun L=>?_)))
   ·refine Cr fun b2 ag=>l_v (Ah R) (l_v (Bqz (p:=(n:Int)) (z:=-(n:Int)) rfl (Bo (by omega) (by omega) (by omega))) (Au _ (Au bT (l_k ag (Aq (D ⟨rfl,rfl,Eq.trans (b:=.tuple #[iV (-(n:Int)),bT]) (Mp (r:=2) (r':=3) (rs:=[]) (v:=iV (-(n:Int))) (vs:=[]) ⟨rfl,rfl,trivial⟩) ?_⟩))))))
    have hi:i=(Ha s).length:=by omega
    have hz:Gn s=true:=Bjz V W (by have:=I;rw[hi,Qa]at this;exact this) hbz
    rw[Ame hz,hz,Zq,L]
    have:=H
    rw[hi,Qa]at this
    rw[this];rfl
   refine Al (kk ae ?_)
   refine Cr fun b3 ah=>l_v (Ah R) (Au _ (Au bT (l_k ah (Aq (D ⟨rfl,rfl,Eq.trans (b:=.tuple #[iV n,bT]) (Mp (r:=2) (r':=3) (rs:=[]) (v:=iV n) (vs:=[]) ⟨rfl,rfl,trivial⟩) ?_⟩)))))
   have hi:i=(Ha s).length:=by omega
   have hz:Gn s=true:=Bjz V W (by have:=I;rw[hi,Qa]at this;exact this) hbz
   rw[Ame hz,hz,Zq,L]
   have:=H
   rw[hi,Qa]at this
   rw[this];rfl
  refine Bf (l_v (Ah k) (l_v (Ga Bwz rfl) (Arv (Ce Bed Byr ?_))))
  refine l_v (Iy rfl) (Av _ (Cn (!(inR ((((Ha s)).length:Nat):Int) 1 9)) (fun a=>?_) (fun a=>?_)))
  ·have a0:=not_eq_t a
   have bh:=Xb.1 a0
   refine Ap (gNZ a) (Ap (gNZ a) (Ap (gNZ a) (Ap (gNZ a) (Ap (Fl) (Ap (Fl) (Ap (Fl) (Ap (Fl) (Ap (Fl) (Ap (Fl) (Ap (gNZ a) (l_v (Es a (v:=bT)) (Ac ?_))))))))))))
   refine G true _ ⟨k,y,rfl,fun _=>Boi (by omega),fun h=>absurd h (by decide),trivial⟩
  have a1:=not_eq_f a
  have bi:=Fz.1 a1
  refine Aa (gYZ a) (Ah k) ?_
  obtain⟨O,B⟩:=Va (p:=Ha s) (i:=0) (by omega)
  have bb:=O.toNat_lt
  refine Aa (gYZ a) (Rk (p:=Ha s) 0 O Bwz (q:=0) B) (Aa (gYZ a) (Hs) (Me _ (gYZ a) (Cn ((O.toNat:Int)==48) (fun d=>?_) (fun d=>?_))))
  ·have E:=Jr d
   refine Aa (gYZ d) (Ah k) (Aa (gYZ d) (Ga Bwz rfl) (Aa (gYZ d) (Rd) (Me _ (gYZ d) (Cn (decide (((((Ha s)).length:Nat):Int)>1)) (fun j=>?_) (fun j=>?_)))))
   ·have ao:=lZ2 j
    refine Ap (gNZ j) (Aa (gYZ d) (Es j (v:=bT)) (Aa (gYZ a) (Es d (v:=bT)) (l_v (En a (v:=bT)) (Ac ?_))))
    refine G true _ ⟨k,y,rfl,fun h=>Awu B (Ub (n:=48) E) (Bjy (by omega)),fun h=>absurd h (by decide),trivial⟩
   have ao:=lZ1 j
   refine Aa (gYZ j) (Ah y) (Aa (gYZ d) (En j (v:=.bool (Nd s))) (Aa (gYZ a) (Es d (v:=.bool (Nd s))) (l_v (En a (v:=.bool (Nd s))) (Ac ?_))))
   refine G (Nd s) _ ⟨k,y,rfl,fun h=>Awu B (Ub (n:=48) E) (Bjy (by have:=Bdt h;omega)),fun h=>⟨by omega,by omega,fun c hc=>.inr ((Ayj h).symm.trans (Btd B (by omega) (Ub (n:=48) E)))⟩,trivial⟩
  have E:=Jq d
  refine Ap (gNZ d) (Ap (gNZ d) (Ap (gNZ d) (Ap (gNZ d) (Ap (Fl) (Ap (gNZ d) (Aa (gYZ a) (En d (v:=bF)) (l_v (En a (v:=bF)) (Ac ?_))))))))
  refine G false _ ⟨k,y,rfl,fun h=>absurd h (by decide),fun _=>⟨by omega,by omega,fun c hc=>.inl (by rw[B]at hc;cases hc;exact Zk (n:=48) E)⟩,trivial⟩
 refine Cr fun b4 Z=>Av (.string (bs s)) (l_v (Ga Bwz rfl) (l_v (Rd) (Av _ (Cn (decide ((s.length:Int)>1)) (fun f=>?_) (fun f=>?_)))))
 ·have ap:=lZ2 f
  refine Me _ (gYZ f) ?_
  obtain⟨P,C⟩:=Va (p:=s) (i:=0) (by omega)
  have bc:=P.toNat_lt
  refine Aa (gYZ f) (Rk (p:=s) 0 P Bwz (q:=0) C) (Aa (gYZ f) (Hs) (l_v (Es f (v:=.bool ((P.toNat:Int)==45))) (l_k Z (Cw (fun M=>?_) (fun M=>?_)))))
  ·have F:=Jr M
   refine Cr fun b5 ai=>Au bT (l_k ai (Bf (Av _ (l_v (Td (p:=s) (l:=1) (h:=s.length) Bwz rfl (.inr ⟨_,rfl,rfl⟩) (.inl ⟨rfl,rfl⟩) (by omega) (by omega)) (Au _ (Ac ?_))))))
   refine T _ ⟨rfl.trans (congrArg (fun x=>Value.string (bs x)) (Arq (Bcq (by omega) C (Ub (n:=45) F)))),rfl.trans (congrArg Value.bool (Bcq (by omega) C (Ub (n:=45) F)).symm),Aso,trivial⟩
  have F:=Jq M
  refine Al (T _ ⟨rfl.trans (congrArg (fun x=>Value.string (bs x)) (Ayj (Aja (.inr ⟨_,C,Zk (n:=45) F⟩))).symm),rfl.trans (congrArg Value.bool (Aja (.inr ⟨_,C,Zk (n:=45) F⟩)).symm),Aso,trivial⟩)
 have ap:=lZ1 f
 refine Ap (gNZ f) (Ap (gNZ f) (Ap (gNZ f) (l_v (En f (v:=bF)) (l_k Z (Dy rfl (Al (T _ ⟨rfl.trans (congrArg (fun x=>Value.string (bs x)) (Ayj (Aja (.inl (by omega)))).symm),rfl.trans (congrArg Value.bool (Aja (.inl (by omega))).symm),Aso,trivial⟩)))))))
theorem Bee{s}(hb:s.length≤60000):CallsH (CX mn X) 149 #[.string (bs s)] ρ σ (fun w ρ' σ'=>ρ'=ρ∧σ'=σ∧∃a b:Int,I64 a∧I64 b∧w = .tuple #[.agg #[.int .i64 a,.int .i64 b],.bool (Ii s).isSome]∧∀x,Ii s=some x→x=⟨a,b⟩):=by
 refine Lt (n:=65) (args:=[.string (bs s)]) [.cell 2 48,.tmp 3] Tryz.func149 rfl rfl rfl rfl fun Q D a6=>w_q rfl rfl fun V J=>Arv (Ct Aak fun H=>?_)
 refine Au bF (Ds J fun K3 K4 O P=>Au (iV 0) (l_k P (Ao (Cc (fun mm ee dd ρ' σ'=>∃(i:Nat),(s.length-i)=mm∧[]=dd∧ρ=ρ'∧((H,oC #[iV 0,iV 0] 48)::σ)=σ'∧ee 0=(.string (bs s))∧ee 2=pV H∧ee 4=iV i∧(i≤s.length)∧(Zr s i)∧True) (m:=_) ⟨0,rfl,rfl,rfl,rfl,rfl,rfl,rfl,Hz _,Bvf,trivial⟩ ?_))))
 rintro m5 e5 _ _ _ ⟨i,rfl,rfl,rfl,rfl,g,e,k,a9,u,_⟩
 refine Gw fun K6 K7 R T=>l_v (Ah k) (l_v (Dm (((i+1):Nat):Int)) (l_v (Ah g) (l_v (Ga Bwz rfl) (l_v (Fk) (l_k T (Cw (fun j=>?_) (fun j=>?_)))))))
 ·have U:=lZ2 j
  refine Al (kk R ?_)
  refine Ai fun K9 I=>Ao (Cr fun W G=>l_v (Ah g) (l_v (Ah k) ?_))
  obtain⟨C,t⟩:=Va (p:=s) (i:=i) (by omega)
  have a7:=C.toNat_lt
  refine l_v (Mw i C Bwz rfl rfl rfl t) (l_v (Hs) (Av (.bool ((C.toNat:Int)==46)) (Cn ((C.toNat:Int)==46) (fun c=>?_) (fun c=>?_))))
  ·have z:=Jr c
   refine Aa (gY rfl c) (Ah g) (Aa (gY rfl c) (Ah k) (Aa (gY rfl c) (Dm (((i+1):Nat):Int)) ?_))
   obtain⟨E,y⟩:=Va (p:=s) (i:=i+1) (by omega)
   have a8:=E.toNat_lt
   refine Aa (gY rfl c) (Mw (i+1) E Bwz rfl rfl rfl y) (Aa (gY rfl c) (Hs) (l_v (Es c (v:=.bool ((E.toNat:Int)==46))) (l_k G (Cw (fun q=>?_) (fun q=>?_)))))
   ·have B:=Jr q
    refine Cr fun Y K=>l_v (Ah g) (l_v (Ah k) (l_v (Td (l:=0) (h:=i) Bwz rfl (.inl ⟨rfl,rfl⟩) (.inr ⟨_,rfl,rfl⟩) (by omega) (by omega)) ?_))
    have a3:=Vo (s:=(s.take i).drop 0)
    refine Arv (Ce (Xx (s:=(s.take i).drop 0) (by first|omega|(simp only[lZ6,lZ5]at *;omega))) Byv ?_)
    refine Av (.tuple #[iV (De ((s.take i).drop 0)),.bool (Gn ((s.take i).drop 0))]) (l_v (Bp _) (l_v (Bp _) (Au _ (Au _ (Dr K fun Z L=>l_v (Ah g) (l_v (Ah k) (l_v (Dm (((i+2):Nat):Int)) (l_v (Td (l:=i+2) (h:=s.length) Bwz rfl (.inr ⟨_,rfl,rfl⟩) (.inl ⟨rfl,rfl⟩) (by omega) (by omega)) ?_))))))))
    have a4:=Vo (s:=(s.take s.length).drop (i+2))
    refine Arv (Ce (Xx (s:=(s.take s.length).drop (i+2)) (by first|omega|(simp only[lZ6,lZ5]at *;omega))) Byv ?_)
    refine Av (.tuple #[iV (De ((s.take s.length).drop (i+2))),.bool (Gn ((s.take s.length).drop (i+2)))]) (l_v (Bp _) (l_v (Bp _) (Au _ (Au _ (Dr L fun a0 F=>Av (iV (De ((s.take i).drop 0))) (Av (iV (De ((s.take s.length).drop (i+2)))) ?_))))))
    have aa:Val ρ (.agg #[iV (De ((s.take i).drop 0)),iV (De ((s.take s.length).drop (i+2)))]) (⟨De ((s.take i).drop 0),De ((s.take s.length).drop (i+2))⟩:Span):=Span.shut (x:=(⟨De ((s.take i).drop 0),De ((s.take s.length).drop (i+2))⟩:Span)) (iC (De ((s.take i).drop 0))) (iC (De ((s.take s.length).drop (i+2))))
    refine l_v (Dn (ns:=[1,1]) (vs:=[(0,(iV (De ((s.take i).drop 0)))),(1,(iV (De ((s.take s.length).drop (i+2)))))]) (zc:=Arm) (cs:=[iV (De ((s.take i).drop 0)),iV (De ((s.take s.length).drop (i+2)))]) Bxl Aak rfl ⟨ty3.2,ty3.2,trivial⟩ (EvB.map ⟨⟨rfl,rfl⟩,⟨rfl,rfl⟩,trivial⟩) ((Be (cs:=[iV (De ((s.take i).drop 0))]) rfl rfl nL).trans ((Be (cs:=[iV (De ((s.take s.length).drop (i+2)))]) rfl rfl nL).trans rfl))) (Av (.bool (Gn ((s.take i).drop 0))) (Av (.bool (Gn ((s.take i).drop 0))) (Cn (Gn ((s.take i).drop 0)) (fun f=>?_) (fun f=>?_))))
    ·refine Aa (gY rfl f) (Ah rfl) (l_v (Es f (v:=.bool (Gn ((s.take s.length).drop (i+2))))) (Av (.bool (Gn ((s.take s.length).drop (i+2)))) (Cn (Gn ((s.take s.length).drop (i+2))) (fun d=>?_) (fun d=>?_))))
     ·refine Aa (gY rfl d) (Ah rfl) (Me _ (gY rfl d) (Aa (gY rfl d) (Rf) (l_v (Es d (v:=.bool ((De ((s.take i).drop 0)) != (De ((s.take s.length).drop (i+2)))))) (Ee (Li (i:=0) Mx.2 e rfl rfl rfl (Zh ⟨rfl,rfl,trivial⟩) rfl nL rfl ?_)))))
      refine Au _ (l_k F (Aq ?_))
      have ab:Val ρ (.agg #[iV (De ((s.take i).drop 0)),iV (De ((s.take s.length).drop (i+2)))]) (⟨De ((s.take i).drop 0),De ((s.take s.length).drop (i+2))⟩:Span):=Span.shut (x:=(⟨De ((s.take i).drop 0),De ((s.take s.length).drop (i+2))⟩:Span)) (iC (De ((s.take i).drop 0))) (iC (De ((s.take s.length).drop (i+2))))
      refine D _ _ _ _ _ [.agg #[iV (De ((s.take i).drop 0)),iV (De ((s.take s.length).drop (i+2)))],.bool ((De ((s.take i).drop 0)) != (De ((s.take s.length).drop (i+2))))] ⟨Ez Mx.1 Mx.2 e (i:=0),rfl,trivial⟩ Cag ?_
      have hs:=Wr (Aix u t (Ub (n:=46) z) y (Ub (n:=46) B))
      refine⟨rfl,rfl,(De ((s.take i).drop 0)),(De ((s.take s.length).drop (i+2))),(by constructor<;>omega),(by constructor<;>omega),?_,fun x hx=>eq_if (hs.symm.trans hx)⟩
      rw[hs,isSome_if]
      first|rfl|(simp only[j,c,q,f,d];rfl)
     refine Ap (gNZ d) (Ap (gNZ d) (Ap (gNZ d) (l_v (En d (v:=bF)) (Ee (Li (i:=0) Mx.2 e rfl rfl rfl (Zh ⟨rfl,rfl,trivial⟩) rfl nL rfl ?_)))))
     refine Au bF (l_k F (Aq ?_))
     have ac:Val ρ (.agg #[iV (De ((s.take i).drop 0)),iV (De ((s.take s.length).drop (i+2)))]) (⟨De ((s.take i).drop 0),De ((s.take s.length).drop (i+2))⟩:Span):=Span.shut (x:=(⟨De ((s.take i).drop 0),De ((s.take s.length).drop (i+2))⟩:Span)) (iC (De ((s.take i).drop 0))) (iC (De ((s.take s.length).drop (i+2))))
     refine D _ _ _ _ _ [.agg #[iV (De ((s.take i).drop 0)),iV (De ((s.take s.length).drop (i+2)))],bF] ⟨Ez Mx.1 Mx.2 e (i:=0),rfl,trivial⟩ Cag ?_
     have hs:=Wr (Aix u t (Ub (n:=46) z) y (Ub (n:=46) B))
     refine⟨rfl,rfl,(De ((s.take i).drop 0)),(De ((s.take s.length).drop (i+2))),(by constructor<;>omega),(by constructor<;>omega),?_,fun x hx=>eq_if (hs.symm.trans hx)⟩
     rw[hs,isSome_if]
     first|rfl|(simp only[j,c,q,f,d];rfl)
    refine Ap (gNZ f) (l_v (En f (v:=bF)) (Av bF (Ap (gN rfl rfl) (Ap (gN rfl rfl) (Ap (gN rfl rfl) (l_v (En rfl (v:=bF)) (Ee (Li (i:=0) Mx.2 e rfl rfl rfl (Zh ⟨rfl,rfl,trivial⟩) rfl nL rfl ?_))))))))
    refine Au bF (l_k F (Aq ?_))
    have ad:Val ρ (.agg #[iV (De ((s.take i).drop 0)),iV (De ((s.take s.length).drop (i+2)))]) (⟨De ((s.take i).drop 0),De ((s.take s.length).drop (i+2))⟩:Span):=Span.shut (x:=(⟨De ((s.take i).drop 0),De ((s.take s.length).drop (i+2))⟩:Span)) (iC (De ((s.take i).drop 0))) (iC (De ((s.take s.length).drop (i+2))))
    refine D _ _ _ _ _ [.agg #[iV (De ((s.take i).drop 0)),iV (De ((s.take s.length).drop (i+2)))],bF] ⟨Ez Mx.1 Mx.2 e (i:=0),rfl,trivial⟩ Cag ?_
    have hs:=Wr (Aix u t (Ub (n:=46) z) y (Ub (n:=46) B))
    refine⟨rfl,rfl,(De ((s.take i).drop 0)),(De ((s.take s.length).drop (i+2))),(by constructor<;>omega),(by constructor<;>omega),?_,fun x hx=>eq_if (hs.symm.trans hx)⟩
    rw[hs,isSome_if]
    first|rfl|(simp only[j,c,q,f];rfl)
   have B:=Jq q
   refine Al (kk I ?_)
   refine Bf (l_v (Ah k) (l_v (Dm (((i+1):Nat):Int)) (Au _ (Ac ?_))))
   refine⟨_,?_,(i+1),rfl,rfl,rfl,rfl,g,e,rfl,(by omega),(Bhu u t (.inr (by rw[y];simp only[ne_eq,Option.some.injEq];exact Zk (n:=46) B))),trivial⟩
   omega
  have z:=Jq c
  refine Ap (gNZ c) (Ap (gNZ c) (Ap (gNZ c) (Ap (gNZ c) (Ap (gNZ c) (l_v (En c (v:=bF)) (l_k G (Dy rfl (Al (kk I ?_)))))))))
  refine Bf (l_v (Ah k) (l_v (Dm (((i+1):Nat):Int)) (Au _ (Ac ?_))))
  refine⟨_,?_,(i+1),rfl,rfl,rfl,rfl,g,e,rfl,(by omega),(Bhu u t (.inl (Zk (n:=46) z))),trivial⟩
  omega
 have U:=lZ1 j
 refine Bx (kk O ?_)
 refine Cr fun a1 M=>l_v (Ah g) ?_
 have a5:=Vo (s:=s)
 refine Arv (Ce (Xx (s:=s) (by first|omega|(simp only[lZ6,lZ5]at *;omega))) Byv ?_)
 refine Av (.tuple #[iV (De s),.bool (Gn s)]) (l_v (Bp _) (l_v (Bp _) (Au _ (Au _ (Dr M fun a2 N=>Av (iV (De s)) (Av (iV (De s)) ?_))))))
 have ae:Val ρ (.agg #[iV (De s),iV (De s)]) (⟨De s,De s⟩:Span):=Span.shut (x:=(⟨De s,De s⟩:Span)) (iC (De s)) (iC (De s))
 refine l_v (Dn (ns:=[1,1]) (vs:=[(0,(iV (De s))),(1,(iV (De s)))]) (zc:=Arm) (cs:=[iV (De s),iV (De s)]) Bxl Aak rfl ⟨ty3.2,ty3.2,trivial⟩ (EvB.map ⟨⟨rfl,rfl⟩,⟨rfl,rfl⟩,trivial⟩) ((Be (cs:=[iV (De s)]) rfl rfl nL).trans ((Be (cs:=[iV (De s)]) rfl rfl nL).trans rfl))) (Av (.bool (Gn s)) (Ee (Li (i:=0) Mx.2 e rfl rfl rfl (Zh ⟨rfl,rfl,trivial⟩) rfl nL rfl ?_)))
 refine Au _ (l_k N (Aq ?_))
 have af:Val ρ (.agg #[iV (De s),iV (De s)]) (⟨De s,De s⟩:Span):=Span.shut (x:=(⟨De s,De s⟩:Span)) (iC (De s)) (iC (De s))
 refine D _ _ _ _ _ [.agg #[iV (De s),iV (De s)],.bool (Gn s)] ⟨Ez Mx.1 Mx.2 e (i:=0),rfl,trivial⟩ Cag ?_
 have hs:=Amt (Bht u (by omega))
 refine⟨rfl,rfl,(De s),(De s),(by constructor<;>omega),(by constructor<;>omega),?_,fun x hx=>eq_if (hs.symm.trans hx)⟩
 rw[hs,isSome_if]
 first|rfl|(simp only[j];rfl)
theorem Ayp{ws vw}(rw_:Val ρ vw ws)(hn:ws.length≤60001)(hw:∀w∈ws,w.data.toList.length≤60000):CallsH (CX mn X) 96 #[vw] ρ σ (fun w ρ' σ'=>Ro.le ρ ρ'∧σ'=σ∧((Hy Vn (wl ws)=none∧w = .tuple #[nS,bF])∨∃(r:List Int) (v:Value),Hy Vn (wl ws)=some r∧w = .tuple #[v,bT]∧Val ρ' v r)):=by
 refine Bq 29 [2,3] Tryz.func96 rfl fun Q p a9=>w_q rfl rfl fun K1 G=>Au nS (Au bF (Dr G fun K2 L=>Au nS (Ds L fun K3 K4 O P=>Au (iV 0) (l_k P (Ao (Cc (fun mm ee dd ρ' σ'=>∃(i:Nat) (nv:List Int) (k:Value) (j:Own),(ws.length-i)=mm∧[]=dd∧Ro.le ρ ρ'∧(j++σ)=σ'∧ee 0=vw∧ee 4=k∧ee 5=iV i∧(i≤ws.length)∧(Hy Vn ((wl ws).take i)=some nv)∧(nv.length≤i)∧Grow ρ' 3 k nv j∧True) (m:=_) ⟨0,[],nS,[],rfl,rfl,Cal,rfl,rfl,rfl,rfl,Hz _,rfl,Lb _,Hm,trivial⟩ ?_))))))
 rintro m5 e5 _ a0 _ ⟨i,nv,k,j,rfl,rfl,d,rfl,g,n,h,ab,l,ac,b,_⟩
 replace rw_:=Val.mono d rw_
 refine Gw fun K6 K7 R T=>l_v (Ah h) (l_v (Ah g) ?_)
 have g8:=Can rw_
 refine l_v (Pc (el:=9) Bwy rw_) (l_v (Fk) (l_k T (Cw (fun f=>?_) (fun f=>?_))))
 ·have W:=lZ2 f
  refine Al (kk R ?_)
  refine Ai fun a1 H=>Ao (Cr fun a2 I=>l_v (Ah g) (l_v (Ah h) ?_))
  obtain⟨a,c⟩:=Ed (xs:=ws) (i:=i) (by omega)
  have aa:=hw _ (lZ8 c)
  refine Arw (Em i Bwy ty9 rw_ c) fun ae u=>?_
  have a7:a.data.toList.length<2^60:=At.slen u
  refine l_v (Fd ty9 u) ?_
  have a8:=Vo (s:=a.data.toList)
  refine Arv (Ce (Xx (by first|omega|(simp only[lZ6,lZ5]at *;omega))) Byv ?_)
  refine Av (.tuple #[iV (De a.data.toList),.bool (Gn a.data.toList)]) (l_v (Bp _) (l_v (Bp _) (Au _ (Au _ (Ds I fun a3 a4 J K=>Av (.bool (Gn a.data.toList)) (l_v (Iy rfl) (l_k K (Cw (fun e=>?_) (fun e=>?_)))))))))
  ·have C:=not_eq_t e
   refine Cr fun a5 M=>Au nS (Au bF (l_k M (Hc b fun af U ad=>Aq (p ⟨Cam d U,rfl,.inl ⟨Po (Pw c) (Agt C),Mp (r:=2) (r':=3) ⟨rfl,rfl,trivial⟩⟩⟩))))
  have D:=not_eq_f e
  refine Al (kk J ?_)
  refine Bf (l_v (Ah n) (Av (iV (De a.data.toList)) (Arv (Cj (xs:=[De a.data.toList]) (vs:=[iV (De a.data.toList)]) Bxj ty3 zr3 (by decide) (Dk (os:=[.tmp 25]) ⟨rfl,trivial⟩) ⟨Cv.2 ⟨rfl,by constructor<;>omega⟩,trivial⟩ (by decide) fun q E B=>?_))))
  have y:Grow a0 3 (.slice (some ⟨q,0,none⟩) 1 1) ([De a.data.toList]:List Int) [(q,oC E.toArray 3)]:=Bs B rfl (by decide)
  refine Ca y fun ag t Y=>?_
  replace b:=Caj t b
  refine Arv (Ge Bxj Bxj (Ab Bzc) nL b Y (by simp only[lZ0,lZ3,lZ4]at *;omega) fun x F z=>?_)
  refine Au x (l_k H (Bf (l_v (Ah h) (l_v (Dm (((i+1):Nat):Int)) (Au _ (Ac ?_))))))
  refine⟨_,?_,(i+1),(nv++([De a.data.toList]:List Int)),x,F,rfl,rfl,(Cam d t),rfl,g,rfl,rfl,(by omega),(Vv l (Pw c) (Zb D)),(by rw[lZ0];simp only[lZ3,lZ4];omega),(Fy rfl z),trivial⟩
  omega
 have W:=lZ1 f
 refine Bx (kk O ?_)
 refine Ai fun a6 N=>Hc b fun ah V Z=>Ag rfl rfl (l_v (Ah n) (Au _ (Au bT (l_k N (Aq (p ⟨Cam d V,rfl,.inr ⟨_,_,(by rw[show i=(wl ws).length by rw[Rt];omega,Qa]at l;exact l),Mp (r:=2) (r':=3) ⟨rfl,rfl,trivial⟩,Z⟩⟩))))))
theorem Bhg{ws vw}(rw_:Val ρ vw ws)(hn:ws.length≤60001)(hw:∀w∈ws,w.data.toList.length≤60000):CallsH (CX mn X) 126 #[vw] ρ σ (fun w ρ' σ'=>Ro.le ρ ρ'∧σ'=σ∧((Hy Ii (wl ws)=none∧w = .tuple #[nS,bF])∨∃(r:List Span) (v:Value),Hy Ii (wl ws)=some r∧w = .tuple #[v,bT]∧Val ρ' v r)):=by
 refine Bq 29 [2,3] Tryz.func126 rfl fun Q z ai=>w_q rfl rfl fun K1 U=>Au nS (Au bF (Dr U fun K2 k2=>Au nS (Ds k2 fun K3 K4 k3 k4=>Au (iV 0) (l_k k4 (Ao (Cc (fun mm ee dd ρ' σ'=>∃(i:Nat) (nv:List Span) (g:Value) (t:Own),(ws.length-i)=mm∧[]=dd∧Ro.le ρ ρ'∧(t++σ)=σ'∧ee 0=vw∧ee 4=g∧ee 5=iV i∧(i≤ws.length)∧(Hy Ii ((wl ws).take i)=some nv)∧(nv.length≤i)∧Grow ρ' 48 g nv t∧True) (m:=_) ⟨0,[],nS,[],rfl,rfl,Cal,rfl,rfl,rfl,rfl,Hz _,rfl,Lb _,Hm,trivial⟩ ?_))))))
 rintro m5 e5 _ aa _ ⟨i,nv,g,t,rfl,rfl,f,rfl,k,y,l,al,u,am,a,_⟩
 replace rw_:=Val.mono f rw_
 refine Gw fun K6 K7 k6 k7=>l_v (Ah l) (l_v (Ah k) ?_)
 have g8:=Can rw_
 refine l_v (Pc (el:=9) Bwy rw_) (l_v (Fk) (l_k k7 (Cw (fun j=>?_) (fun j=>?_))))
 ·have q9:=lZ2 j
  refine Al (kk k6 ?_)
  refine Ai fun ab V=>Ao (Cr fun ac W=>l_v (Ah k) (l_v (Ah l) ?_))
  obtain⟨d,e⟩:=Ed (xs:=ws) (i:=i) (by omega)
  have aj:=hw _ (lZ8 e)
  refine Arw (Em i Bwy ty9 rw_ e) fun ao D=>?_
  have ah:d.data.toList.length<2^60:=At.slen D
  refine l_v (Fd ty9 D) (Arv (Fj (Bee (s:=d.data.toList) (by omega)) Tryz.func149 ⟨rfl,trivial⟩ fun ap aq aw O=>?_))
  obtain⟨n,p,b,c,N,P,R,T⟩:=O
  replace n:=n.symm;replace p:=p.symm;subst n p R
  have E:Val aa (.agg #[.int .i64 b,.int .i64 c]) (⟨b,c⟩:Span):=Span.shut (x:=⟨b,c⟩) N P
  refine Av (.tuple #[.agg #[.int .i64 b,.int .i64 c],.bool ((Ii d.data.toList).isSome)]) (l_v (Bp _) (l_v (Bp _) (Arv (Ct Aak fun ak=>?_))))
  refine Ee (Wd Mx E ?_)
  refine Bb E fun a9 q a4=>?_
  replace a:=Caj q a
  refine Au _ (Ds W fun ad ae Y Z=>Av (.bool ((Ii d.data.toList).isSome)) (l_v (Iy rfl) (l_k Z (Cw (fun h=>?_) (fun h=>?_)))))
  ·have J:=not_eq_t h
   refine Cr fun af a0=>Au nS (Au bF (l_k a0 (Hc a fun ar a2 an=>Aq (z ⟨Cam (Cam f q) a2,rfl,.inl ⟨Po (Pw e) (Option.isSome_eq_false_iff.1 J |> Option.isNone_iff_eq_none.1),Mp (r:=2) (v:=nS) ⟨rfl,rfl,trivial⟩⟩⟩))))
  have K:=not_eq_f h
  refine Al (kk Y ?_)
  refine Bf (l_v (Ah y) (Arw (Gz Mx a4) fun a8 a5=>Arv (Cj (xs:=[(⟨b,c⟩:Span)]) (vs:=[a8]) Bxi Mx Aak (by decide) (Dk (os:=[.tmp 25]) ⟨rfl,trivial⟩) ⟨a5,trivial⟩ (by decide) fun B L I=>?_)))
  have G:Grow a9 48 (.slice (some ⟨B,0,none⟩) 1 1) ([(⟨b,c⟩:Span)]:List Span) [(B,oC L.toArray 48)]:=Bs I rfl (by decide)
  refine Ca G fun au C a6=>?_
  replace a:=Caj C a
  refine Arv (Ge Bxi Bxi (Ab Byt) nL a a6 (by simp only[lZ0,lZ3,lZ4]at *;omega) fun F M H=>?_)
  refine Au F (l_k V (Bf (l_v (Ah l) (l_v (Dm (((i+1):Nat):Int)) (Au _ (Ac ?_))))))
  refine⟨_,?_,(i+1),(nv++([(⟨b,c⟩:Span)]:List Span)),F,M,rfl,rfl,(Cam (Cam f q) C),rfl,k,rfl,rfl,(by omega),(Vv u (Pw e) (Bpc K T)),(by rw[lZ0];simp only[lZ3,lZ4];omega),(Fy rfl H),trivial⟩
  omega
 have q9:=lZ1 j
 refine Bx (kk k3 ?_)
 refine Ai fun ag a1=>Hc a fun av a3 a7=>Ag rfl rfl (l_v (Ah y) (Au _ (Au bT (l_k a1 (Aq (z ⟨Cam f a3,rfl,.inr ⟨_,_,(by rw[show i=(wl ws).length by rw[Rt];omega,Qa]at u;exact u),Mp (r:=2) (v:=g) ⟨rfl,rfl,trivial⟩,a7⟩⟩))))))
theorem Bbp{u}:CallsH (CX mn X) 47 #[.string (bs u)] ρ σ (rP ρ σ (iV (Ji u))):=by
 refine Bq 8 [2] Tryz.func47 rfl fun Q c x=>w_q rfl rfl fun p h=>Au (iV 0) (Ds h fun q t i j=>Av (.string (bs u)) (l_v (Tw) (l_k j (Cw (fun a=>?_) (fun a=>?_)))))
 ·have b:=Jr a
  refine Cr fun v k=>Au (iV 2) (l_k k (Aq (c (rT (iV 2) ?_))))
  rw[show Ji u=2 from by rw[Ji,if_pos (show u=Ot from b)]]
 have b:=Jq a
 refine Al (kk i ?_)
 refine Cr fun w l=>Arv (Cj (xs:=[bs bZ6,bs bZ8,bs bZ9,bs bZ2,bs bZ4,bs bZ5,bs bZ0,bs bZ7]) (vs:=[.string (ByteArray.mk #[108,97,98]),.string (ByteArray.mk #[107,105,110,100]),.string (ByteArray.mk #[116,101,115,116]),.string (ByteArray.mk #[109,97,114,107,101,116]),.string (ByteArray.mk #[104,111,117,115,101]),.string (ByteArray.mk #[109,97,114,107]),.string (ByteArray.mk #[102,105,101,108,100]),.string (ByteArray.mk #[115,97,108,101])]) Bwy ty9 zr9 (by decide) (Dk (os:=[.const (.string (ByteArray.mk #[108,97,98])),.const (.string (ByteArray.mk #[107,105,110,100])),.const (.string (ByteArray.mk #[116,101,115,116])),.const (.string (ByteArray.mk #[109,97,114,107,101,116])),.const (.string (ByteArray.mk #[104,111,117,115,101])),.const (.string (ByteArray.mk #[109,97,114,107])),.const (.string (ByteArray.mk #[102,105,101,108,100])),.const (.string (ByteArray.mk #[115,97,108,101]))]) ⟨rfl,rfl,rfl,rfl,rfl,rfl,rfl,rfl,trivial⟩) ⟨Fp (by decide),Fp (by decide),Fp (by decide),Fp (by decide),Fp (by decide),Fp (by decide),Fp (by decide),Fp (by decide),trivial⟩ (by decide) fun d g f=>?_)
 have e:Grow ρ 9 (.slice (some ⟨d,0,none⟩) 8 8) ([bs bZ6,bs bZ8,bs bZ9,bs bZ2,bs bZ4,bs bZ5,bs bZ0,bs bZ7]:List ByteArray) [(d,oC g.toArray 9)]:=Bs f rfl (by decide)
 refine Av (.string (bs u)) (Ca e fun y m n=>Arv (Ce (Akc n) Bzf ?_))
 refine Au _ (l_k l (Aj (Cah m) (Aq (c (rT (iV (findI ([bs bZ6,bs bZ8,bs bZ9,bs bZ2,bs bZ4,bs bZ5,bs bZ0,bs bZ7]:List ByteArray) (bs u))) ?_)))))
 rw[←Bfl (show u≠Ot from b)];rfl
end
end Go.Proofs.YtninnkechkolnaaGreatDoor
