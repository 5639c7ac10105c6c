/- Part 4 of what all laws of layer 8 need: a logic of programs that start goroutines, and what the functions yield. -/
import Derived.Test.YtfeahfjambednaaGreatDoorB3
set_option linter.unusedVariables false
set_option linter.unusedSimpArgs false
set_option maxRecDepth 100000
set_option maxHeartbeats 4000000
namespace Go.Proofs.YtfeahfjambednaaGreatDoor
open Go
noncomputable section
section
section
variable{C:Ctx}{V:Qt}{b:FB}{n:Nat}{Q:Hu}{e:Env}{ds:List Deferred}{Y:Ro}{Z:Own}
theorem Bqo{l:Nat}(h:Q .normal e ds Y Z):WpP C V b n (.label l) Q e ds Y Z:=fun tm k cs ht =>
 Eh (fr':=Fr b tm ds k) (cs':=cs) (fun W=>by simp[Conc.G,stepG,stepG.exec,Fr]) (.stop (.inl ⟨rfl,.normal,tm,e,ds,k,ht,h,rfl,rfl⟩))
theorem Azs{c:Code}(h:WpP C V b n c Q e ds Y Z):WpP C V b n (.scope c) Q e ds Y Z:=by
 intro tm k cs ht;refine Eh (fr':=Fr b tm ds (.code c :: .inScope c::k)) (cs':=cs) (fun W=>by simp[Conc.G,stepG,stepG.exec,Fr]) ?_;refine(h tm (.inScope c::k) cs ht).bind ?_;rintro _ _ Y' Z' (⟨rfl,ex,tm',e',ds',g,a,d,f,rfl⟩|hp);rotate_left
 ·exact .stop (.inr hp)
 by_cases hn:ex = .normal
 ·subst hn;cases f;exact Eh (fr':=Fr b tm' ds' k) (fun W=>by simp[Conc.G,stepG,stepG.exec,Fr]) (.stop (.inl ⟨rfl,.normal,tm',e',ds',k,a,d,rfl,rfl⟩))
 ·exact .stop (.inl ⟨rfl,ex,tm',e',ds',g,a,d,He hn (fun id=>rfl) f,rfl⟩)
end
end
section
theorem Auw:GoTy Tryz.prog 94 (Ptr Cel):=⟨⟨_,Tryz.underlying94,rfl⟩,⟨_,Ab Tryz.typeInfo94,rfl⟩⟩
theorem Acp:GoTy Tryz.prog 201 RawV:=⟨⟨_,Tryz.underlying201,rfl⟩,⟨_,Ab Tryz.typeInfo201,rfl⟩⟩
theorem Btv{k:Nat}:(((1 <<< k:Nat):Int)==0)=false:=by
 have:1<=1 <<< k:=by rw[Ape];exact Nat.one_le_two_pow
 exact beq_eq_false_iff_ne.2 (by omega)
variable{mn:Bool}{X:Frame->List Frame->Ro->Own->Cy->Prop}{Y:Ro}{Z:Own}
theorem Bgz{x:Nat}(hx:x<256):CallsH (CX mn X) 135 #[.int .u64 (x:Int)] Y Z (rP Y Z (iV (De x:Nat))):=by refine Bq 35 [2] Tryz.func135 rfl fun Q g V=>qA fun w h=>Av (iV 0) (qB h fun F t=>Au (.int .u64 (x:Int)) ?_);have N:=Axy x 1;refine l_v (Lc (p:=x) (q:=1) rfl rfl rfl (by omega)) ?_;have O:(x>>>1) &&& 6148914691236517205<=(x>>>1):=Amf;refine l_v (Nv (p:=x>>>1) (q:=6148914691236517205) rfl rfl (by omega)) (Au (.int .u64 (x:Int)) ?_);have P:x &&& 6148914691236517205<=x:=Amf;refine l_v (Nv (p:=x) (q:=6148914691236517205) rfl rfl (by omega)) (l_v (Br rfl rfl (z:=(((((x>>>1) &&& 6148914691236517205)+(x &&& 6148914691236517205)):Nat):Int)) ((Ev (by omega) (by omega)).trans (by push_cast;rfl))) ?_);obtain⟨a,ha_⟩:∃a,a=(((x>>>1) &&& 6148914691236517205)+(x &&& 6148914691236517205)):=⟨_,rfl⟩;refine l_v (Cp (v:=.int .u64 (a:Int)) ((show _=Value.int .u64 ((((((x>>>1) &&& 6148914691236517205)+(x &&& 6148914691236517205))):Nat):Int) from rfl).trans (by rw[ha_]))) (qB t fun G u=>Au (.int .u64 (a:Int)) ?_);have R:=Axy a 2;refine l_v (Lc (p:=a) (q:=2) rfl rfl rfl (by omega)) ?_;have T:(a>>>2) &&& 3689348814741910323<=(a>>>2):=Amf;refine l_v (Nv (p:=a>>>2) (q:=3689348814741910323) rfl rfl (by omega)) (Au (.int .u64 (a:Int)) ?_);have U:a &&& 3689348814741910323<=a:=Amf;refine l_v (Nv (p:=a) (q:=3689348814741910323) rfl rfl (by omega)) (l_v (Br rfl rfl (z:=(((((a>>>2) &&& 3689348814741910323)+(a &&& 3689348814741910323)):Nat):Int)) ((Ev (by omega) (by omega)).trans (by push_cast;rfl))) ?_);obtain⟨b,hb_⟩:∃b,b=(((a>>>2) &&& 3689348814741910323)+(a &&& 3689348814741910323)):=⟨_,rfl⟩;refine l_v (Cp (v:=.int .u64 (b:Int)) ((show _=Value.int .u64 ((((((a>>>2) &&& 3689348814741910323)+(a &&& 3689348814741910323))):Nat):Int) from rfl).trans (by rw[hb_]))) (qB u fun y i=>Au (.int .u64 (b:Int)) ?_);have H:=Axy b 4;refine l_v (Lc (p:=b) (q:=4) rfl rfl rfl (by omega)) (Au (.int .u64 (b:Int)) (l_v (Br rfl rfl (z:=((((b>>>4)+b):Nat):Int)) ((Ev (by omega) (by omega)).trans (by push_cast;rfl))) ?_));have I:((b>>>4)+b) &&& 1085102592571150095<=((b>>>4)+b):=Amf;refine l_v (Nv (p:=(b>>>4)+b) (q:=1085102592571150095) rfl rfl (by omega)) ?_;obtain⟨c,hc_⟩:∃c,c=(((b>>>4)+b) &&& 1085102592571150095):=⟨_,rfl⟩;refine l_v (Cp (v:=.int .u64 (c:Int)) ((show _=Value.int .u64 ((((((b>>>4)+b) &&& 1085102592571150095)):Nat):Int) from rfl).trans (by rw[hc_]))) (qB i fun B j=>Au (.int .u64 (c:Int)) (Au (.int .u64 (c:Int)) ?_));have J:=Axy c 8;refine l_v (Lc (p:=c) (q:=8) rfl rfl rfl (by omega)) (l_v (Br rfl rfl (z:=(((c+(c>>>8)):Nat):Int)) ((Ev (by omega) (by omega)).trans (by push_cast;rfl))) ?_);obtain⟨d,hd_⟩:∃d,d=(c+(c>>>8)):=⟨_,rfl⟩;refine l_v (Cp (v:=.int .u64 (d:Int)) ((show _=Value.int .u64 ((((c+(c>>>8))):Nat):Int) from rfl).trans (by rw[hd_]))) (qB j fun C k=>Au (.int .u64 (d:Int)) (Au (.int .u64 (d:Int)) ?_));have K:=Axy d 16;refine l_v (Lc (p:=d) (q:=16) rfl rfl rfl (by omega)) (l_v (Br rfl rfl (z:=(((d+(d>>>16)):Nat):Int)) ((Ev (by omega) (by omega)).trans (by push_cast;rfl))) ?_);obtain⟨e,he_⟩:∃e,e=(d+(d>>>16)):=⟨_,rfl⟩;refine l_v (Cp (v:=.int .u64 (e:Int)) ((show _=Value.int .u64 ((((d+(d>>>16))):Nat):Int) from rfl).trans (by rw[he_]))) (qB k fun D m=>Au (.int .u64 (e:Int)) (Au (.int .u64 (e:Int)) ?_));have L:=Axy e 32;refine l_v (Lc (p:=e) (q:=32) rfl rfl rfl (by omega)) (l_v (Br rfl rfl (z:=(((e+(e>>>32)):Nat):Int)) ((Ev (by omega) (by omega)).trans (by push_cast;rfl))) ?_);obtain⟨f,hf_⟩:∃f,f=(e+(e>>>32)):=⟨_,rfl⟩;refine l_v (Cp (v:=.int .u64 (f:Int)) ((show _=Value.int .u64 ((((e+(e>>>32))):Nat):Int) from rfl).trans (by rw[hf_]))) (qB m fun E n=>Au (.int .u64 (f:Int)) (l_v (Acf (p:=(f:Int)) (z:=(f:Int)) Tryz.underlying267 Ceq rfl wrR) ?_));have M:f &&& 127<=f:=Amf;refine l_v (Qs (p:=f) (q:=127) rfl rfl (by omega)) (Av (iV ((f &&& 127):Nat)) (l_k n (Aq (g (rT (iV ((f &&& 127):Nat)) ?_)))));rw[Bor hx ha_ hb_ hc_ hd_ he_ hf_]
theorem Bdf{x:Nat}(hx:x<256):CallsH (CX mn X) 86 #[.int .u64 (x:Int)] Y Z (rP Y Z (iV (De x:Nat))):=by refine Bq 8 [2] Tryz.func86 rfl fun Q a h=>qA fun e b=>Av (iV 0) (Asa b fun f c=>Cg rfl rfl (Al (kk c ?_)));refine qA fun g d=>Au (.int .u64 (x:Int)) (Arv (Cj (Bgz (x:=x) (by omega)) Tryz.func135 ?_));refine Av (iV ((De x):Nat)) (l_k d (Aq (a (rT (iV ((De x):Nat)) ?_))));rfl
theorem Bxb{b:LBook}{F lot S C rc rb:Nat}{vc vf vl vt:Value}(ok:LotsOk b)(hc:At Y vc (Ptr.mk (⟨b,frD b⟩:Cel):Ptr Cel))(hf:At Y vf (UW.mk F))(hl:At Y vl (lot:Int))(ht:At Y vt (RawV.mk (.func (.func 85) #[] #[vc,vf,pV rc,pV rb,vl,vt])))(hF:F<2^63)(hS:S<256)(hC:C<256):CallsH (CX mn X) 85 #[iV (-1),.int .u64 (S:Int),vc,vf,pV rc,pV rb,vl,vt] Y ((rc,oC #[.int .u64 (C:Int)] 98)::((rb,oC #[iV (Bu b F C)] 3)::Z)) (fun w Y' Z'=>Y'=Y/\Z'=(rc,oC #[.int .u64 (((Gv (Bu b F) lot 0 S C):Nat):Int)] 98)::(rb,oC #[iV (Bu b F (Gv (Bu b F) lot 0 S C))] 3)::Z):=by
 have hpS:=Bfn hS;have hpC:=Bfn hC;refine Bq 79 [] Cfj rfl fun Q g a2=>Azs (qD fun V K2 k1 M=>Au (iV (-1)) (l_v (Da rfl rfl) (l_k M (Co rfl rfl (qA fun K3 O=>Arw (Ax Auw rfl hc) fun v4 B=>?_)))));replace B:=Ir.1 B;refine l_v (Aga Zt rfl hf) (Au (.int .u64 (S:Int)) (Arv (Cj (Acy (C:=S) ok B (by omega) (by omega)) Cfs ?_)));refine Av (iV (Bu b F S)) (Asa O fun K6 m=>Ai fun K7 P=>Ot ((rc,oC #[.int .u64 (C:Int)] 98)::((rb,oC #[iV (Bu b F C)] 3)::[])) [0,1,2,3,4,5] (by kernel_rfl) rfl rfl (Dr 0 (zT 1 5) rfl ⟨Cgi,sB⟩ rfl (Yld.o (Ah (v:=.int .u64 (S:Int)) rfl)) (Dr 2 [o1,o0,o1,o0,o0,o0] rfl ⟨Cgi,sB⟩ rfl (Eo (v:=.int .u64 (C:Int)) Zt.1 rfl mC rfl) (Agt 1 (zT 3 3) rfl rfl (Bm (Bdf (x:=S) (by omega)) Tryz.func86 rfl rfl ⟨rfl,trivial⟩ ⟨⟨Cgi,sB⟩,?_⟩)))));refine Agt 3 (zT 4 2) rfl rfl (Bm (Bdf (x:=C) (by omega)) Tryz.func86 rfl rfl ⟨rfl,trivial⟩ ⟨⟨Cgi,sB⟩,?_⟩);refine Dd 4 (zT 5 1) rfl ⟨Cgi,sB⟩ rfl (Yld.o (Ou rfl rfl (z:=(((De S):Nat):Int)-(((De C):Nat):Int)) wrE)) ⟨Cgi,sB⟩ (Dd 5 (zT 6 0) rfl ⟨Cgi,sB⟩ rfl (Yld.o (Cp (v:=iV ((((De S):Nat):Int)-(((De C):Nat):Int))) rfl)) ⟨Cgi,sB⟩ (Sr rfl (kk P ?_)));refine Ao (qA fun K8 n=>Au (iV (Bu b F S)) (Arv (Dt (i:=1) (v:=iV (Bu b F C)) ty3.1 rfl rfl rfl ?_)));refine l_v (Gl rfl rfl) (Au (.bool (decide ((Bu b F S)>(Bu b F C)))) (Cn (decide ((Bu b F S)>(Bu b F C))) (fun d=>?_) (fun d=>?_)))
 ·have u:=lZ2 d;refine Ap (gN rfl d) (Ap (gN rfl d) (Ap (gN rfl d) (Ap (gN rfl d) (Ap (Jf rfl rfl rfl) (Ap (Jf rfl rfl rfl) (Ap (gN rfl d) (l_v (Bt rfl d (v:=bT) rfl) (Av bT (l_k n (Co rfl rfl (Aq (g ?_))))))))))));have hT:Gv (Bu b F) lot 0 S C=C:=by unfold Gv;rw[Cax u];rfl
  exact⟨rfl,by rw[hT]<;>rfl⟩
 have u:=lZ1 d;refine l_M (iV (Bu b F S)) (qF d) rfl (Ae (qF d) (Dt (i:=1) (v:=iV (Bu b F C)) ty3.1 rfl rfl rfl ?_));refine Aa (qF d) (Ek rfl rfl) (l_M (.bool ((Bu b F S)==(Bu b F C))) (qF d) rfl (Cn ((Bu b F S)==(Bu b F C)) (fun a=>?_) (fun a=>?_)))
 ·have R:=Jr a;refine l_M (iV ((((De S):Nat):Int)-(((De C):Nat):Int))) (qF a) rfl (Aa (qF a) (Gl rfl rfl) (Aa (qF d) (Bt rfl a (v:=.bool (decide (((((De S):Nat):Int)-(((De C):Nat):Int))>0))) rfl) (l_v (Bn rfl d (v:=.bool (decide (((((De S):Nat):Int)-(((De C):Nat):Int))>0))) rfl) (Av (.bool (decide (((((De S):Nat):Int)-(((De C):Nat):Int))>0))) (l_k n (Bp (t:=decide (((((De S):Nat):Int)-(((De C):Nat):Int))>0)) rfl (fun h=>?_) (fun h=>?_)))))))
  ·have p:=lZ2 h;refine Aq (g ?_);have hT:Gv (Bu b F) lot 0 S C=C:=by unfold Gv;rw[Cay hS hC a p];rfl
   exact⟨rfl,by rw[hT]<;>rfl⟩
  have p:=lZ1 h;refine Ai fun W G=>Ot ((rc,oC #[.int .u64 (C:Int)] 98)::((rb,oC #[iV (Bu b F C)] 3)::[])) [0,1,2,3,4,5,6,7,8,9,10,11,12,13,14,15] (by kernel_rfl) rfl rfl (Dr 0 Anr rfl ⟨Cgi,sB⟩ rfl (Yld.o (Ah (v:=iV (Bu b F S)) rfl)) (Dd 1 Anw rfl ⟨Cgi,sB⟩ rfl (Eo (v:=iV (Bu b F C)) ty3.1 rfl (lZ0 _ mC) rfl) ⟨Cgi,sB⟩ (Dd 2 Anx rfl ⟨Cgi,sB⟩ rfl (Yld.o (Ek rfl rfl)) ⟨Cgi,sB⟩ (Dd 3 Anz rfl ⟨Cgi,sB⟩ rfl (Yld.o (Ah (v:=.bool ((Bu b F S)==(Bu b F C))) rfl)) ⟨Cgi,sB⟩ (Dd 4 Aoa rfl ⟨Cgi,sB⟩ (qF a) (Yld.o (Ah (v:=iV ((((De S):Nat):Int)-(((De C):Nat):Int))) rfl)) ⟨Cgi,sB⟩ (Dd 5 Aob rfl ⟨Cgi,sB⟩ (qF a) (Yld.o (Ek rfl rfl)) ⟨Cgi,sB⟩ (Dd 6 (zT 7 9) rfl ⟨Cgi,sB⟩ rfl (Yld.o (Bt rfl a (v:=.bool (((((De S):Nat):Int)-(((De C):Nat):Int))==0)) rfl)) ⟨Cgi,sB⟩ (Dd 7 Akb rfl ⟨Cgi,sB⟩ rfl (Yld.o (Ah (v:=.bool (((((De S):Nat):Int)-(((De C):Nat):Int))==0)) rfl)) ⟨Cgi,sB⟩ (Bfd (((((De S):Nat):Int)-(((De C):Nat):Int))==0) (fun c=>?_) (fun c=>?_))))))))))
  ·have T:=Jr c;refine Dr 8 zZ8 rfl ⟨Cgi,sB⟩ (qF c) (Yld.o (Ah (v:=.int .u64 (S:Int)) rfl)) (Dr 10 [o1,o1,o1,o1,o1,o1,o1,o1,o1,o0,o1,o0,o0,o0,o0,o0] rfl ⟨Cgi,sB⟩ (qF c) (Eo (v:=.int .u64 (C:Int)) Zt.1 rfl mC rfl) (Agt 9 zZ0 rfl (qF c) (Cm (vs:=[.int .u64 (S:Int)]) (Atd (x:=S) (by omega)) Cgb rfl rfl ⟨rfl,trivial⟩ fun a3 a5 a7 H=>?_)));obtain⟨e,D,y⟩:=H;replace D:=D.symm;subst D;refine⟨⟨e,sB⟩,?_⟩;refine Agt 11 zZ1 rfl (qF c) (Cm (vs:=[.int .u64 (C:Int)]) (Atd (x:=C) (by omega)) Cgb rfl rfl ⟨rfl,trivial⟩ fun a4 a6 a8 I=>?_);obtain⟨f,E,U⟩:=I;replace E:=E.symm;subst E;replace y:=Val.mono f y;refine⟨⟨Cgj e f,sB⟩,?_⟩;refine Agt 12 zZ2 rfl (qF c) (Bm (Agy y U) Tryz.func87 rfl rfl ⟨rfl,rfl,trivial⟩ ⟨⟨Cgj e f,sB⟩,?_⟩);refine Dd 13 zZ3 rfl ⟨Cgj e f,sB⟩ (qF c) (Yld.o (Uy rfl rfl)) ⟨Cgi,sB⟩ (Dd 14 zZ4 rfl ⟨Cgj e f,sB⟩ rfl (Yld.o (Bt rfl c (v:=.bool (decide ((Gz (Bw (Bv S)) (Bw (Bv C)))>=0))) rfl)) ⟨Cgi,sB⟩ (Dd 15 zZ5 rfl ⟨Cgj e f,sB⟩ rfl (Yld.o (Cp (v:=.bool (decide ((Gz (Bw (Bv S)) (Bw (Bv C)))>=0))) rfl)) ⟨Cgi,sB⟩ (Sr rfl (kk G ?_))));refine Bp (t:=decide ((Gz (Bw (Bv S)) (Bw (Bv C)))>=0)) rfl (fun k=>?_) (fun k=>?_)
   ·have q:=lZ2 k;refine Aj (Cgg (Cgj e f)) (Aq (g ?_));have hT:Gv (Bu b F) lot 0 S C=C:=by unfold Gv;rw[Caz hS hC a c q];rfl
    exact⟨rfl,by rw[hT]<;>rfl⟩
   have q:=lZ1 k;refine Al (kk m ?_);refine qA fun YQ J=>Au (iV (Bu b F S)) (Au (.int .u64 (S:Int)) (Cx rfl (Cz (j:=1) (v:=iV (Bu b F S)) ty3.2 rfl rfl rfl rfl nL ?_)));refine Cx rfl (Cz (j:=0) (v:=.int .u64 (S:Int)) Zt.2 rfl rfl rfl rfl nL ?_);refine l_k J (Aj (Cgg (Cgj e f)) (Aq (g ?_)));have hT:Gv (Bu b F) lot 0 S C=S:=by unfold Gv;rw[Cbc hS hC a c q];rfl
   exact⟨rfl,by rw[hT]<;>rfl⟩
  have T:=Jq c;refine Hn 8 zZ8 rfl ⟨Cgi,sB⟩ (gN rfl c) (Hn 10 [o1,o1,o1,o1,o1,o1,o1,o1,o1,o0,o1,o0,o0,o0,o0,o0] rfl ⟨Cgi,sB⟩ (gN rfl c) (Hn 9 zZ0 rfl ⟨Cgi,sB⟩ (gN rfl c) (Hn 11 zZ1 rfl ⟨Cgi,sB⟩ (gN rfl c) (Hn 12 zZ2 rfl ⟨Cgi,sB⟩ (gN rfl c) (Hn 13 zZ3 rfl ⟨Cgi,sB⟩ (gN rfl c) (Dd 14 zZ4 rfl ⟨Cgi,sB⟩ rfl (Yld.o (Bn rfl c (v:=bF) rfl)) ⟨Cgi,sB⟩ (Dd 15 zZ5 rfl ⟨Cgi,sB⟩ rfl (Yld.o (Cp (v:=bF) rfl)) ⟨Cgi,sB⟩ (Sr rfl (kk G ?_)))))))));refine Cg rfl rfl (Al (kk m ?_));refine qA fun ZQ K=>Au (iV (Bu b F S)) (Au (.int .u64 (S:Int)) (Cx rfl (Cz (j:=1) (v:=iV (Bu b F S)) ty3.2 rfl rfl rfl rfl nL ?_)));refine Cx rfl (Cz (j:=0) (v:=.int .u64 (S:Int)) Zt.2 rfl rfl rfl rfl nL ?_);refine l_k K (Aq (g ?_));have hT:Gv (Bu b F) lot 0 S C=S:=by unfold Gv;rw[Cbb hS hC a p c];rfl
  exact⟨rfl,by rw[hT]<;>rfl⟩
 have R:=Jq a;refine Ap (gN rfl a) (Ap (gN rfl a) (Aa (qF d) (Bn rfl a (v:=bF) rfl) (l_v (Bn rfl d (v:=bF) rfl) (Av bF (l_k n (Cg rfl rfl (Ai fun a0 L=>Ot ((rc,oC #[.int .u64 (C:Int)] 98)::((rb,oC #[iV (Bu b F C)] 3)::[])) [0,1,2,3,4,5,6,7,8,9,10,11,12,13,14,15] (by kernel_rfl) rfl rfl (Dr 0 Anr rfl ⟨Cgi,sB⟩ rfl (Yld.o (Ah (v:=iV (Bu b F S)) rfl)) (Dd 1 Anw rfl ⟨Cgi,sB⟩ rfl (Eo (v:=iV (Bu b F C)) ty3.1 rfl (lZ0 _ mC) rfl) ⟨Cgi,sB⟩ (Dd 2 Anx rfl ⟨Cgi,sB⟩ rfl (Yld.o (Ek rfl rfl)) ⟨Cgi,sB⟩ (Dd 3 Anz rfl ⟨Cgi,sB⟩ rfl (Yld.o (Ah (v:=.bool ((Bu b F S)==(Bu b F C))) rfl)) ⟨Cgi,sB⟩ (Hn 4 Aoa rfl ⟨Cgi,sB⟩ (gN rfl a) (Hn 5 Aob rfl ⟨Cgi,sB⟩ (gN rfl a) (Dd 6 (zT 7 9) rfl ⟨Cgi,sB⟩ rfl (Yld.o (Bn rfl a (v:=bF) rfl)) ⟨Cgi,sB⟩ (Dd 7 Akb rfl ⟨Cgi,sB⟩ rfl (Yld.o (Ah (v:=bF) rfl)) ⟨Cgi,sB⟩ (Hn 8 zZ8 rfl ⟨Cgi,sB⟩ (gN rfl rfl) (Hn 10 [o1,o1,o1,o1,o1,o1,o1,o1,o1,o0,o1,o0,o0,o0,o0,o0] rfl ⟨Cgi,sB⟩ (gN rfl rfl) (Hn 9 zZ0 rfl ⟨Cgi,sB⟩ (gN rfl rfl) (Hn 11 zZ1 rfl ⟨Cgi,sB⟩ (gN rfl rfl) (Hn 12 zZ2 rfl ⟨Cgi,sB⟩ (gN rfl rfl) (Hn 13 zZ3 rfl ⟨Cgi,sB⟩ (gN rfl rfl) (Dd 14 zZ4 rfl ⟨Cgi,sB⟩ rfl (Yld.o (Bn rfl rfl (v:=bF) rfl)) ⟨Cgi,sB⟩ (Dd 15 zZ5 rfl ⟨Cgi,sB⟩ rfl (Yld.o (Cp (v:=bF) rfl)) ⟨Cgi,sB⟩ (Sr rfl (kk L ?_)))))))))))))))))))))))));refine Cg rfl rfl (Al (kk m ?_));refine qA fun a1 N=>Au (iV (Bu b F S)) (Au (.int .u64 (S:Int)) (Cx rfl (Cz (j:=1) (v:=iV (Bu b F S)) ty3.2 rfl rfl rfl rfl nL ?_)));refine Cx rfl (Cz (j:=0) (v:=.int .u64 (S:Int)) Zt.2 rfl rfl rfl rfl nL ?_);refine l_k N (Aq (g ?_));have hT:Gv (Bu b F) lot 0 S C=S:=by unfold Gv;rw[Cba u a];rfl
 exact⟨rfl,by rw[hT]<;>rfl⟩
theorem Bxc{b:LBook}{F lot k S C rc rb:Nat}{vc vf vl vt:Value}(ok:LotsOk b)(hc:At Y vc (Ptr.mk (⟨b,frD b⟩:Cel):Ptr Cel))(hf:At Y vf (UW.mk F))(hl:At Y vl (lot:Int))(ht:At Y vt (RawV.mk (.func (.func 85) #[] #[vc,vf,pV rc,pV rb,vl,vt])))(hF:F<2^63)(hS:S<256)(hC:C<256)(hk:k<8)(ih:∀{Y:Ro} {Z:Own} {S C:Nat},At Y vc (Ptr.mk (⟨b,frD b⟩:Cel):Ptr Cel)->At Y vf (UW.mk F)->At Y vl (lot:Int)->At Y vt (RawV.mk (.func (.func 85) #[] #[vc,vf,pV rc,pV rb,vl,vt]))->S<256->C<256->CallsH (CX mn X) 85 #[iV ((k:Int)-1),.int .u64 (S:Int),vc,vf,pV rc,pV rb,vl,vt] Y ((rc,oC #[.int .u64 (C:Int)] 98)::(rb,oC #[iV (Bu b F C)] 3)::Z) (fun w Y' Z'=>Y'=Y/\Z'=(rc,oC #[.int .u64 (((Gv (Bu b F) lot k S C):Nat):Int)] 98)::(rb,oC #[iV (Bu b F (Gv (Bu b F) lot k S C))] 3)::Z)):CallsH (CX mn X) 85 #[iV k,.int .u64 (S:Int),vc,vf,pV rc,pV rb,vl,vt] Y ((rc,oC #[.int .u64 (C:Int)] 98)::((rb,oC #[iV (Bu b F C)] 3)::Z)) (fun w Y' Z'=>Y'=Y/\Z'=(rc,oC #[.int .u64 (((Gv (Bu b F) lot (k+1) S C):Nat):Int)] 98)::(rb,oC #[iV (Bu b F (Gv (Bu b F) lot (k+1) S C))] 3)::Z):=by
 have hsh:=Zc (n:=k) (by omega);refine Bq 79 [] Cfj rfl fun Q b6 x=>Azs (qD fun K1 K2 R W=>Au (iV k) (l_v (Da rfl rfl) (l_k W (Cg rfl (lZ6 (by omega)) (Al (kk R ?_))))));refine Ai fun K3 k3=>Bqo (kk k3 ?_);refine qA fun K4 k4=>Au (iV k) (l_v (Md (p:=1) (q:=k) rfl rfl rfl (by omega) (z:=(((1 <<< k):Nat):Int)) hsh.1) (Arv (Bi (α:=UW) (xs:=[UW.mk 0,UW.mk (1 <<< k)]) (vs:=[.int .u64 0,.int .u64 (((1 <<< k):Nat):Int)]) Cfe Zt Aai rfl (by decide) (Dk (os:=[.const (.int .u64 0),.tmp 57]) ⟨rfl,rfl,trivial⟩) ⟨Rq.2 rfl,Rq.2 rfl,trivial⟩ rfl (by decide) fun B J E=>?_)));have d:Grow Y 98 (.slice (some ⟨B,0,none⟩) 2 2) ([UW.mk 0,UW.mk (1 <<< k)]:List UW) [(B,oC J.toArray 98)]:=Bs E rfl (by decide);have g6:=Grow.len d;refine l_v (Ajw (el':=98) Cfe rfl d) (Au (iV 0) (l_k k4 (Ao (Bjl (Wb (qA fun K7 k7=>l_v (Da rfl rfl) (Asa k7 fun K8 k8=>Co rfl rfl (Al (kk k8 ?_)))))))));refine Ai fun K9 D=>Ao (Ai fun af T=>Hc d fun bf c j=>?_);replace hc:=At.mono c hc;replace hf:=At.mono c hf;replace hl:=At.mono c hl;replace ht:=At.mono c ht;refine Ag rfl rfl ?_;obtain⟨G,m⟩:=Ed (xs:=([UW.mk 0,UW.mk (1 <<< k)]:List UW)) (i:=0) (by simp);obtain rfl:(UW.mk 0)=G:=Option.some.inj m;refine Arw (Ch 0 Cfe Zt rfl j (q:=0) rfl rfl m) fun b9 ac=>l_v (Aga Zt rfl ac) (Av (.int .u64 0) (Ary rfl rfl T fun ag ah U y=>Au (iV k) ?_));have⟨b0,b1⟩:=At.rng hl;refine l_v (Bc ty3 rfl hl) (l_v (Ek rfl rfl) (Au (.bool ((k:Int)==(lot:Int))) (Cn ((k:Int)==(lot:Int)) (fun a=>?_) (fun a=>?_))))
 ·have ab:=Jr a;refine l_M (.int .u64 0) (qF a) rfl (Aa (qF a) (Ek rfl rfl) (l_v (Bt rfl a (v:=bT) rfl) (l_k y (Co rfl rfl (Bx (kk D ?_))))));refine qC (l_v (Fk 1) (Au (iV 1) (Ac ?_)));refine Wb (qA fun ai V=>l_v (Da rfl rfl) (Asa V fun aj YQ=>Co rfl rfl (Al (kk YQ ?_))));refine Ai fun ak ZQ=>Ao (qA fun al a0=>?_);obtain⟨H,t⟩:=Ed (xs:=([UW.mk 0,UW.mk (1 <<< k)]:List UW)) (i:=1) (by simp);obtain rfl:(UW.mk (1 <<< k))=H:=Option.some.inj t;refine Arw (Ch 1 Cfe Zt rfl j (q:=1) rfl rfl t) fun ba ad=>l_v (Aga Zt rfl ad) (Av (.int .u64 (((1 <<< k):Nat):Int)) (qE a0 fun am an a1 a2=>Au (iV k) ?_));have⟨b2,b3⟩:=At.rng hl;refine l_v (Bc ty3 rfl hl) (l_v (Ek rfl rfl) (Au (.bool ((k:Int)==(lot:Int))) (l_M (.int .u64 (((1 <<< k):Nat):Int)) (qF a) rfl (Aa (qF a) (Ek rfl rfl) (l_v (Bt rfl a (v:=.bool ((((1 <<< k):Nat):Int)==0)) rfl) (l_k a2 (Cg rfl Btv (Al (kk a1 ?_)))))))));refine qC (l_v (Lb Acp rfl ht) (Au (iV k) (l_v (Ou rfl rfl (z:=(k:Int)-1) wrE) (Au (.int .u64 (S:Int)) (Au (.int .u64 (((1 <<< k):Nat):Int)) (l_v (Bgc (p:=S) (q:=1 <<< k) rfl rfl (by omega) (by omega)) (Bj (Cgh Arz) (Bj (Cgh Arz) (Arv (Sq (vs:=[iV ((k:Int)-1),.int .u64 (((S ||| (1 <<< k)):Nat):Int)]) (caps:=[vc,vf,pV rc,pV rb,vl,vt]) rfl (ih (S:=S ||| (1 <<< k)) (C:=C) hc hf hl ht (Aul hS (by omega)) hC) Cfj rfl rfl ⟨rfl,rfl,trivial⟩ fun bc bg bj K=>?_))))))))));obtain⟨f,N⟩:=K;replace f:=f.symm;subst f N;refine l_k ZQ (qC (l_v (Fk 2) (Au (iV 2) (Ac ?_))));refine Wb (qA fun ao a3=>l_v (Da rfl rfl) (Asa a3 fun ap b7=>Cg rfl rfl (Aj (Cgg c) (Bx (x ?_)))));have hT:Gv (Bu b F) lot (k+1) S C=Gv (Bu b F) lot k (S ||| 1 <<< k) C:=by rw[Gv,if_pos (by have:=eq_of_beq a;omega)]
  exact⟨rfl,by rw[hT]⟩
 have ab:=Jq a;refine Ap (gN rfl a) (Ap (gN rfl a) (l_v (Bn rfl a (v:=bF) rfl) (l_k y (Cg rfl rfl (Al (kk U ?_))))));refine qC (l_v (Lb Acp rfl ht) (Au (iV k) (l_v (Ou rfl rfl (z:=(k:Int)-1) wrE) (Au (.int .u64 (S:Int)) (Au (.int .u64 0) (l_v (Bgc (p:=S) (q:=0) rfl rfl (by omega) (by omega)) (Bj (Cgh Arz) (Bj (Cgh Arz) (Arv (Sq (vs:=[iV ((k:Int)-1),.int .u64 (((S ||| 0):Nat):Int)]) (caps:=[vc,vf,pV rc,pV rb,vl,vt]) rfl (ih (S:=S ||| 0) (C:=C) hc hf hl ht (by rw[Axu];exact hS) hC) Cfj rfl rfl ⟨rfl,rfl,trivial⟩ fun bd bh bk L=>?_))))))))));obtain⟨g,O⟩:=L;replace g:=g.symm;subst g O;refine l_k D (qC (l_v (Fk 1) (Au (iV 1) (Ac ?_))));refine Wb (qA fun aq a4=>l_v (Da rfl rfl) (Asa a4 fun ar a5=>Co rfl rfl (Al (kk a5 ?_))));refine Ai fun au a6=>Ao (qA fun av a7=>?_);obtain⟨I,u⟩:=Ed (xs:=([UW.mk 0,UW.mk (1 <<< k)]:List UW)) (i:=1) (by simp);obtain rfl:(UW.mk (1 <<< k))=I:=Option.some.inj u;refine Arw (Ch 1 Cfe Zt rfl j (q:=1) rfl rfl u) fun bb ae=>l_v (Aga Zt rfl ae) (Av (.int .u64 (((1 <<< k):Nat):Int)) (qE a7 fun aw ax a8 a9=>Au (iV k) ?_));have⟨b4,b5⟩:=At.rng hl;refine l_v (Bc ty3 rfl hl) (l_v (Ek rfl rfl) (Au (.bool ((k:Int)==(lot:Int))) (Ap (gN rfl a) (Ap (gN rfl a) (l_v (Bn rfl a (v:=bF) rfl) (l_k a9 (Cg rfl rfl (Al (kk a8 ?_)))))))));refine qC (l_v (Lb Acp rfl ht) (Au (iV k) (l_v (Ou rfl rfl (z:=(k:Int)-1) wrE) (Au (.int .u64 (S:Int)) (Au (.int .u64 (((1 <<< k):Nat):Int)) (l_v (Bgc (p:=S) (q:=1 <<< k) rfl rfl (by omega) (by omega)) (Bj (Cgh Arz) (Bj (Cgh Arz) (Arv (Sq (vs:=[iV ((k:Int)-1),.int .u64 (((S ||| (1 <<< k)):Nat):Int)]) (caps:=[vc,vf,pV rc,pV rb,vl,vt]) rfl (ih (S:=S ||| (1 <<< k)) (C:=Gv (Bu b F) lot k (S ||| 0) C) hc hf hl ht (Aul hS (by omega)) (Bcq (by omega) (by rw[Axu];exact hS) hC)) Cfj rfl rfl ⟨rfl,rfl,trivial⟩ fun be bi bl M=>?_))))))))));obtain⟨h,P⟩:=M;replace h:=h.symm;subst h P;refine l_k a6 (qC (l_v (Fk 2) (Au (iV 2) (Ac ?_))));refine Wb (qA fun ay aa=>l_v (Da rfl rfl) (Asa aa fun az b8=>Cg rfl rfl (Aj (Cgg c) (Bx (x ?_)))));have hT:Gv (Bu b F) lot (k+1) S C=Gv (Bu b F) lot k (S ||| 1 <<< k) (Gv (Bu b F) lot k (S ||| 0) C):=by rw[Gv,if_neg (fun e=>by rw[e]at a;simp at a),Axu]
 exact⟨rfl,by rw[hT]⟩
end
section
def Gn(b:LBook)(l:List Int)(k:Int):Int:=orF (Hb b) (orF (Ew l b.fields.length) (if inR k 0 ((b.lots.length:Int)-1) then 0 else 6))
def Anh(b:LBook)(l:List Int)(k:Int)(c:List Int):Int:=orF (Gn b l k) (orF (Ew c b.lots.length) (if k∈c then 0 else 6))
def Im(l:List Int):List Nat:=l.map Int.toNat
def Bnx(b:LBook)(k:Nat):Int:=match b.lots[k]? with|some x=>Cw x|none=>0
theorem Aye{b:LBook}{k:Nat}{x:LLot}(h:b.lots[k]?=some x):Bnx b k=Cw x:=by unfold Bnx;rw[h]
def Gm(b:LBook)(F k:Nat):Span:=⟨Bnx b k-Dm b (Po b.fields.length F) k,Dm b F k⟩
def Qz(b:LBook)(k:Nat):List Span:=(List.range b.fields.length).map fun i=>Gm b (1 <<< i) k
theorem Bwl{b:LBook}{l:List Int}{k:Int}(h:Hb b≠0):Gn b l k=Hb b:=Ry h
theorem Bwm{b:LBook}{l:List Int}{k:Int}(h:Hb b=0)(h1:Ew l b.fields.length≠0):Gn b l k=Ew l b.fields.length:=by unfold Gn;rw[Gr h,Ry h1]
theorem Bwk{b:LBook}{l:List Int}{k:Int}(h:Hb b=0)(h1:Ew l b.fields.length=0)(h2:inR k 0 ((b.lots.length:Int)-1)=false):Gn b l k=6:=by unfold Gn;rw[Gr h,Gr h1,if_neg (by simp[h2])]
theorem Baa{b:LBook}{l:List Int}{k:Int}(h:Hb b=0)(h1:Ew l b.fields.length=0)(h2:inR k 0 ((b.lots.length:Int)-1)=true):Gn b l k=0:=by unfold Gn;rw[Gr h,Gr h1,if_pos h2]
theorem Bch{l:List Int}{n:Nat}(h:Ew l n=0):∃xs:List Nat,l=Bw xs/\(∀a∈xs,a<n)/\xs.Pairwise (·<·):=by
 have key:∀i,i<l.length->Vp l n i=0:=Fx.1 h;have hat:∀(i:Nat) (z:Int),l[i]?=some z->0<=z/\z<n/\∀(m:Int),0<i->l[i-1]?=some m->m<z:=fun i z hz=>by
  have b:=key i (lZ3.1 hz).1;unfold Vp at b;rw[hz]at b;simp only at b;split at b
  ·rename_i hr;have:=Fz.1 hr;split at b
   ·cases b
   ·rename_i hn;refine⟨by omega,by omega,fun m hi hm=>?_⟩;rw[Wx,hm]at hn;simp only[Ame,not_and]at hn;have:=hn hi;omega
  ·cases b
 refine⟨Im l,?_,fun a ha=>?_,?_⟩
 ·unfold Im Bw;rw[Beq]
  conv=>lhs;rw[<-List.map_id l]
  refine Aqr fun z hz=>?_;obtain⟨i,hi⟩:=Td hz;have:=(hat i z hi).1;show z=((z.toNat:Nat):Int);omega
 ·obtain⟨z,hz,rfl⟩:=Jy.1 ha;obtain⟨i,hi⟩:=Td hz;have:=hat i z hi;omega
 ·unfold Im;rw[List.pairwise_map];have lt:∀(d i:Nat) (x y:Int),l[i]?=some x->l[i+d+1]?=some y->x<y:=by
   intro d;induction d with
   | zero=>intro i x y hx hy;exact(hat _ y hy).2.2 x (by omega) hx
   | succ d ih =>
    intro i x y hx hy;have hl:=(lZ3.1 hy).1;have hz:l[i+d+1]?=some l[i+d+1]:=Pw (by omega);have b:=ih i x _ hx hz;have e:=(hat _ y hy).2.2 _ (by omega) (show l[i+(d+1)+1-1]?=some l[i+d+1] from hz);omega
  rw[List.pairwise_iff_getElem];intro i j hi hj hij;have c:=(hat i _ (Pw hi)).1;have:=lt (j-i-1) i l[i] l[j] (Pw hi) (by rw[show i+(j-i-1)+1=j by omega];exact Pw hj);omega
theorem Aah{xs:List Nat}:Im (Bw xs)=xs:=by
 unfold Im Bw;rw[Beq]
 conv=>rhs;rw[<-List.map_id xs]
 exact Aqr fun z _=>rfl
theorem Bup{xs:List Nat}{n:Nat}(hp:xs.Pairwise (·<·))(hb:∀a∈xs,a<n):Ew (Bw xs) n=0:=by
 refine Fb fun i hi=>?_;rw[Fc]at hi;have hx:(Bw xs)[i]?=some ((xs[i]:Nat):Int):=by unfold Bw;rw[Ol,Pw hi];rfl
 have hn:=hb _ (Aqu hi);refine Bcg hx (Fz.2 ⟨by omega,by omega⟩) fun b=>?_;have hi':i-1<xs.length:=by omega
 refine⟨((xs[i-1]:Nat):Int),?_,?_⟩
 ·rw[show ((i:Int)-1).toNat=i-1 by omega];unfold Bw;rw[Ol,Pw hi'];rfl
 ·have:=List.pairwise_iff_getElem.1 hp (i-1) i hi' hi (by omega);omega
def Ds(n s:Nat):List Nat:=(List.range n).filter (Gw s)
theorem Brz{n s:Nat}:(Ds n s).Pairwise (·<·):=List.Pairwise.filter _ List.pairwise_lt_range
theorem Bdi{n s:Nat}:∀a∈Ds n s,a<n:=fun a ha=>by simpa using (Re.1 ha).1
theorem Abm{n s:Nat}:Ew (Bw (Ds n s)) n=0:=Bup Brz Bdi
theorem Bia{n s:Nat}:∀j,(Bf (Ds n s)).testBit j=(decide (j<n)&&s.testBit j):=fun j=>by
 rw[Ng];unfold Ds;by_cases h:j<n
 ·cases hs:s.testBit j with
  | true =>
   have:j∈(List.range n).filter (Gw s):=Re.2 ⟨by simpa using h,by rw[Pz];exact hs⟩;simp[h,this,Bea]
  | false =>
   have:j∉(List.range n).filter (Gw s):=fun hm=>by
    have:=(Re.1 hm).2;rw[Pz,hs]at this;cases this
   rw[show ((List.range n).filter (Gw s)).contains j=false from Alp.2 fun hc=>this (Bea.1 hc)];simp
 ·have:j∉(List.range n).filter (Gw s):=fun hm=>h (by simpa using (Re.1 hm).1);rw[show ((List.range n).filter (Gw s)).contains j=false from Alp.2 fun hc=>this (Bea.1 hc)];simp[h]
theorem Asg{x n:Nat}(h:x<2^n)(h8:n<=8):Bv x=Ds n x:=Adn h h8
theorem Bib{x:Nat}(h:x<256):Bf (Bv x)=x:=by rw[<-Rx h];exact Abh (by omega)
theorem Bcj{x n:Nat}(h:x<2^n)(h8:n<=8):Ew (Bw (Bv x)) n=0:=by rw[Asg h h8];exact Abm
theorem Bny{x k:Nat}(h:x<256)(hk:x.testBit k=true):(k:Int)∈Bw (Bv x):=by refine Jy.2 ⟨k,?_,rfl⟩;have a:k<8:=Bac (k:=8) h hk;rw[Asg (n:=8) h (by omega)];exact Re.2 ⟨by simpa using a,by rw[Pz];exact hk⟩
theorem Bcc{b:LBook}{l c:List Int}{k:Int}(h:Gn b l k=0)(h1:Ew c b.lots.length=0)(h2:k∈c):Anh b l k c=0:=by unfold Anh;rw[Gr h,Gr h1,if_pos h2]
section
variable{b:LBook}{k s t:Nat}{x:LLot}
theorem Afn(h0:Hb b=0)(hk:k<b.lots.length):Gn b (Bw (Ds b.fields.length s)) k=0:=Baa h0 Abm (Fz.2 ⟨by omega,by omega⟩)
theorem Adz(ok:LotsOk b)(hx:b.lots[k]?=some x)(F:Nat):Ma b F k<256:=Nx (Aae hx F).2 (Apd (by omega) ok.nl:2^b.lots.length<=2^8)
theorem Blb(h0:Hb b=0)(hx:b.lots[k]?=some x)(F:Nat):Anh b (Bw (Ds b.fields.length s)) k (Bw (Bv (Ma b F k)))=0 :=
 Bcc (Afn h0 (lZ3.1 hx).1) (Bcj (Aae hx F).2 (Tq h0).nl) (Bny (Adz (Tq h0) hx F) (Aae hx F).1)
theorem Blc:(t ||| 1 <<< k).testBit k=true:=by rw[Alw,Wl];simp
theorem Bhe(h0:Hb b=0)(hk:k<b.lots.length):Anh b (Bw (Ds b.fields.length s)) k (Bw (Ds b.lots.length (t ||| 1 <<< k)))=0 :=
 Bcc (Afn h0 hk) Abm (Jy.2 ⟨k,Re.2 ⟨by simpa using hk,by rw[Pz];exact Blc⟩,rfl⟩)
theorem Ath{n s:Nat}:Bf (Ds n s)<2^n:=Sl Bdi
theorem Bla(ok:LotsOk b)(hx:b.lots[k]?=some x)(F:Nat):Bu b F (Bf (Bv (Ma b F k)))=Dm b F k:=by rw[Bib (Adz ok hx F)];rfl
theorem Bkx{n s:Nat}(h:n<=8):(elems (Bf (Ds n s))).length=(Ds n s).length:=by have hs:(Ds n s).Sublist (List.range 16):=List.filter_sublist.trans (List.range_sublist.2 (by omega));rw[Tl hs]
theorem Bky(ok:LotsOk b)(hx:b.lots[k]?=some x)(F:Nat):Dm b F k<=Bu b F (Bf (Ds b.lots.length (t ||| 1 <<< k))) /\
  (Bu b F (Bf (Ds b.lots.length (t ||| 1 <<< k)))=Dm b F k->(Bv (Ma b F k)).length<=(Ds b.lots.length (t ||| 1 <<< k)).length):=by have hk:=(lZ3.1 hx).1;have h:=Ams hx (F:=F) (D:=Bf (Ds b.lots.length (t ||| 1 <<< k))) Ath (by rw[Bia,Blc];simp[hk]);refine⟨h.1,fun e=>?_⟩;have a:=h.2 e;rw[Bkx ok.nl,Rx (Adz ok hx F)]at a;exact a
theorem Iz:(Qz b k).length=b.fields.length:=by unfold Qz;simp
theorem Bdk{i:Nat}{z:Span}(h:(Qz b k)[i]?=some z):z=Gm b (1 <<< i) k:=by
 unfold Qz at h;rw[Ol]at h;cases hr:(List.range b.fields.length)[i]? with
 | none=>rw[hr]at h;cases h
 | some j =>
  rw[hr]at h;have:j=i:=by
   obtain⟨c,a⟩:=lZ3.1 hr;rw[<-a,Bmz]
  rw[<-this];exact(Option.some.inj h).symm
theorem Azf(hx:b.lots[k]?=some x)(F:Nat):(Gm b F k).low=Auf b (Cw x) F k:=by unfold Gm Auf;rw[Aye hx]
theorem Bfu(ok:LotsOk b)(hx:b.lots[k]?=some x)(F:Nat):0<=(Gm b F k).low/\(Gm b F k).low<=(Gm b F k).high/\(Gm b F k).high<=Cw x:=by rw[Azf hx];exact Bso ok hx F
end
def Bto(b:LBook)(k n:Nat):Int:=Df n fun i=>(Gm b (1 <<< i) k).low
def Bdt(b:LBook)(k n:Nat):Int:=Df n fun i=>(Gm b (1 <<< i) k).high
theorem Pp{b:LBook}{k:Nat}{x:LLot}(ok:LotsOk b)(hx:b.lots[k]?=some x):Bto b k b.fields.length<=Cw x/\Cw x<=Bdt b k b.fields.length:=by have h:=Blg ok hx;unfold Bto Bdt;have e:(fun i=>(Gm b (1 <<< i) k).low)=fun i=>Auf b (Cw x) (1 <<< i) k:=funext fun i=>Azf hx _;rw[e];exact h
end
section
theorem Atq{l:List ByteArray}{s:ByteArray}:(Ic l s).isSome=true↔0<=Aht l s:=by
 rw[Rd];unfold Ic;by_cases h:s∈l
 ·rw[Ado h];simp[h]
 ·rw[Ait h];simp[h,Amy]
theorem Blo{l:List ByteArray}{i:Nat}{s:ByteArray}(h:l[i]?=some s)(hn:Hg s=true)(hf:Aht (l.take i) s>=0):Jw l i=5:=Uk h (Auj hn (Atq.2 hf))
theorem Bln{l:List ByteArray}{i:Nat}{s:ByteArray}(h:l[i]?=some s)(hn:Hg s=false):Jw l i=4:=Uk h (Aui hn)
theorem Blm{l:List ByteArray}{i:Nat}{s:ByteArray}(h:l[i]?=some s)(hn:Hg s=true)(hf:¬Aht (l.take i) s>=0):Jw l i=0:=Uk h (Bfa hn (Alp.2 fun h'=>hf (Atq.1 h')))
section
variable{b:LBook}{i k:Nat}{x y:LLot}{p:LPart}{s:ByteArray}{fs:List ByteArray}{l:List LLot}
theorem Aph:(Jd (Ic fs) l s).isSome=true↔Aht fs s>=0∨En l s>=0:=by
 have c:En l s>=0↔s∈Fj l:=Rd;rw[c];constructor
 ·intro h;rcases Agq h with a|a
  ·exact .inl (Atq.1 a)
  ·exact .inr a
 ·intro h;cases hm:(Jd (Ic fs) l s).isSome with
  | true=>rfl
  | false =>
   obtain⟨a,b⟩:=Arg hm;rcases h with h|h
   ·rw[Atq.2 h]at b;cases b
   ·exact absurd h a
theorem Apj(h1:¬Aht fs s>=0)(h2:¬En l s>=0):(Jd (Ic fs) l s).isSome=false:=Alp.2 fun h=>(Aph.1 h).elim h1 h2
theorem Btn(h5:b.fields.length<=5)(hf:∀j,j<b.fields.length->Jw b.fields j=0)(h8:b.lots.length<=8)(hl:∀j,j<i->Nz b j=0):LotsOk ⟨b.fields,b.lots.take i⟩:=by refine Tq (Yx h5 (Fb hf) (by show (b.lots.take i).length<=8;rw[Ha];omega) (Fb fun j hj=>?_));replace hj:j<(b.lots.take i).length:=hj;rw[Ha]at hj;have:=hl j (by omega);unfold Nz at this ⊢;show (match (b.lots.take i)[j]? with|some x=>Agp (Jd (Ic b.fields) ((b.lots.take i).take j)) (tkM ((b.lots.take i).take j)) x|none=>0)=0;rw[Adr (by omega),List.take_take,Aud (by omega)];exact this
theorem Bqb{s:ByteArray}:∀{ps:List LPart},(∀q∈ps,q.of_≠s)->Tc s ps=0
 | [],_=>rfl
 | p::ps,h=>by rw[Tc,if_neg (fun e=>h p mC e.symm),Bqb fun q hq=>h q (lZ0 _ hq)];rfl
theorem Bnm(ok:LotsOk b){j:Nat}(hy:b.lots[j]?=some y):y.name∉Fj (b.lots.drop (j+1)):=fun hm=>by
 unfold Fj at hm;obtain⟨z,hz,hzn⟩:=Jy.1 hm;obtain⟨t,ht⟩:=Td hz;rw[Agl]at ht;refine(ok.lnm _ z ht).2.2.1 ?_;rw[hzn];unfold Fj;exact Jy.2 ⟨y,lZ5 (i:=j) (by rw[Adr (by omega)];exact hy),rfl⟩
theorem Bex(ok:LotsOk b){j:Nat}(hy:b.lots[j]?=some y)(f:Je):Jd f b.lots y.name=some (Cw y):=by
 have e:b.lots=b.lots.take j++y::b.lots.drop (j+1):=by rw[<-Awf hy,Aba]
 rw[e];exact Ayd (Bnm ok hy)
theorem Ady(h:0<=En l s):∃y,l[(En l s).toNat]?=some y/\y.name=s:=by
 have a:(Fj l)[(En l s).toNat]?=some s:=Adl h;unfold Fj at a;rw[Ol]at a;cases hy:l[(En l s).toNat]? with
 | none=>rw[hy]at a;cases a
 | some y=>rw[hy]at a;exact⟨y,rfl,Option.some.inj a⟩
theorem Bwe{ps:List LPart}(hs:Ib ps s=false):(tkP (tkM l) ps s).getD 0=tkO s l:=by rw[Ajb];unfold tkM;rw[Aut,Bqb (Bfr hs)];simp[Amy]
theorem Bfk(ok:LotsOk ⟨fs,l⟩){ps:List LPart}(hs:Ib ps p.of_=false)(hr:inR p.grams 1 100000=true)(hx:En l p.of_>=0)(hy:l[(En l p.of_).toNat]?=some y)(h:tkO p.of_ l+p.grams>Cw y):Sz (Jd (Ic fs) l) (tkM l) ps p=8:=by
 obtain⟨y',hy',hn⟩:=Ady hx;rw[hy]at hy';cases hy';have hm:=Bex ok hy (Ic fs);rw[hn]at hm;refine Bew (Aph.2 (.inr hx)) hs hr ?_ ?_
 ·rw[show Jd (Ic fs) l p.of_=some (Cw y) from hm];exact(Qn ok hy).1
 ·rw[show Jd (Ic fs) l p.of_=some (Cw y) from hm,Bwe hs];exact h
theorem Ayl(ok:LotsOk ⟨fs,l⟩){ps:List LPart}(hs:Ib ps p.of_=false)(hr:inR p.grams 1 100000=true)(hx:En l p.of_>=0)(hy:l[(En l p.of_).toNat]?=some y)(h:¬tkO p.of_ l+p.grams>Cw y):Sz (Jd (Ic fs) l) (tkM l) ps p=0:=by obtain⟨y',hy',hn⟩:=Ady hx;rw[hy]at hy';cases hy';have hm:=Bex ok hy (Ic fs);rw[hn]at hm;refine Aiv (Aph.2 (.inr hx)) hs hr fun _=>?_;rw[show Jd (Ic fs) l p.of_=some (Cw y) from hm,Bwe hs];exact Int.not_lt.1 h
theorem Ayk{m':Je}{ps:List LPart}(hs:Ib ps p.of_=false)(hr:inR p.grams 1 100000=true)(hx:¬En l p.of_>=0)(hf:Aht fs p.of_>=0):Sz (Jd (Ic fs) l) m' ps p=0:=by refine Aiv (Aph.2 (.inl hf)) hs hr fun h=>?_;exfalso;rw[Aiu (fun hm=>hx (Rd.2 hm))]at h;unfold Ic at h;rw[Ado (Rd.1 hf)]at h;simp at h
end
theorem Bco{s:ByteArray}:∀{l:List LLot},(∀x∈l,x.parts.length<=6/\∀p∈x.parts,1<=p.grams/\p.grams<=100000)->0<=tkO s l/\tkO s l<=600000*(l.length:Int)
 | [],_=>⟨Xy _,Xy _⟩
 | x::l,h=>by
  have ih:=Bco (s:=s) fun z hz=>h z (lZ0 _ hz);obtain⟨c,hg⟩:=h x mC;have key:∀{ps:List LPart},(∀p∈ps,1<=p.grams/\p.grams<=100000)->0<=Tc s ps/\Tc s ps<=100000*(ps.length:Int):=by
   intro ps;induction ps with
   | nil=>intro _;exact⟨Xy _,Xy _⟩
   | cons p ps ih =>
    intro h;have a:=h p mC;have b:=ih fun q hq=>h q (lZ0 _ hq);rw[Tc,Gk];split<;>omega
  have:=key hg;rw[tkO,Gk];omega
theorem Ue{b:LBook}(ok:LotsOk b):∀x∈b.lots,x.parts.length<=6/\∀p∈x.parts,1<=p.grams/\p.grams<=100000:=fun x hx=>by
 obtain⟨i,hi⟩:=Td hx;refine⟨(ok.lnm i x hi).2.2.2.2,fun p hp=>?_⟩;obtain⟨k,hk⟩:=Td hp;have:=ok.prt i x k p hi hk;exact⟨this.2.2.1,this.2.2.2.1⟩
theorem Ask{s:ByteArray}{l:List LPart}{i:Nat}{p:LPart}(h:l[i]?=some p):Tc s (l.take (i+1))=Tc s (l.take i)+(if s=p.of_ then p.grams else 0):=by
 have app:∀{a c:List LPart},Tc s (a++c)=Tc s a+Tc s c:=by
  intro a c;induction a with
  | nil=>simp[Tc]
  | cons q a ih=>rw[Te,Tc,Tc,ih];omega
 rw[Xu,h,app];simp[Tc]
theorem Bqe{s:ByteArray}{l:List LLot}{i:Nat}{x:LLot}(h:l[i]?=some x):tkO s (l.take (i+1))=tkO s (l.take i)+Tc s x.parts:=by
 have app:∀{a c:List LLot},tkO s (a++c)=tkO s a+tkO s c:=by
  intro a c;induction a with
  | nil=>simp[tkO]
  | cons q a ih=>rw[Te,tkO,tkO,ih];omega
 rw[Xu,h,app];simp[tkO]
theorem Cdg{a b:ByteArray}(h:(a.toList==b.toList)=true):b=a:=(toList_eq (eq_of_beq h)).symm
theorem Cdf{a b:ByteArray}(h:(a.toList==b.toList)=false):b≠a:=fun e=>by rw[e]at h;simp at h
end
section
theorem Ban{mn:Bool}{X:Frame->List Frame->Ro->Own->Cy->Prop}{b:LBook}{F lot rc rb:Nat}{vc vf vl vt:Value}(ok:LotsOk b)(hF:F<2^63):∀{k:Nat},k<=8->∀{Y:Ro} {Z:Own} {S C:Nat},At Y vc (Ptr.mk (⟨b,frD b⟩:Cel):Ptr Cel)->At Y vf (UW.mk F)->At Y vl (lot:Int)->At Y vt (RawV.mk (.func (.func 85) #[] #[vc,vf,pV rc,pV rb,vl,vt]))->S<256->C<256->CallsH (CX mn X) 85 #[iV ((k:Int)-1),.int .u64 (S:Int),vc,vf,pV rc,pV rb,vl,vt] Y ((rc,oC #[.int .u64 (C:Int)] 98)::(rb,oC #[iV (Bu b F C)] 3)::Z) (fun w Y' Z'=>Y'=Y/\Z'=(rc,oC #[.int .u64 (((Gv (Bu b F) lot k S C):Nat):Int)] 98)::(rb,oC #[iV (Bu b F (Gv (Bu b F) lot k S C))] 3)::Z)
 | 0,_=>fun hc hf hl ht hS hC=>Bxb ok hc hf hl ht hF hS hC
 | k+1,hk=>by
  intro hc hf hl ht hS hC;have e:(((k+1:Nat):Int)-1)=(k:Int):=by omega
  rw[e];exact Bxc ok hc hf hl ht hF hS hC (by omega) (fun hc hf hl ht hS hC=>Ban ok hF (k:=k) (by omega) hc hf hl ht hS hC)
theorem Bqv:Fw Tryz.prog 201 .nilFunc:=⟨_,Ab Tryz.typeInfo201,rfl⟩
abbrev Bqr:List Value:=[.nilFunc]
theorem Afl{α:Type}[BEq α]{a c:α}{v:Bool}(h:(a==c)=v):(a != c) = !v:=by show (!(a==c))=_;rw[h]
theorem Bty{N F:Nat}(h:N<=5):Po N F<32/\2^N-1<32:=by have a:2^N-1<2^5:=Nx (Nat.sub_lt (Nat.two_pow_pos N) (by omega)) (Apd (by omega) h);exact⟨Nat.xor_lt_two_pow (n:=5) a (Bbp Amf a),a⟩
theorem Anc{b:LBook}{i:Nat}{x:LLot}(ok:LotsOk b)(hx:b.lots[i]?=some x):∀p∈x.parts,0<=p.grams/\p.grams<=100000:=fun p hp=>by
 obtain⟨k,hk⟩:=Td hp;have:=ok.prt i x k p hx hk;omega
variable{mn:Bool}{X:Frame->List Frame->Ro->Own->Cy->Prop}{Y:Ro}{Z:Own}
theorem Atf{b:LBook}{F k:Nat}{vc:Value}(ok:LotsOk b)(hc:At Y vc (⟨b,frD b⟩:Cel))(hF:F<2^63)(hk:k<b.lots.length):CallsH (CX mn X) 51 #[vc,.int .u64 (F:Int),iV k] Y Z (rP Y Z (.tuple #[iV (Dm b F k),.int .u64 (((Ma b F k):Nat):Int)])):=by
 have hnl:=ok.nl;have hsh:=Zc (n:=k) (by omega);refine Bq 30 [6,7] Cga rfl fun Q N az=>qA fun K1 k1=>Arv (Ox (v:=vc) rfl fun f=>?_);refine Bb (a:=Ptr.mk (⟨b,frD b⟩:Cel)) (Ir.2 hc) fun bb P d=>Arv (Ox (v:=.int .u64 (F:Int)) rfl fun g=>?_);refine Bb (a:=UW.mk F) (Rq.2 rfl) fun bd M m=>?_;replace d:=At.mono M d;refine Arv (Ox (v:=iV k) rfl fun h=>?_);refine Bb (a:=(k:Int)) (Cv.2 ⟨rfl,by constructor<;>omega⟩) fun bf G e=>?_
 replace d:=At.mono G d;replace m:=At.mono G m;refine Av (iV 0) (Av (.int .u64 0) (Asa k1 fun K5 O=>Xp (Fd 0 (zT 1 6) rfl (Ax Auw rfl d) fun v6 J=>?_)));replace J:=Ir.1 J;refine Dy 1 (zT 2 5) rfl (Aga Zt rfl m) ?_;have⟨ax,ay⟩:=At.rng e;refine Dy 2 (zT 3 4) rfl (Bc ty3 rfl e) (Dy 3 (zT 4 3) rfl (Md (p:=1) (q:=k) rfl rfl rfl (by omega) (z:=(((1 <<< k):Nat):Int)) hsh.1) (Acq (i:=4) (j:=5) (zT 5 2) [o1,o1,o1,o1,o0,o1,o0] rfl rfl (by kernel_rfl) rfl rfl rfl rfl ?_ ?_))
 ·refine Bm (vs:=[v6,.int .u64 (F:Int),.int .u64 (((1 <<< k):Nat):Int)]) (v:=iV (Bu b F (1 <<< k))) (Acy ok J (by omega) (by omega)) Cfs rfl rfl ⟨rfl,rfl,rfl,trivial⟩ ⟨Cgi,?_⟩;refine Qw 5 (zT 6 1) rfl (Ct zr3 fun x=>⟨Cgi,?_⟩);refine Zk 6 (zT 7 0) rfl (Cz (j:=0) (v:=iV (Bu b F (1 <<< k))) ty3.2 rfl rfl rfl rfl nL ⟨Cgi,?_⟩);refine Ec rfl (kk O ?_);refine qA fun af a1=>?_;have⟨ap,aq⟩:=At.rng e;refine l_v (Bc ty3 rfl e) (l_v (Md (p:=1) (q:=k) rfl rfl rfl (by omega) (z:=(((1 <<< k):Nat):Int)) hsh.1) (Arv (Ct Aai fun t=>?_)));refine Cx rfl (Cz (j:=0) (v:=.int .u64 (((1 <<< k):Nat):Int)) Zt.2 rfl rfl rfl rfl nL ?_);refine qB a1 fun ag a2=>Arv (Ct Bqv fun y=>?_);refine qB a2 fun ah a3=>l_v (Il (fn:=.func 85) (caps:=[.tmp 3,.tmp 4,.tmp 9,.tmp 8,.tmp 5,.tmp 10]) (vs:=[pV f,pV g,pV t,pV x,pV h,pV y]) ⟨rfl,rfl,rfl,rfl,rfl,rfl,trivial⟩) (Cx rfl (Dv (v:=.func (.func 85) #[] #[pV f,pV g,pV t,pV x,pV h,pV y]) (a:=RawV.mk (.func (.func 85) #[] #[pV f,pV g,pV t,pV x,pV h,pV y])) (c:=Bqr) Acp rfl rfl (Sp rfl) rfl ?_));refine Bb (a:=RawV.mk (.func (.func 85) #[] #[pV f,pV g,pV t,pV x,pV h,pV y])) (Sp rfl) fun ba D R=>?_;replace d:=At.mono D d;replace m:=At.mono D m;replace e:=At.mono D e;refine Asa a3 fun ai a4=>Xp (Dy 0 zZ9 rfl (Lb Acp rfl R) (Hy 1 Ajy rfl (Ax Auw rfl d) fun b0 H=>?_));replace H:=Ir.1 H;refine Cr 2 Ajz rfl (Hj rfl H) (Hy 3 (zT 4 5) rfl (Ba Cel.f_b Cet rfl Mk H) fun b1 ab=>Hy 4 (zT 5 4) rfl (Ba LBook.f_lots Cec rfl Ee ab) fun b2 ac=>Hy 5 (zT 6 3) rfl (Ax Ee rfl ac) fun b3 T=>?_);have ar:=Val.len T;refine Cr 6 Aka rfl (Ci (el:=51) Cee rfl T) (Cr 7 zZ6 rfl (Ou rfl rfl (z:=(b.lots.length:Int)-1) wrE) (Ej (Cgh Arz) id (Ej (Cgh Arz) id (Qw 8 zZ7 rfl (Sq (vs:=[iV ((b.lots.length:Int)-1),.int .u64 0]) (caps:=[pV f,pV g,pV t,pV x,pV h,pV y]) rfl (Ban ok hF (k:=b.lots.length) (lot:=k) (S:=0) (C:=1 <<< k) hnl d m e R (by decide) hsh.2) Cfj rfl rfl ⟨rfl,rfl,trivial⟩ fun b8 bc bh W=>?_)))));obtain⟨K,ZQ⟩:=W;replace K:=K.symm;subst K ZQ;refine⟨Cgi,?_⟩;refine Ec rfl (kk a4 ?_);refine Ai fun aj a5=>Ot ((t,oC #[.int .u64 (((Gv (Bu b F) k b.lots.length 0 (1 <<< k)):Nat):Int)] 98)::((x,oC #[iV (Bu b F (Gv (Bu b F) k b.lots.length 0 (1 <<< k)))] 3)::[])) [0,1,2,3] (by kernel_rfl) rfl rfl (Dr 0 [o1,o0,o0,o0] rfl ⟨Cgi,sB⟩ rfl (Eo (v:=iV (Bu b F (Gv (Bu b F) k b.lots.length 0 (1 <<< k)))) ty3.1 rfl (lZ0 _ mC) rfl) (Dr 1 [o1,o1,o0,o0] rfl ⟨Cgi,sB⟩ rfl (Eo (v:=.int .u64 (((Gv (Bu b F) k b.lots.length 0 (1 <<< k)):Nat):Int)) Zt.1 rfl mC rfl) (Dd 2 [o1,o1,o1,o0] rfl ⟨Cgi,sB⟩ rfl (Yld.o (Cp (v:=iV (Bu b F (Gv (Bu b F) k b.lots.length 0 (1 <<< k)))) rfl)) ⟨Cgi,sB⟩ (Dd 3 [o1,o1,o1,o1] rfl ⟨Cgi,sB⟩ rfl (Yld.o (Cp (v:=.int .u64 (((Gv (Bu b F) k b.lots.length 0 (1 <<< k)):Nat):Int)) rfl)) ⟨Cgi,sB⟩ (Sr rfl (kk a5 ?_))))));refine Aj Ghost.drop (Aj Ghost.drop (Aj (Cgg (Cgj (Cgj (Cgj P M) G) D)) (Aq (N ⟨rfl,rfl,Eq.trans (b:=.tuple #[iV (Bu b F (Gv (Bu b F) k b.lots.length 0 (1 <<< k))),.int .u64 (((Gv (Bu b F) k b.lots.length 0 (1 <<< k)):Nat):Int)]) (Mp (r:=6) (r':=7) (rs:=[]) (v:=iV (Bu b F (Gv (Bu b F) k b.lots.length 0 (1 <<< k)))) (v':=.int .u64 (((Gv (Bu b F) k b.lots.length 0 (1 <<< k)):Nat):Int)) (vs:=[]) ⟨rfl,rfl,trivial⟩) ?_⟩))));rfl
 ·refine Ct zr3 fun u=>⟨Cgi,?_⟩;refine Qw 4 (zT 6 1) rfl (Bm (Acy ok J (by omega) (by omega)) Cfs rfl rfl ⟨rfl,rfl,rfl,trivial⟩ ⟨Cgi,?_⟩);refine Zk 6 (zT 7 0) rfl (Cz (j:=0) (v:=iV (Bu b F (1 <<< k))) ty3.2 rfl rfl rfl rfl nL ⟨Cgi,?_⟩);refine Ec rfl (kk O ?_);refine qA fun ak a6=>?_;have⟨au,av⟩:=At.rng e;refine l_v (Bc ty3 rfl e) (l_v (Md (p:=1) (q:=k) rfl rfl rfl (by omega) (z:=(((1 <<< k):Nat):Int)) hsh.1) (Arv (Ct Aai fun w=>?_)));refine Cx rfl (Cz (j:=0) (v:=.int .u64 (((1 <<< k):Nat):Int)) Zt.2 rfl rfl rfl rfl nL ?_);refine qB a6 fun al a7=>Arv (Ct Bqv fun B=>?_);refine qB a7 fun am a8=>l_v (Il (fn:=.func 85) (caps:=[.tmp 3,.tmp 4,.tmp 9,.tmp 8,.tmp 5,.tmp 10]) (vs:=[pV f,pV g,pV w,pV u,pV h,pV B]) ⟨rfl,rfl,rfl,rfl,rfl,rfl,trivial⟩) (Cx rfl (Dv (v:=.func (.func 85) #[] #[pV f,pV g,pV w,pV u,pV h,pV B]) (a:=RawV.mk (.func (.func 85) #[] #[pV f,pV g,pV w,pV u,pV h,pV B])) (c:=Bqr) Acp rfl rfl (Sp rfl) rfl ?_));refine Bb (a:=RawV.mk (.func (.func 85) #[] #[pV f,pV g,pV w,pV u,pV h,pV B])) (Sp rfl) fun be E U=>?_;replace d:=At.mono E d;replace m:=At.mono E m;replace e:=At.mono E e;refine Asa a8 fun an a9=>Xp (Dy 0 zZ9 rfl (Lb Acp rfl U) (Hy 1 Ajy rfl (Ax Auw rfl d) fun b4 I=>?_));replace I:=Ir.1 I;refine Cr 2 Ajz rfl (Hj rfl I) (Hy 3 (zT 4 5) rfl (Ba Cel.f_b Cet rfl Mk I) fun b5 ad=>Hy 4 (zT 5 4) rfl (Ba LBook.f_lots Cec rfl Ee ad) fun b6 ae=>Hy 5 (zT 6 3) rfl (Ax Ee rfl ae) fun b7 V=>?_);have aw:=Val.len V;refine Cr 6 Aka rfl (Ci (el:=51) Cee rfl V) (Cr 7 zZ6 rfl (Ou rfl rfl (z:=(b.lots.length:Int)-1) wrE) (Ej (Cgh Arz) id (Ej (Cgh Arz) id (Qw 8 zZ7 rfl (Sq (vs:=[iV ((b.lots.length:Int)-1),.int .u64 0]) (caps:=[pV f,pV g,pV w,pV u,pV h,pV B]) rfl (Ban ok hF (k:=b.lots.length) (lot:=k) (S:=0) (C:=1 <<< k) hnl d m e U (by decide) hsh.2) Cfj rfl rfl ⟨rfl,rfl,trivial⟩ fun b9 bg bi YQ=>?_)))));obtain⟨L,a0⟩:=YQ;replace L:=L.symm;subst L a0;refine⟨Cgi,?_⟩;refine Ec rfl (kk a9 ?_);refine Ai fun ao aa=>Ot ((w,oC #[.int .u64 (((Gv (Bu b F) k b.lots.length 0 (1 <<< k)):Nat):Int)] 98)::((u,oC #[iV (Bu b F (Gv (Bu b F) k b.lots.length 0 (1 <<< k)))] 3)::[])) [0,1,2,3] (by kernel_rfl) rfl rfl (Dr 0 [o1,o0,o0,o0] rfl ⟨Cgi,sB⟩ rfl (Eo (v:=iV (Bu b F (Gv (Bu b F) k b.lots.length 0 (1 <<< k)))) ty3.1 rfl (lZ0 _ mC) rfl) (Dr 1 [o1,o1,o0,o0] rfl ⟨Cgi,sB⟩ rfl (Eo (v:=.int .u64 (((Gv (Bu b F) k b.lots.length 0 (1 <<< k)):Nat):Int)) Zt.1 rfl mC rfl) (Dd 2 [o1,o1,o1,o0] rfl ⟨Cgi,sB⟩ rfl (Yld.o (Cp (v:=iV (Bu b F (Gv (Bu b F) k b.lots.length 0 (1 <<< k)))) rfl)) ⟨Cgi,sB⟩ (Dd 3 [o1,o1,o1,o1] rfl ⟨Cgi,sB⟩ rfl (Yld.o (Cp (v:=.int .u64 (((Gv (Bu b F) k b.lots.length 0 (1 <<< k)):Nat):Int)) rfl)) ⟨Cgi,sB⟩ (Sr rfl (kk aa ?_))))));refine Aj Ghost.drop (Aj Ghost.drop (Aj (Cgg (Cgj (Cgj (Cgj P M) G) E)) (Aq (N ⟨rfl,rfl,Eq.trans (b:=.tuple #[iV (Bu b F (Gv (Bu b F) k b.lots.length 0 (1 <<< k))),.int .u64 (((Gv (Bu b F) k b.lots.length 0 (1 <<< k)):Nat):Int)]) (Mp (r:=6) (r':=7) (rs:=[]) (v:=iV (Bu b F (Gv (Bu b F) k b.lots.length 0 (1 <<< k)))) (v':=.int .u64 (((Gv (Bu b F) k b.lots.length 0 (1 <<< k)):Nat):Int)) (vs:=[]) ⟨rfl,rfl,trivial⟩) ?_⟩))));rfl
theorem Brs{b:LBook}{F k:Nat}{vc:Value}(ok:LotsOk b)(hc:At Y vc (⟨b,frD b⟩:Cel))(hF:F<2^63)(hk:k<b.lots.length):CallsH (CX mn X) 34 #[vc,.int .u64 (F:Int),iV k] Y Z (fun w Y' Z'=>Ro.le Y Y'/\Z'=Z/\Val Y' w (Gm b F k:Span)):=by
 obtain⟨L,M⟩:=Bty (F:=F) ok.nf;refine Lt (n:=41) (args:=[vc,.int .u64 (F:Int),iV k]) [.cell 6 53] Tryz.func34 rfl rfl rfl rfl fun Q d K=>qA fun C e=>Arv (Ct Aak fun N=>?_);refine qB e fun D f=>Au vc (Au vc (Arv (Cj (Bww ok hc) Tryz.func35 ?_)));refine Au (.int .u64 (F:Int)) (l_v (Bjn (p:=2^b.fields.length-1) (q:=F) rfl rfl (by omega)) (Au (iV k) (Arv (Cj (Atf (F:=Po b.fields.length F) ok hc (by omega) hk) Cga ?_))));refine Au (.tuple #[iV (Dm b (Po b.fields.length F) k),.int .u64 (((Ma b (Po b.fields.length F) k):Nat):Int)]) (l_v (Dp (iV (Dm b (Po b.fields.length F) k))) (l_v (Dp (.int .u64 (((Ma b (Po b.fields.length F) k):Nat):Int))) (Av (iV (Dm b (Po b.fields.length F) k)) (Av (.int .u64 (((Ma b (Po b.fields.length F) k):Nat):Int)) (qB f fun E g=>Au vc (Au (.int .u64 (F:Int)) (Au (iV k) (Arv (Cj (Atf (F:=F) ok hc (by omega) hk) Cga ?_)))))))));refine Au (.tuple #[iV (Dm b F k),.int .u64 (((Ma b F k):Nat):Int)]) (l_v (Dp (iV (Dm b F k))) (l_v (Dp (.int .u64 (((Ma b F k):Nat):Int))) (Av (iV (Dm b F k)) (Av (.int .u64 (((Ma b F k):Nat):Int)) (qB g fun G h=>Au vc (l_v (Hj rfl hc) (Arw (Ba Cel.f_b Cet rfl Mk hc) fun R t=>Arw (Ba LBook.f_lots Cec rfl Ee t) fun T u=>Arw (Ax Ee rfl u) fun U y=>Au (iV k) ?_)))))));obtain⟨a,c⟩:=Ed (xs:=b.lots) (i:=k) (by omega);have H:=(ok.lnm _ _ c).2.2.2.2;have hmb:=Qn ok c;have I:=We ok c (Po b.fields.length F);have J:=We ok c F;refine Arw (Ch k Cee Fm rfl y (q:=(k:Int)) rfl rfl c) fun V B=>Arw (Ax Fm rfl B) fun P j=>Arv (Cj (Ate j (by omega) (Anc ok c)) Cfy ?_);refine Au (iV (Dm b (Po b.fields.length F) k)) (l_v (Ou rfl rfl (z:=(Cw a)-(Dm b (Po b.fields.length F) k)) (Bo (by rfl) (by omega) (by omega))) (Au (iV (Dm b F k)) ?_));have O:Val Y (.agg #[iV ((Cw a)-(Dm b (Po b.fields.length F) k)),iV (Dm b F k)]) (⟨(Cw a)-(Dm b (Po b.fields.length F) k),Dm b F k⟩:Span):=Span.shut (x:=(⟨(Cw a)-(Dm b (Po b.fields.length F) k),Dm b F k⟩:Span)) (iC ((Cw a)-(Dm b (Po b.fields.length F) k))) (iC (Dm b F k));refine l_v (Dn (ns:=[1,1]) (vs:=[(0,(iV ((Cw a)-(Dm b (Po b.fields.length F) k)))),(1,(iV (Dm b F k)))]) (zc:=Arm) (cs:=[iV ((Cw a)-(Dm b (Po b.fields.length F) k)),iV (Dm b F k)]) Cep Aak rfl ⟨ty3.2,ty3.2,trivial⟩ (EvB.map ⟨⟨rfl,rfl⟩,⟨rfl,rfl⟩,trivial⟩) ((Be (cs:=[iV ((Cw a)-(Dm b (Po b.fields.length F) k))]) rfl rfl nL).trans ((Be (cs:=[iV (Dm b F k)]) rfl rfl nL).trans rfl))) (Cx rfl (Li (i:=0) (vs:=[iV ((Cw a)-(Dm b (Po b.fields.length F) k)),iV (Dm b F k)]) (c':=[iV ((Cw a)-(Dm b (Po b.fields.length F) k)),iV (Dm b F k)]) Mx.2 rfl rfl rfl rfl (Zh ⟨rfl,rfl,trivial⟩) rfl nL rfl ?_));refine l_k h (Aq ?_);have m:Val Y (.agg #[iV ((Cw a)-(Dm b (Po b.fields.length F) k)),iV (Dm b F k)]) (⟨(Cw a)-(Dm b (Po b.fields.length F) k),Dm b F k⟩:Span):=Span.shut (x:=(⟨(Cw a)-(Dm b (Po b.fields.length F) k),Dm b F k⟩:Span)) (iC ((Cw a)-(Dm b (Po b.fields.length F) k))) (iC (Dm b F k));refine d _ _ _ _ _ [.agg #[iV ((Cw a)-(Dm b (Po b.fields.length F) k)),iV (Dm b F k)]] ⟨Qh Mx.1 Mx.2 rfl (i:=0) rfl rfl,trivial⟩ Ghost.drop ⟨Cgi,rfl,Abz (v:=.agg #[iV ((Cw a)-(Dm b (Po b.fields.length F) k)),iV (Dm b F k)]) rfl (Val.cast ?_ m)⟩
 ·unfold Gm;rw[Aye c]
theorem Ake{b:LBook}{l:List Int}{k:Int}{vb vl:Value}(rv:Val Y vb b)(rl:Val Y vl l):CallsH (CX mn X) 33 #[vb,vl,iV k] Y Z (fun w Y' Z'=>Ro.le Y Y'/\Z'=Z/\∃p,w=(.tuple #[p,iV (Gn b l k)])/\(Gn b l k=0->At Y' p (⟨b,frD b⟩:Cel))):=by
 refine Bq 34 [6,7] Cfw rfl fun Q h am=>qA fun K1 G=>Arv (Ox (v:=vb) rfl fun k2=>?_);refine Bb (a:=b) rv fun aw g i=>?_;replace rl:=Val.mono g rl;refine Av (.pointer none) (Av (iV 0) (Arx rfl rfl G fun K3 N=>Arw (Ax Mk rfl i) fun v4 r4=>Arv (Cj (Avr r4) Tryz.func16 ?_)));refine Av (iV (Hb b)) (Ary rfl rfl N fun K5 K6 C V=>Au (iV (Hb b)) (l_v (Ek rfl rfl) (l_k V (Bp (t:=(Hb b)==0) rfl (fun d=>?_) (fun d=>?_)))))
 ·have ok:=Tq (eq_of_beq d);have hnf:=ok.nf;have hnl:=ok.nl;have ZQ:=Jr d;refine qC (Au vl (Arw (Ba LBook.f_fields Cec rfl Hw i) fun v8 r8=>Arw (Ax Hw rfl r8) fun v9 E=>?_));have ak:=Val.len E;refine l_v (Ci (el:=9) Ced rfl E) (Arv (Cj (Avw (b:=b.fields.length) rl (by omega)) Tryz.func40 ?_));refine Av (iV (Ew l (b.fields.length:Int))) (Ary rfl rfl C fun a4 a5 n B=>Au (iV (Ew l (b.fields.length:Int))) (l_v (Ek rfl rfl) (Au (.bool ((Ew l (b.fields.length:Int))==0)) (Cn ((Ew l (b.fields.length:Int))==0) (fun c=>?_) (fun c=>?_)))))
  ·have YQ:=Jr c;refine l_M (iV k) (qF c) rfl (Ak (qF c) (Ba LBook.f_lots Cec rfl Ee i) fun au a0=>Ak (qF c) (Ax Ee rfl a0) fun av D=>?_);have al:=Val.len D;refine Aa (qF c) (Ci (el:=51) Cee rfl D) (Aa (qF c) (Ou rfl rfl (z:=(b.lots.length:Int)-1) wrE) (Ae (qF c) (Cj Pq Cff ?_)));refine Aa (qF c) (Iy rfl) (l_v (Bt rfl c (v:=.bool (!(inR k 0 ((b.lots.length:Int)-1)))) rfl) (l_k B (Bp (t:=!(inR k 0 ((b.lots.length:Int)-1))) rfl (fun j=>?_) (fun j=>?_))))
   ·have u:=not_eq_t j;have aq:=Abc.1 u;refine qC (Av (iV 6) (qE n fun a6 a7 an H=>Au (iV 6) (l_v (Dg rfl rfl) (l_k H (Co rfl rfl (qA fun a8 I=>Au (iV 6) (Av (.pointer none) (Av (iV 6) (l_k I (Aq (h ?_)))))))))));have hq:Gn b l k=6:=Bwk (eq_of_beq d) (eq_of_beq c) u;exact⟨g,rfl,_,Eq.trans (Mp (r:=6) (r':=7) (rs:=[]) (v:=.pointer none) (v':=iV 6) (vs:=[]) ⟨rfl,rfl,trivial⟩) (by rw[hq]),fun f=>by rw[hq]at f;cases f⟩
   have y:=Fs j;have ar:=Fz.1 y;refine Al (kk n ?_);refine qD fun a9 aa J K=>Au (iV (Ew l (b.fields.length:Int))) (l_v (Dg rfl rfl) (l_k K (Cg rfl (Afl c) (Al (kk J ?_)))));refine qA fun ab L=>Arw (Ax Mk rfl i) fun a3 a1=>Arv (Cm (vs:=[a3]) (Brp a1 hnl (fun x hx=>(Ue ok x hx).1)) Tryz.func41 rfl rfl ⟨rfl,trivial⟩ fun q ax ay F=>?_);obtain⟨W,m,a2⟩:=F;replace m:=m.symm;subst m;refine Av q (Av (iV 0) (l_k L (Aq (h ?_))));have hq:Gn b l k=0:=Baa (eq_of_beq d) (eq_of_beq c) y;exact⟨(Cgj g W),rfl,_,Eq.trans (Mp (r:=6) (r':=7) (rs:=[]) (v:=q) (v':=iV 0) (vs:=[]) ⟨rfl,rfl,trivial⟩) (by rw[hq]),fun _=>atE (p:=q) rfl a2⟩
  have YQ:=Jq c;refine Ap (gN rfl c) (Ap (gN rfl c) (Ap (gN rfl c) (Ap (gN rfl c) (Ap (gN rfl c) (Ap (gN rfl c) (Ap (gN rfl c) (l_v (Bn rfl c (v:=bF) rfl) (l_k B (Cg rfl rfl (Al (kk n ?_)))))))))));refine qD fun ac ad ao M=>Au (iV (Ew l (b.fields.length:Int))) (l_v (Dg rfl rfl) (l_k M (Co rfl (Afl c) (qA fun ae O=>Au (iV (Ew l (b.fields.length:Int))) (Av (.pointer none) (Av (iV (Ew l (b.fields.length:Int))) (l_k O (Aq (h ?_)))))))));have hq:Gn b l k=Ew l (b.fields.length:Int):=Bwm (eq_of_beq d) (fun e=>by rw[e]at c;cases c);exact⟨g,rfl,_,Eq.trans (Mp (r:=6) (r':=7) (rs:=[]) (v:=.pointer none) (v':=iV (Ew l (b.fields.length:Int))) (vs:=[]) ⟨rfl,rfl,trivial⟩) (by rw[hq]),fun f=>by rw[hq]at f;rw[f]at c;cases c⟩
 have ZQ:=Jq d;refine Al (kk C ?_);refine qD fun af ag P R=>Au (iV (Hb b)) (l_v (Ek rfl rfl) (Au (.bool ((Hb b)==0)) (Ap (gN rfl d) (Ap (gN rfl d) (Ap (gN rfl d) (Ap (gN rfl d) (Ap (gN rfl d) (Ap (gN rfl d) (Ap (gN rfl d) (l_v (Bn rfl d (v:=bF) rfl) (l_k R (Cg rfl rfl (Al (kk P ?_))))))))))))));refine qD fun ah ai ap T=>Au (iV (Hb b)) (l_v (Dg rfl rfl) (l_k T (Co rfl (Afl d) (qA fun aj U=>Au (iV (Hb b)) (Av (.pointer none) (Av (iV (Hb b)) (l_k U (Aq (h ?_)))))))));have hq:Gn b l k=Hb b:=Bwl (fun e=>by rw[e]at d;cases d);exact⟨g,rfl,_,Eq.trans (Mp (r:=6) (r':=7) (rs:=[]) (v:=.pointer none) (v':=iV (Hb b)) (vs:=[]) ⟨rfl,rfl,trivial⟩) (by rw[hq]),fun f=>by rw[hq]at f;rw[f]at d;cases d⟩
end
section
def Bdj(b:LBook)(k:Int):List Span:=if Gn b [] k=0 then Qz b k.toNat else []
def Bez(b:LBook)(l:List Int)(k:Int):Int:=if Gn b l k=0 then Dm b (Bf (Im l)) k.toNat else 0
def Bey(b:LBook)(l:List Int)(k:Int):List Int:=if Gn b l k=0 then Bw (Bv (Ma b (Bf (Im l)) k.toNat)) else []
def Ang(b:LBook)(l:List Int)(k:Int)(c:List Int):Int:=if Anh b l k c=0 then Bu b (Bf (Im l)) (Bf (Im c)) else 0
theorem Afi{b:LBook}{l:List Int}{k:Int}(h:Gn b l k=0):Hb b=0/\Ew l b.fields.length=0/\0<=k/\k<b.lots.length:=by
 unfold Gn at h;obtain⟨c,d⟩:=Jx.1 h;obtain⟨e,a⟩:=Jx.1 d;refine⟨c,e,?_⟩;by_cases hr:inR k 0 ((b.lots.length:Int)-1)=true
 ·have:=Fz.1 hr;omega
 ·rw[if_neg hr]at a;cases a
theorem Auk{l:List Int}{n:Nat}(h:Ew l n=0):l=Bw (Im l)/\(∀a∈Im l,a<n)/\(Im l).Pairwise (·<·):=by obtain⟨xs,rfl,b,c⟩:=Bch h;rw[Aah];exact⟨rfl,b,c⟩
def zAt(l:List Int)(z:Int)(i:Nat):Bool:=match l[i]? with|some a=>z==a|none=>false
def Bbk(l:List Int)(z:Int):Int:=match Cl l.length (zAt l z) with|some i=>(i:Int)|none=>-1
variable{mn:Bool}{X:Frame->List Frame->Ro->Own->Cy->Prop}{Y:Ro}{Z:Own}
theorem Bmf{l:List Int}{z:Int}:decide (Bbk l z>=0)=decide (z∈l):=by
 refine decide_eq_decide.2 ?_;unfold Bbk;rcases Ft (n:=l.length) (p:=zAt l z) with⟨i,hi,hp,_,he⟩|⟨a,he⟩
 ·rw[he];have hm:z∈l:=by
   unfold zAt at hp;rw[Pw hi]at hp;simp only at hp;rw[eq_of_beq hp];exact Aqu hi
  exact⟨fun _=>hm,fun _=>by simp⟩
 ·rw[he];refine⟨fun h=>by simp at h,fun hm=>?_⟩;obtain⟨i,hi⟩:=Td hm;have:=a i (lZ3.1 hi).1;unfold zAt at this;rw[hi]at this;simp at this
section
variable{b:LBook}{F:Nat}{k:Int}{vc:Value}
theorem Brt(ok:LotsOk b)(hc:At Y vc (⟨b,frD b⟩:Cel))(hF:F<2^63)(h0:0<=k)(h1:k<b.lots.length):CallsH (CX mn X) 34 #[vc,.int .u64 (F:Int),.int .i64 k] Y Z (fun w Y' Z'=>Ro.le Y Y'/\Z'=Z/\Val Y' w (Gm b F k.toNat:Span)):=by obtain⟨n,rfl⟩:∃n:Nat,k=n:=⟨k.toNat,by omega⟩;exact Brs ok hc hF (by omega)
theorem Bro(ok:LotsOk b)(hc:At Y vc (⟨b,frD b⟩:Cel))(hF:F<2^63)(h0:0<=k)(h1:k<b.lots.length):CallsH (CX mn X) 51 #[vc,.int .u64 (F:Int),.int .i64 k] Y Z (rP Y Z (.tuple #[iV (Dm b F k.toNat),.int .u64 ((Ma b F k.toNat:Nat):Int)])):=by obtain⟨n,rfl⟩:∃n:Nat,k=n:=⟨k.toNat,by omega⟩;exact Atf ok hc hF (by omega)
end
theorem Bic{b:LBook}{F:Nat}{k:Int}(ok:LotsOk b)(h0:0<=k)(h1:k<b.lots.length):Ma b F k.toNat<256:=Adz ok (Pw (show k.toNat<b.lots.length by omega)) F
theorem Amq{l:List Nat}{n:Nat}(h:∀a∈l,a<n)(h8:n<=8):Bf l<256:=Nx (Sl h) (Apd (by omega) h8:2^n<=2^8)
theorem Byx{b:LBook}{l c:List Int}{k:Int}(h:Gn b l k≠0):Anh b l k c=Gn b l k:=Ry h
theorem Byy{b:LBook}{l c:List Int}{k:Int}(h:Gn b l k=0)(h1:Ew c b.lots.length≠0):Anh b l k c=Ew c b.lots.length:=by unfold Anh;rw[Gr h,Ry h1]
theorem Byw{b:LBook}{l c:List Int}{k:Int}(h:Gn b l k=0)(h1:Ew c b.lots.length=0)(h2:decide (k∈c)=false):Anh b l k c=6:=by unfold Anh;rw[Gr h,Gr h1,if_neg (lZ1 h2)]
theorem Bkm{l:List Int}{vl:Value}{z:Int}(rl:Val Y vl l):CallsH (CX mn X) 90 #[vl,iV z] Y Z (rP Y Z (iV (Bbk l z))):=by
 refine Bq 19 [4] Tryz.func90 rfl fun Q p a1=>qA fun L x=>Av (iV 0) (qE x fun R T E F=>Au vl ?_);have g4:=Val.len rl;refine l_v (Ci (el:=3) Cei rfl rl) (Au (iV 0) (l_k F (Ao (Cc (fun mm ee dd Y' Z'=>∃(i:Nat),(l.length-i)=mm/\[]=dd/\Y=Y'/\Z=Z'/\ee 0=vl/\ee 1=iV z/\ee 7=(iV (l.length:Int))/\ee 8=iV i/\(i<=l.length)/\(∀j,j<i->zAt l z j=false)/\True) (m:=_) ⟨0,rfl,rfl,rfl,rfl,rfl,rfl,rfl,rfl,Hz _,fun j h=>absurd h (Vn _),trivial⟩ ?_))));rintro m5 YQ _ _ _ ⟨i,rfl,rfl,rfl,rfl,f,g,k,c,a2,e,_⟩;refine qA fun U G=>l_v (Da c k) (Asa G fun V H=>Bp (t:=decide ((i:Int)<(l.length:Int))) rfl (fun b=>?_) (fun b=>?_))
 ·have K:=lZ2 b;refine Al (kk H ?_);refine Ai fun W I=>Ao (qA fun M y=>l_v (Ah (v:=iV i) c) (Av (iV i) (qB y fun N B=>l_v (Ah (v:=iV z) g) (l_v (Ah (v:=vl) f) (Au (iV i) ?_)))));obtain⟨w,d⟩:=Ed (xs:=l) (i:=i) (by omega);refine Arw (Ch i Cei ty3 rfl rl (q:=(i:Int)) rfl rfl d) fun a3 u=>?_;have⟨ZQ,a0⟩:=At.rng u;refine l_v (Bc ty3 rfl u) (l_v (Ek rfl rfl) (l_k B (Bp (t:=z==w) rfl (fun a=>?_) (fun a=>?_))))
  ·have J:=Jr a;refine qA fun O C=>Au (iV i) (Av (iV i) (l_k C (Aq (p (rT (iV i) ?_)))));have hi:=Fh (n:=l.length) e (by omega) (show zAt l z i=true by simp only[zAt,d,a]);simp only[Bbk,hi]
  have J:=Jq a;refine Al (kk I ?_);refine qC (l_v (Br c rfl (z:=(((i+1):Nat):Int)) wrE) (Au (iV ((i+1):Nat)) (Ac ?_)));refine⟨_,?_,(i+1),rfl,rfl,rfl,rfl,f,g,k,rfl,(by omega),(Eg e (by simp only[zAt,d,a])),trivial⟩;omega
 have K:=lZ1 b;refine Bx (kk E ?_);refine qA fun P D=>Av (iV (-1)) (l_k D (Aq (p (rT (iV (-1)) ?_))));have hn:=Ep (n:=l.length) fun j hj=>e j (by omega);simp only[Bbk,hn]
theorem Avs{l:List Int}{vl:Value}{z:Int}(rl:Val Y vl l):CallsH (CX mn X) 54 #[vl,iV z] Y Z (rP Y Z (.bool (decide (z∈l)))):=by refine Bq 9 [4] Tryz.func54 rfl fun Q a f=>qA fun d b=>Av bF (qB b fun e c=>Au vl (Au (iV z) (Arv (Cj (Bkm (z:=z) rl) Tryz.func90 ?_))));refine l_v (Uy rfl rfl) (Av (.bool (decide ((Bbk l z)>=0))) (l_k c (Aq (a (rT (.bool (decide ((Bbk l z)>=0))) ?_)))));rw[Bmf]
theorem Avt{b:LBook}{k:Int}{vb:Value}(rv:Val Y vb b):CallsH (CX mn X) 13 #[vb,iV k] Y Z (fun w Y' Z'=>Ro.le Y Y'/\Z'=Z/\∃vx,w=(.tuple #[vx,iV (Gn b [] k)])/\Val Y' vx (Bdj b k:List Span)):=by
 refine Bq 35 [4,5] Tryz.func13 rfl fun Q K ax=>qA fun K1 k1=>Arv (Ox (v:=vb) rfl fun k2=>?_);refine Bb (a:=b) rv fun b3 M n=>Av nS (Av (iV 0) (qB k1 fun K3 k3=>Arw (Ax Mk rfl n) fun v4 r4=>Au (iV k) (Arv (Cm (vs:=[v4,nS,iV k]) (Ake r4 (Gx:Val _ _ ([]:List Int))) Cfw rfl rfl ⟨rfl,rfl,rfl,trivial⟩ fun w5 T b7 a1=>?_))));obtain⟨D,B,d,a4,y⟩:=a1;replace B:=B.symm;subst B a4;replace n:=At.mono D n;have y:(Gn b [] k)=0->At T d (⟨b,frD b⟩:Cel):=y;refine Au (.tuple #[d,iV (Gn b [] k)]) (l_v (Dp d) (l_v (Dp (iV (Gn b [] k))) (Av d (Av (iV (Gn b [] k)) (qE k3 fun K6 K7 k6 k7=>Au (iV (Gn b [] k)) (l_v (Dg rfl rfl) (l_k k7 (Bp (t:=(Gn b [] k) != 0) rfl (fun f=>?_) (fun f=>?_)))))))))
 ·have q8:=Ls f;refine qA fun K9 k9=>Au (iV (Gn b [] k)) (Av nS (Av (iV (Gn b [] k)) (l_k k9 (Aq (K ⟨Cgj M D,rfl,nS,Eq.trans (b:=.tuple #[nS,iV (Gn b [] k)]) (Mp (r:=4) (r':=5) (rs:=[]) (v:=nS) (v':=iV (Gn b [] k)) (vs:=[]) ⟨rfl,rfl,trivial⟩) ?_,Val.cast ?_ Gx⟩)))))
  ·rfl
  ·unfold Bdj;rw[if_neg (Ls f)]
 have g:(Gn b [] k)=0:=Jh f;have E:=y g;obtain⟨hlo,hri,a2,a3⟩:=Afi g;have ok:=Tq hlo;have hnf:=ok.nf;have hnl:=ok.nl;have q8:=Jh f;refine Al (kk k6 ?_);refine qA fun al a5=>Av nS (qE a5 fun am an a6 a7=>Arw (Ba LBook.f_fields Cec rfl Hw n) fun b0 af=>Arw (Ax Hw rfl af) fun b1 P=>?_);have aw:=Val.len P;refine l_v (Ci (el:=9) Ced rfl P) (Au (iV 0) (l_k a7 (Ao (Cc (fun mm ee dd Y' Z'=>∃(i:Nat) (c:Value) (h:Own),(b.fields.length-i)=mm/\[]=dd/\Ro.le T Y'/\(h++Z)=Z'/\ee 1=iV k/\ee 6=d/\ee 21=(iV (b.fields.length:Int))/\ee 8=c/\ee 22=iV i/\(i<=b.fields.length)/\Grow Y' 53 c ((List.range i).map fun j=>Gm b (1 <<< j) k.toNat) h/\True) (m:=_) ⟨0,nS,[],rfl,rfl,Cgi,rfl,rfl,rfl,rfl,rfl,rfl,Hz _,Hm,trivial⟩ ?_))));rintro ay av _ b2 _ ⟨i,c,h,rfl,rfl,C,rfl,G,I,H,J,x,az,e,_⟩;replace E:=At.mono C E;refine qA fun ao a8=>l_v (Da x H) (Asa a8 fun ap a9=>Bp (t:=decide ((i:Int)<(b.fields.length:Int))) rfl (fun u=>?_) (fun u=>?_))
 ·have ae:=lZ2 u;refine Al (kk a9 ?_);refine Ai fun aq aa=>Ao (qA fun ar ab=>l_v (Ah (v:=iV i) x) (Av (iV i) (l_k ab (qC (l_v (Ah (v:=c) J) (l_v (Ah (v:=d) I) (Au (iV i) (l_v (Md (p:=1) (q:=i) rfl rfl rfl (by omega) (z:=(((1 <<< i):Nat):Int)) (Zc (by omega)).1) (l_v (Ah (v:=iV k) G) (Arv (Cm (vs:=[d,.int .u64 (((1 <<< i):Nat):Int),iV k]) (Brt ok E (Nat.lt_trans (Zc (by omega)).2 (by decide)) a2 a3) Tryz.func34 rfl rfl ⟨rfl,rfl,rfl,trivial⟩ fun aj ak b6 a0=>?_)))))))))));obtain⟨N,F,ag⟩:=a0;replace F:=F.symm;subst F;replace e:=Grow.mono N e;refine Arv (Bi (α:=Span) (xs:=[Gm b (1 <<< i) k.toNat]) (vs:=[aj]) Cem Mx Aak rfl (by decide) (Dk (os:=[.tmp 30]) ⟨rfl,trivial⟩) ⟨ag,trivial⟩ rfl (by decide) fun L YQ W=>?_);have U:Grow ak 53 (.slice (some ⟨L,0,none⟩) 1 1) ([Gm b (1 <<< i) k.toNat]:List Span) [(L,oC YQ.toArray 53)]:=Bs W rfl (by decide);refine Ca U fun b4 O ah=>?_;replace e:=Grow.mono O e;refine Arv (Gc (Z:=Z) (gr:=h) (xs:=(List.range i).map fun j=>Gm b (1 <<< j) k.toNat) (ys:=([Gm b (1 <<< i) k.toNat]:List Span)) Cem Cem (Ab Cfv) rfl nL rfl rfl rfl rfl e ah (by simp only[lZ4,Gk,Pc,Xx,Bnb];omega) fun R ZQ V=>?_);refine Av R (l_k aa (qC (l_v (Br x rfl (z:=(((i+1):Nat):Int)) wrE) (Au (iV ((i+1):Nat)) (Ac ?_)))));refine⟨_,?_,(i+1),R,ZQ,rfl,rfl,(Cgj (Cgj C N) O),rfl,G,I,H,rfl,rfl,(by omega),(Fy (by rw[List.range_succ,Nk];rfl) V),trivial⟩;omega
 have ae:=lZ1 u;refine Bx (kk a6 ?_);refine qA fun au ac=>l_v (Ah (v:=c) J) (Av c (Av (iV 0) (l_k ac (Hc e fun b5 ad ai=>Aq (K ⟨Cgj (Cgj (Cgj M D) C) ad,rfl,c,Eq.trans (b:=.tuple #[c,iV 0]) (Mp (r:=4) (r':=5) (rs:=[]) (v:=c) (v':=iV 0) (vs:=[]) ⟨rfl,rfl,trivial⟩) ?_,Val.cast ?_ ai⟩)))))
 ·rw[g]
 ·unfold Bdj Qz;rw[if_pos g,show i=b.fields.length by omega]
theorem Brk{b:LBook}{l:List Int}{k:Int}{vb vl:Value}(rv:Val Y vb b)(rl:Val Y vl l):CallsH (CX mn X) 18 #[vb,vl,iV k] Y Z (fun w Y' Z'=>Ro.le Y Y'/\Z'=Z/\∃vx,w=(.tuple #[iV (Bez b l k),vx,iV (Gn b l k)])/\Val Y' vx (Bey b l k:List Int)):=by
 refine Bq 33 [6,7,8] Tryz.func18 rfl fun Q u a1=>qA fun U C=>Arv (Ox (v:=vb) rfl fun k2=>?_);refine Bb (a:=b) rv fun a3 i M=>?_;replace rl:=Val.mono i rl;refine Av (iV 0) (Av nS (Av (iV 0) (Arx rfl rfl C fun YQ F=>Arw (Ax Mk rfl M) fun R N=>Au vl (Au (iV k) (Arv (Cm (vs:=[R,vl,iV k]) (Ake N rl) Cfw rfl rfl ⟨rfl,rfl,rfl,trivial⟩ fun w5 T a5 z=>?_))))));obtain⟨j,h,e,B,g⟩:=z;replace h:=h.symm;subst h B;replace rl:=Val.mono j rl;have g:(Gn b l k)=0->At T e (⟨b,frD b⟩:Cel):=g;refine Au (.tuple #[e,iV (Gn b l k)]) (l_v (Dp e) (l_v (Dp (iV (Gn b l k))) (Av e (Av (iV (Gn b l k)) (Ary rfl rfl F fun ZQ K7 G H=>Au (iV (Gn b l k)) (l_v (Dg rfl rfl) (l_k H (Bp (t:=(Gn b l k) != 0) rfl (fun c=>?_) (fun c=>?_)))))))))
 ·have K:=Ls c;refine qA fun K9 I=>Au (iV (Gn b l k)) (Av (iV 0) (Av nS (Av (iV (Gn b l k)) (l_k I (Aq (u ⟨Cgj i j,rfl,nS,Eq.trans (b:=.tuple #[iV 0,nS,iV (Gn b l k)]) (Mp (r:=6) (r':=7) (rs:=[8]) (v:=iV 0) (v':=nS) (vs:=[iV (Gn b l k)]) ⟨rfl,rfl,rfl,trivial⟩) ?_,Val.cast ?_ Gx⟩))))))
  ·unfold Bez;rw[if_neg (Ls c)]
  ·unfold Bey;rw[if_neg (Ls c)]
 have d:(Gn b l k)=0:=Jh c;have O:=g d;obtain⟨hlo,hri,p,q⟩:=Afi d;have ok:=Tq hlo;have hnf:=ok.nf;have hnl:=ok.nl;obtain⟨hle,hlt,hlp⟩:=Auk hri;have a0:=Amq hlt (by omega);have P:=Val.cast hle rl;have K:=Jh c;refine Al (kk G ?_);refine qA fun V D=>Au e (Au vl (Arv (Cj (Bam (xs:=Im l) P (fun n hn=>by have:=hlt n hn;omega)) Cfx ?_)));refine Au (iV k) (Arv (Cj (Bro (F:=Bf (Im l)) ok O (by omega) p q) Cga ?_));refine Au (.tuple #[iV (Dm b (Bf (Im l)) k.toNat),.int .u64 (((Ma b (Bf (Im l)) k.toNat):Nat):Int)]) (l_v (Dp (iV (Dm b (Bf (Im l)) k.toNat))) (l_v (Dp (.int .u64 (((Ma b (Bf (Im l)) k.toNat):Nat):Int))) (Av (iV (Dm b (Bf (Im l)) k.toNat)) (Av (.int .u64 (((Ma b (Bf (Im l)) k.toNat):Nat):Int)) (Arx rfl rfl D fun W E=>Au (iV (Dm b (Bf (Im l)) k.toNat)) (Au (.int .u64 (((Ma b (Bf (Im l)) k.toNat):Nat):Int)) (Arv (Cm (vs:=[.int .u64 (((Ma b (Bf (Im l)) k.toNat):Nat):Int)]) (Atd (x:=Ma b (Bf (Im l)) k.toNat) (Bic ok p q)) Cgb rfl rfl ⟨rfl,trivial⟩ fun f a2 a4 y=>?_))))))));obtain⟨J,m,L⟩:=y;replace m:=m.symm;subst m;refine Av (iV (Dm b (Bf (Im l)) k.toNat)) (Av f (Av (iV 0) (l_k E (Aq (u ⟨Cgj (Cgj i j) J,rfl,f,Eq.trans (b:=.tuple #[iV (Dm b (Bf (Im l)) k.toNat),f,iV 0]) (Mp (r:=6) (r':=7) (rs:=[8]) (v:=iV (Dm b (Bf (Im l)) k.toNat)) (v':=f) (vs:=[iV 0]) ⟨rfl,rfl,rfl,trivial⟩) ?_,Val.cast ?_ L⟩)))))
 ·unfold Bez;rw[if_pos d,d]
 ·unfold Bey;rw[if_pos d]
theorem Apv{b:LBook}{l c:List Int}{k:Int}{vb vl vc:Value}(rv:Val Y vb b)(rl:Val Y vl l)(rc:Val Y vc c):CallsH (CX mn X) 20 #[vb,vl,iV k,vc] Y Z (rP Y Z (.tuple #[iV (Ang b l k c),iV (Anh b l k c)])):=by
 refine Bq 43 [8,9] Tryz.func20 rfl fun Q m ao=>qA fun K1 H=>Arv (Ox (v:=vb) rfl fun k2=>?_);refine Bb (a:=b) rv fun av h p=>?_;replace rl:=Val.mono h rl;replace rc:=Val.mono h rc;refine Av (iV 0) (Av (iV 0) (Arx rfl rfl H fun K3 T=>Arw (Ax Mk rfl p) fun v4 r4=>Au vl (Au (iV k) (Arv (Cm (vs:=[v4,vl,iV k]) (Ake r4 rl) Cfw rfl rfl ⟨rfl,rfl,rfl,trivial⟩ fun w5 a2 aw F=>?_)))));obtain⟨g,w,j,G,u⟩:=F;replace w:=w.symm;subst w G;replace rl:=Val.mono g rl;replace rc:=Val.mono g rc;replace p:=At.mono g p;have u:(Gn b l k)=0->At a2 j (⟨b,frD b⟩:Cel):=u;refine Au (.tuple #[j,iV (Gn b l k)]) (l_v (Dp j) (l_v (Dp (iV (Gn b l k))) (Av j (Av (iV (Gn b l k)) (Ary rfl rfl T fun K6 K7 B W=>Au (iV (Gn b l k)) (l_v (Ek rfl rfl) (l_k W (Bp (t:=(Gn b l k)==0) rfl (fun f=>?_) (fun f=>?_)))))))))
 ·have i:(Gn b l k)=0:=eq_of_beq f;have r5:=u i;obtain⟨hlo,hri,al,am⟩:=Afi i;have ok:=Tq hlo;have hnf:=ok.nf;have hnl:=ok.nl;obtain⟨hle,hlt,hlp⟩:=Auk hri;have an:=Amq hlt (by omega);have a1:=Val.cast hle rl;have ZQ:=Jr f;refine qC (Au vc (Arw (Ba LBook.f_lots Cec rfl Ee p) fun v9 r9=>Arw (Ax Ee rfl r9) fun au C=>?_));have aj:=Val.len C;refine l_v (Ci (el:=51) Cee rfl C) (Arv (Cj (Avw (b:=b.lots.length) rc (by omega)) Tryz.func40 ?_));refine Av (iV (Ew c (b.lots.length:Int))) (Ary rfl rfl B fun a3 a4 x y=>Au (iV (Ew c (b.lots.length:Int))) (l_v (Ek rfl rfl) (Au (.bool ((Ew c (b.lots.length:Int))==0)) (Cn ((Ew c (b.lots.length:Int))==0) (fun d=>?_) (fun d=>?_)))))
  ·obtain⟨hce,hct,hcp⟩:=Auk (eq_of_beq d);have ak:=Amq hct hnl;have a0:=Val.cast hce rc;have YQ:=Jr d;refine l_M vc (qF d) rfl (l_M (iV k) (qF d) rfl (Ae (qF d) (Cj (Avs (z:=k) rc) Tryz.func54 ?_)));refine Aa (qF d) (Iy rfl) (l_v (Bt rfl d (v:=.bool (!(decide (k∈c)))) rfl) (l_k y (Bp (t:=!(decide (k∈c))) rfl (fun q=>?_) (fun q=>?_))))
   ·have D:=not_eq_t q;refine qC (Av (iV 6) (qE x fun a5 a6 ap I=>Au (iV 6) (l_v (Dg rfl rfl) (l_k I (Co rfl rfl (qA fun a7 J=>Au (iV 6) (Av (iV 0) (Av (iV 6) (l_k J (Aj (Cgg (Cgj h g)) (Aq (m ⟨rfl,rfl,Eq.trans (b:=.tuple #[iV 0,iV 6]) (Mp (r:=8) (r':=9) (rs:=[]) (v:=iV 0) (v':=iV 6) (vs:=[]) ⟨rfl,rfl,trivial⟩) ?_⟩))))))))))));have hq:=Byw i (eq_of_beq d) D;unfold Ang;rw[if_neg (by rw[hq];exact(by decide)),hq]
   have E:=Fs q;refine Al (kk x ?_);refine qD fun a8 a9 K L=>Au (iV (Ew c (b.lots.length:Int))) (l_v (Dg rfl rfl) (l_k L (Cg rfl (Afl d) (Al (kk K ?_)))));refine qA fun aa M=>Au j (Au vl (Arv (Cj (Bam (xs:=Im l) a1 (fun n hn=>by have:=hlt n hn;omega)) Cfx ?_)));refine Au vc (Arv (Cj (Bam (xs:=Im c) a0 (fun n hn=>by have:=hct n hn;omega)) Cfx ?_));refine Arv (Cj (Acy (F:=Bf (Im l)) (C:=Bf (Im c)) ok r5 (by omega) (by omega)) Cfs ?_);refine Av (iV (Bu b (Bf (Im l)) (Bf (Im c)))) (Av (iV 0) (l_k M (Aj (Cgg (Cgj h g)) (Aq (m ⟨rfl,rfl,Eq.trans (b:=.tuple #[iV (Bu b (Bf (Im l)) (Bf (Im c))),iV 0]) (Mp (r:=8) (r':=9) (rs:=[]) (v:=iV (Bu b (Bf (Im l)) (Bf (Im c)))) (v':=iV 0) (vs:=[]) ⟨rfl,rfl,trivial⟩) ?_⟩)))));have hq:=Bcc i (eq_of_beq d) (lZ2 E);unfold Ang;rw[if_pos hq,hq]
  have YQ:=Jq d;refine Ap (gN rfl d) (Ap (gN rfl d) (Ap (gN rfl d) (Ap (gN rfl d) (l_v (Bn rfl d (v:=bF) rfl) (l_k y (Cg rfl rfl (Al (kk x ?_))))))));refine qD fun ab ac aq N=>Au (iV (Ew c (b.lots.length:Int))) (l_v (Dg rfl rfl) (l_k N (Co rfl (Afl d) (qA fun ad O=>Au (iV (Ew c (b.lots.length:Int))) (Av (iV 0) (Av (iV (Ew c (b.lots.length:Int))) (l_k O (Aj (Cgg (Cgj h g)) (Aq (m ⟨rfl,rfl,Eq.trans (b:=.tuple #[iV 0,iV (Ew c (b.lots.length:Int))]) (Mp (r:=8) (r':=9) (rs:=[]) (v:=iV 0) (v':=iV (Ew c (b.lots.length:Int))) (vs:=[]) ⟨rfl,rfl,trivial⟩) ?_⟩))))))))));have hq:=Byy i (fun e=>by rw[e]at d;cases d);unfold Ang;rw[if_neg (by rw[hq];exact(fun e=>by rw[e]at d;cases d)),hq]
 have ZQ:=Jq f;refine Al (kk B ?_);refine qD fun ae af P R=>Au (iV (Gn b l k)) (l_v (Ek rfl rfl) (Au (.bool ((Gn b l k)==0)) (Ap (gN rfl f) (Ap (gN rfl f) (Ap (gN rfl f) (Ap (gN rfl f) (l_v (Bn rfl f (v:=bF) rfl) (l_k R (Cg rfl rfl (Al (kk P ?_)))))))))));refine qD fun ag ah ar U=>Au (iV (Gn b l k)) (l_v (Dg rfl rfl) (l_k U (Co rfl (Afl f) (qA fun ai V=>Au (iV (Gn b l k)) (Av (iV 0) (Av (iV (Gn b l k)) (l_k V (Aj (Cgg (Cgj h g)) (Aq (m ⟨rfl,rfl,Eq.trans (b:=.tuple #[iV 0,iV (Gn b l k)]) (Mp (r:=8) (r':=9) (rs:=[]) (v:=iV 0) (v':=iV (Gn b l k)) (vs:=[]) ⟨rfl,rfl,trivial⟩) ?_⟩))))))))));have hq:=Byx (c:=c) (fun e=>by rw[e]at f;cases f);unfold Ang;rw[if_neg (by rw[hq];exact(fun e=>by rw[e]at f;cases f)),hq]
end
section
theorem Bgo{p q:Nat}(hp:p<256)(hq:q<256):Op.intBits .and .u8 p q=pure (.int .u8 ((p &&& q:Nat):Int)):=by
 have c:p &&& q<=p:=Amf;simp only[Op.intBits];congr 2;have:(BitVec.ofInt IntKind.u8.bits p &&& BitVec.ofInt IntKind.u8.bits q).toNat=p &&& q:=by
  show (BitVec.ofInt 8 p &&& BitVec.ofInt 8 q).toNat=_;rw[BitVec.toNat_and,BitVec.toNat_ofInt,BitVec.toNat_ofInt];have a:((p:Int)%(2^8:Nat)).toNat=p:=by omega
  have b:((q:Int)%(2^8:Nat)).toNat=q:=by omega
  rw[a,b]
 rw[this];show ((p &&& q:Nat):Int)%_=_;simp only[IntKind.bits];omega
theorem Bke{p q:Nat}(hp:p<256)(hq:q<256):Op.intBits .or .u8 p q=pure (.int .u8 ((p ||| q:Nat):Int)):=by
 have c:p ||| q<256:=Axo (n:=8) hp hq;simp only[Op.intBits];congr 2;have:(BitVec.ofInt IntKind.u8.bits p ||| BitVec.ofInt IntKind.u8.bits q).toNat=p ||| q:=by
  show (BitVec.ofInt 8 p ||| BitVec.ofInt 8 q).toNat=_;rw[BitVec.toNat_or,BitVec.toNat_ofInt,BitVec.toNat_ofInt];have a:((p:Int)%(2^8:Nat)).toNat=p:=by omega
  have b:((q:Int)%(2^8:Nat)).toNat=q:=by omega
  rw[a,b]
 rw[this];show ((p ||| q:Nat):Int)%_=_;simp only[IntKind.bits];omega
section
variable{P:Program}{Y:Ro}{e:Env}{ty t t':TypeId}{x y:Operand}{p q:Nat}
theorem Cag(hx:Af e x = .int .u8 p)(hy:Af e y = .int .u8 q)(hp:p<256)(hq:q<256):Yld P Y e (.binOp .and t x y t') ty (.int .u8 ((p &&& q:Nat):Int)) :=
 La hx hy Dh (by simp only[binOp];rw[if_neg (by simp)];exact Bgo hp hq)
theorem Ccp(hx:Af e x = .int .u8 p)(hy:Af e y = .int .u8 q)(hp:p<256)(hq:q<256):Yld P Y e (.binOp .or t x y t') ty (.int .u8 ((p ||| q:Nat):Int)) :=
 La hx hy Dh (by simp only[binOp];rw[if_neg (by simp)];exact Bke hp hq)
theorem Cak{k':IntKind}(hx:Af e x = .int .u8 p)(hy:Af e y = .int k' q)(hp:p<256):Yld P Y e (.binOp .shr t x y t') ty (.int .u8 ((p>>>q:Nat):Int)):=La hx hy Dh (by
 have a:binOp .shr t (.int .u8 p) (.int k' q)=Op.shift .shr .u8 p k' q:=by simp[binOp]
 rw[a];unfold Op.shift;rw[if_neg (by omega)];have b:(p:Int).fdiv (2^(min (q:Int).toNat IntKind.u8.bits))=((p>>>q:Nat):Int):=by
  rw[show IntKind.u8.bits=8 from rfl];simp only[Yr];have:((2:Int)^(min q 8))=((2^(min q 8):Nat):Int):=by push_cast;rfl
  rw[this,Int.fdiv_eq_ediv_of_nonneg _ (Aub _),<-Int.natCast_ediv,Nat.shiftRight_eq_div_pow];congr 1;rcases Nat.le_total q 8 with h|h
  ·rw[Aud h]
  ·rw[Nat.min_eq_right h,Bem hp,Bem (Nx hp (Apd (by omega) h:2^8<=2^q))]
 simp only[b])
theorem Caj{k':IntKind}(hx:Af e x = .int .u8 p)(hy:Af e y = .int k' q)(hq:q<=8)(hz:p <<< q<256):Yld P Y e (.binOp .shl t x y t') ty (.int .u8 ((p <<< q:Nat):Int)):=La hx hy Dh (by
 have a:binOp .shl t (.int .u8 p) (.int k' q)=Op.shift .shl .u8 p k' q:=by simp[binOp]
 rw[a];unfold Op.shift;rw[if_neg (by omega)];have b:(p:Int)*2^(min (q:Int).toNat IntKind.u8.bits)=((p <<< q:Nat):Int):=by
  rw[show IntKind.u8.bits=8 from rfl,Yr,Aud hq,Nat.shiftLeft_eq];push_cast;rfl
 simp only[b,Anq (Aub _) (Int.ofNat_lt.2 hz)])
end
end
section
theorem Azd{l:List LPart}{j k:Nat}{q:LPart}{s:ByteArray}(hq:l[j]?=some q)(hjk:j<k)(h:(q.of_.toList==s.toList)=true):Ib (l.take k) s=true:=by unfold Ib;rw[Aqs];exact⟨q,lZ5 (i:=j) (by rw[Adr hjk];exact hq),by rw[Bool.beq_comm];exact h⟩
theorem Bfv{b:LBook}{i:Nat}{s:ByteArray}{y:LLot}(hn:b.lots[(En (b.lots.take i) s).toNat]?=some y)(h:En (b.lots.take i) s>=0):(b.lots.take i)[(En (b.lots.take i) s).toNat]?=some y:=by obtain⟨z,hz,_⟩:=Ady h;have:=(lZ3.1 hz).1;rw[Ha]at this;rw[Adr (by omega)];exact hn
theorem Adx{b:LBook}{i:Nat}{s:ByteArray}(h:En (b.lots.take i) s>=0):(En (b.lots.take i) s).toNat<b.lots.length:=by obtain⟨z,hz,_⟩:=Ady h;have:=(lZ3.1 hz).1;rw[Ha]at this;omega
theorem Bfq{l:List LPart}{j:Nat}{q:LPart}{s:ByteArray}(hq:l[j]?=some q)(h:(q.of_.toList==s.toList)=false)(hs:Ib (l.take j) s=false):Ib (l.take (j+1)) s=false:=by rw[<-Acl hq s,hs,Bool.beq_comm,h];rfl
variable{mn:Bool}{X:Frame->List Frame->Ro->Own->Cy->Prop}{Y:Ro}{Z:Own}
theorem Air{l:LLot}{vl:Value}(rl:Val Y vl l)(hn:l.parts.length<=100000)(hb:∀p∈l.parts,0<=p.grams/\p.grams<=100000):CallsH (CX mn X) 23 #[vl] Y Z (rP Y Z (iV (Cw l))):=by
 refine Bq 21 [2] Cfq rfl fun Q u a3=>qA fun O w=>Arv (Ox (v:=vl) rfl fun y=>?_);refine Bb (a:=l) rl fun N H n=>Av (iV 0) (qB w fun T C=>Av (iV 0) (Ary rfl rfl C fun U V D E=>Av (iV 0) (l_k E (Ao (Cc (fun mm ee dd Y' Z'=>∃(i:Nat) (a:Int),(l.parts.length-i)=mm/\[]=dd/\N=Y'/\Z=Z'/\ee 1=pV y/\ee 3=iV a/\ee 4=iV i/\(i<=l.parts.length)/\(a=Xd (l.parts.take i))/\(0<=a/\a<=100000*(i:Int))/\True) (m:=_) ⟨0,0,rfl,rfl,rfl,rfl,rfl,rfl,rfl,Hz _,rfl,⟨by omega,by omega⟩,trivial⟩ ?_)))));rintro m6 ZQ _ _ _ ⟨i,a,rfl,rfl,rfl,rfl,d,g,e,a5,h,a6,_⟩;refine qD fun W YQ F G=>l_v (Ah (v:=iV i) e) (Arw (Ba LLot.f_parts Ceg rfl Fv n d) fun v9 M=>Arw (Ax Fv rfl M) fun a7 j=>?_);have a0:=Val.len j;refine l_v (Ci (el:=127) Ceh rfl j) (l_v (Da rfl rfl) (l_k G (Bp (t:=decide ((i:Int)<(l.parts.length:Int))) rfl (fun c=>?_) (fun c=>?_))))
 ·have I:=lZ2 c;refine Al (kk F ?_);refine Ai fun P x=>Ao (qC (l_v (Ah (v:=iV a) g) (Arw (Ba LLot.f_parts Ceg rfl Fv n d) fun a8 J=>Arw (Ax Fv rfl J) fun a9 K=>l_v (Ah (v:=iV i) e) ?_)));obtain⟨b,f⟩:=Ed (xs:=l.parts) (i:=i) (by omega);have a4:=hb _ (lZ5 f);refine Arw (Ch i Ceh Lu rfl K (q:=(i:Int)) rfl rfl f) fun aa L=>Arw (Ba LPart.f_grams Cef rfl ty3 L) fun ab k=>?_;have⟨a1,a2⟩:=At.rng k;refine l_v (Bc ty3 rfl k) (l_v (Br rfl rfl (z:=a+b.grams) (Bo (by rfl) (by omega) (by omega))) (Av (iV (a+b.grams)) (l_k x (qC (l_v (Ah (v:=iV i) e) (l_v (Fk (((i+1):Nat):Int)) (Av (iV ((i+1):Nat)) (Ac ?_))))))));refine⟨_,?_,(i+1),(a+b.grams),rfl,rfl,rfl,rfl,d,rfl,rfl,(by omega),(by rw[Asj f,h]),⟨by omega,by omega⟩,trivial⟩;omega
 have I:=lZ1 c;refine Bx (kk D ?_);refine qA fun R B=>l_v (Ah (v:=iV a) g) (Av (iV a) (l_k B (Aj (Cgg H) (Aq (u (rT (iV a) ?_))))));rw[h,show i=l.parts.length by omega,Ve];rfl
theorem Bde{l:List LLot}{vl:Value}{s:ByteArray}(rl:Val Y vl l):CallsH (CX mn X) 83 #[vl,.string s] Y Z (rP Y Z (iV (En l s))):=by
 refine Bq 20 [4] Tryz.func83 rfl fun Q u a0=>qA fun L y=>Av (iV 0) (qE y fun P R D E=>Av (iV 0) (l_k E (Ao (Cc (fun mm ee dd Y' Z'=>∃(i:Nat),(l.length-i)=mm/\[]=dd/\Y=Y'/\Z=Z'/\ee 0=vl/\ee 1=(.string s)/\ee 5=iV i/\(i<=l.length)/\(∀j,j<i->atP l (fun x=>x.name.toList==s.toList) j=false)/\True) (m:=_) ⟨0,rfl,rfl,rfl,rfl,rfl,rfl,rfl,Hz _,fun j h=>absurd h (Vn _),trivial⟩ ?_))));rintro m4 W _ _ _ ⟨i,rfl,rfl,rfl,rfl,d,k,c,a1,f,_⟩;refine qD fun T U F G=>l_v (Ah (v:=iV i) c) (l_v (Ah (v:=vl) d) ?_);have ZQ:=Val.len rl;refine l_v (Ci (el:=51) Cee rfl rl) (l_v (Da rfl rfl) (l_k G (Bp (t:=decide ((i:Int)<(l.length:Int))) rfl (fun b=>?_) (fun b=>?_))))
 ·have J:=lZ2 b;refine Al (kk F ?_);refine Ai fun V H=>Ao (qA fun M z=>l_v (Ah (v:=vl) d) (l_v (Ah (v:=iV i) c) ?_));obtain⟨g,e⟩:=Ed (xs:=l) (i:=i) (by omega);refine Arw (Ch i Cee Fm rfl rl (q:=(i:Int)) rfl rfl e) fun a2 K=>Arw (Ba LLot.f_name Ceg rfl ty9 K) fun a3 w=>?_;have YQ:=At.slen w;refine l_v (Pk ty9 rfl w) (l_v (Ah (v:=.string s) k) (l_v (Aia (p:=g.name) (q:=s) rfl rfl) (l_k z (Bp (t:=(g.name).toList==(s).toList) rfl (fun a=>?_) (fun a=>?_)))))
  ·have I:=Jr a;refine qA fun N B=>l_v (Ah (v:=iV i) c) (Av (iV i) (l_k B (Aq (u (rT (iV i) ?_)))));have hi:=Fh (n:=l.length) f (by omega) (show atP l _ i=true by simp only[atP,e,b,a]);rw[<-Amm];simp only[Oi,hi]
  have I:=Jq a;refine Al (kk H ?_);refine qC (l_v (Ah (v:=iV i) c) (l_v (Fk (((i+1):Nat):Int)) (Av (iV ((i+1):Nat)) (Ac ?_))));refine⟨_,?_,(i+1),rfl,rfl,rfl,rfl,d,k,rfl,(by omega),(Eg f (by simp only[atP,e,b,a])),trivial⟩;omega
 have J:=lZ1 b;refine Bx (kk D ?_);refine qA fun O C=>Av (iV (-1)) (l_k C (Aq (u (rT (iV (-1)) ?_))));have hn:=Ep (n:=l.length) fun j hj=>f j (by omega);rw[<-Amm];simp only[Oi,hn]
theorem Bdh{l:List LLot}{vl:Value}{s:ByteArray}(rl:Val Y vl l)(h8:l.length<=8)(hb:∀x∈l,x.parts.length<=6/\∀p∈x.parts,1<=p.grams/\p.grams<=100000):CallsH (CX mn X) 84 #[vl,.string s] Y Z (rP Y Z (iV (tkO s l))):=by
 refine Bq 47 [4] Tryz.func84 rfl fun Q N ap=>qA fun K1 O=>Av (iV 0) (Arx rfl rfl O fun K2 V=>Av (iV 0) (Ary rfl rfl V fun K3 K4 YQ k4=>Av (iV 0) (l_k k4 (Ao (Cc (fun mm ee dd Y' Z'=>∃(i:Nat) (a:Int),(l.length-i)=mm/\[]=dd/\Y=Y'/\Z=Z'/\ee 0=vl/\ee 1=(.string s)/\ee 5=iV a/\ee 6=iV i/\(i<=l.length)/\(a=tkO s (l.take i))/\(0<=a/\a<=600000*(i:Int))/\True) (m:=_) ⟨0,0,rfl,rfl,rfl,rfl,rfl,rfl,rfl,rfl,Hz _,rfl,⟨by omega,by omega⟩,trivial⟩ ?_)))));rintro m5 e5 _ _ _ ⟨i,a,rfl,rfl,rfl,rfl,D,L,E,F,aw,H,ax,_⟩;refine qD fun K6 K7 k6 k7=>l_v (Ah (v:=iV i) F) (l_v (Ah (v:=vl) D) ?_);have g8:=Val.len rl;refine l_v (Ci (el:=51) Cee rfl rl) (l_v (Da rfl rfl) (l_k k7 (Bp (t:=decide ((i:Int)<(l.length:Int))) rfl (fun y=>?_) (fun y=>?_))))
 ·have q9:=lZ2 y;refine Al (kk k6 ?_);refine Ai fun ac P=>Ao (qA fun ad R=>Av (iV 0) (l_k R (Ao ?_)));obtain⟨b,j⟩:=Ed (xs:=l) (i:=i) (by omega);obtain⟨ao,M⟩:=hb _ (lZ5 j);refine Cc (fun mm ee dd Y' Z'=>∃(k:Nat) (c:Int),(b.parts.length-k)=mm/\[]=dd/\Y=Y'/\Z=Z'/\ee 0=vl/\ee 1=(.string s)/\ee 6=iV i/\ee 5=iV c/\ee 7=iV k/\(k<=b.parts.length)/\(c=tkO s (l.take i)+Tc s (b.parts.take k))/\(0<=c/\c<=600000*(i:Int)+100000*(k:Int))/\True) (m:=_) ⟨0,a,rfl,rfl,rfl,rfl,D,L,F,E,rfl,Hz _,(by rw[H];exact(Int.add_zero _).symm),⟨by omega,by omega⟩,trivial⟩ ?_;rintro ar aj _ _ _ ⟨k,c,rfl,rfl,rfl,rfl,d,u,e,B,h,au,C,av,_⟩;refine qD fun ae af T U=>l_v (Ah (v:=iV k) h) (l_v (Ah (v:=vl) d) (l_v (Ah (v:=iV i) e) (Arw (Ch i Cee Fm rfl rl (q:=(i:Int)) rfl rfl j) fun ay a2=>Arw (Ba LLot.f_parts Ceg rfl Fv a2) fun az a3=>Arw (Ax Fv rfl a3) fun b0 I=>?_)));have ak:=Val.len I;refine l_v (Ci (el:=127) Ceh rfl I) (l_v (Da rfl rfl) (l_k U (Bp (t:=decide ((k:Int)<(b.parts.length:Int))) rfl (fun w=>?_) (fun w=>?_))))
  ·have a0:=lZ2 w;refine Al (kk T ?_);refine Ai fun ag G=>Ao (qA fun ah W=>l_v (Ah (v:=vl) d) (l_v (Ah (v:=iV i) e) (Arw (Ch i Cee Fm rfl rl (q:=(i:Int)) rfl rfl j) fun b1 a4=>Arw (Ba LLot.f_parts Ceg rfl Fv a4) fun b2 a5=>Arw (Ax Fv rfl a5) fun b3 a6=>l_v (Ah (v:=iV k) h) ?_)));obtain⟨f,n⟩:=Ed (xs:=b.parts) (i:=k) (by omega);have aq:=M _ (lZ5 n);refine Arw (Ch k Ceh Lu rfl a6 (q:=(k:Int)) rfl rfl n) fun b4 a7=>Arw (Ba LPart.f_of_ Cef rfl ty9 a7) fun b5 J=>?_;have al:=At.slen J;refine l_v (Pk ty9 rfl J) (l_v (Ah (v:=.string s) u) (l_v (Aia (p:=f.of_) (q:=s) rfl rfl) (l_k W (Bp (t:=(f.of_).toList==(s).toList) rfl (fun g=>?_) (fun g=>?_)))))
   ·have a1:=Jr g;refine qC (l_v (Ah (v:=iV c) B) (l_v (Ah (v:=vl) d) (l_v (Ah (v:=iV i) e) (Arw (Ch i Cee Fm rfl rl (q:=(i:Int)) rfl rfl j) fun b6 a8=>Arw (Ba LLot.f_parts Ceg rfl Fv a8) fun b7 a9=>Arw (Ax Fv rfl a9) fun b8 aa=>l_v (Ah (v:=iV k) h) (Arw (Ch k Ceh Lu rfl aa (q:=(k:Int)) rfl rfl n) fun ba ab=>Arw (Ba LPart.f_grams Cef rfl ty3 ab) fun bb K=>?_)))));have⟨am,an⟩:=At.rng K;refine l_v (Bc ty3 rfl K) (l_v (Br rfl rfl (z:=c+f.grams) (Bo (by rfl) (by omega) (by omega))) (Av (iV (c+f.grams)) (l_k G (qC (l_v (Ah (v:=iV k) h) (l_v (Fk (((k+1):Nat):Int)) (Av (iV ((k+1):Nat)) (Ac ?_))))))));refine⟨_,?_,(k+1),(c+f.grams),rfl,rfl,rfl,rfl,d,u,e,rfl,rfl,(by omega),(by rw[Ask n,if_pos (Cdg g),C];omega),⟨by omega,by omega⟩,trivial⟩;omega
   have a1:=Jq g;refine Al (kk G ?_);refine qC (l_v (Ah (v:=iV k) h) (l_v (Fk (((k+1):Nat):Int)) (Av (iV ((k+1):Nat)) (Ac ?_))));refine⟨_,?_,(k+1),c,rfl,rfl,rfl,rfl,d,u,e,B,rfl,(by omega),(by rw[Ask n,if_neg (Cdf g),C];omega),⟨by omega,by omega⟩,trivial⟩;omega
  have a0:=lZ1 w;refine Bx (kk P ?_);refine qC (l_v (Ah (v:=iV i) e) (l_v (Fk (((i+1):Nat):Int)) (Av (iV ((i+1):Nat)) (Ac ?_))));refine⟨_,?_,(i+1),c,rfl,rfl,rfl,rfl,d,u,B,rfl,(by omega),(by rw[Bqe j,C,show k=b.parts.length by omega,Ve]),⟨by omega,by omega⟩,trivial⟩;omega
 have q9:=lZ1 y;refine Bx (kk YQ ?_);refine qA fun ai ZQ=>l_v (Ah (v:=iV a) E) (Av (iV a) (l_k ZQ (Aq (N (rT (iV a) ?_)))));rw[H,show i=l.length by omega,Ve]
theorem Bak{b:LBook}{i:Nat}{vb:Value}(rv:Val Y vb b)(ok:LotsOk ⟨b.fields,b.lots.take i⟩)(hn8:b.lots.length<=8)(hi:i<b.lots.length):CallsH (CX mn X) 50 #[vb,iV i] Y Z (rP Y Z (iV (Nz b i))):=by
 refine Bq 108 [4] Tryz.func50 rfl fun Q E gj=>qA fun K1 k1=>Arv (Ox (v:=vb) rfl fun k2=>?_);refine Bb (a:=b) rv fun ii F C=>Av (iV 0) (qB k1 fun K3 k3=>Arw (Ba LBook.f_lots Cec rfl Ee C) fun v4 r4=>Arw (Ax Ee rfl r4) fun v5 r5=>Au (iV i) ?_);obtain⟨g,w⟩:=Ed (xs:=b.lots) (i:=i) (by omega);refine Arw (Ch i Cee Fm rfl r5 (q:=(i:Int)) rfl rfl w) fun v6 r6=>Arw (Ax Fm rfl r6) fun v8 r8=>Arv (Ct Ave fun k9=>?_);refine Cx rfl (Dv (v:=v8) (a:=g) (c:=Avd) Fm rfl rfl r8 rfl ?_);refine Bb (a:=g) r8 fun eg y K=>?_;replace C:=At.mono y C;refine qE k3 fun ej eo c4 c8=>Arw (Ba LLot.f_name Ceg rfl ty9 K) fun h8 bi=>?_;have g1:=At.slen bi;refine l_v (Pk ty9 rfl bi) (Arv (Cj Bkp Tryz.func48 ?_));refine l_v (Iy rfl) (l_k c8 (Bp (t:=!(Hg g.name)) rfl (fun ai=>?_) (fun ai=>?_)))
 ·have c2:=not_eq_t ai;refine qA fun f0 cj=>Av (iV 4) (l_k cj (Aj (Cgg (Cgj F y)) (Aq (E (rT (iV 4) ?_)))));rw[Nn w (Bvu c2)]
 have H:=Fs ai;refine Al (kk c4 ?_);refine Ai fun f1 ck=>Ai fun f2 bc=>Xp (Fd 0 Anr rfl (Ba LBook.f_fields Cec rfl Hw C) fun hn dw=>Fd 1 Anw rfl (Ax Hw rfl dw) fun ho dx=>Hy 2 Anx rfl (Ba LLot.f_name Ceg rfl ty9 K) fun hq bo=>?_);have g5:=At.slen bo;refine Cr 3 Anz rfl (Pk ty9 rfl bo) (Qw 4 Aoa rfl (Bm (Bai dx) Cfz rfl rfl ⟨rfl,rfl,trivial⟩ ⟨Cgi,?_⟩));refine Cr 5 Aob rfl (Uy rfl rfl) (Cr 6 (zT 7 9) rfl (Ah (v:=.bool (decide (Aht b.fields g.name>=0))) rfl) (Akk (decide (Aht b.fields g.name>=0)) (fun n=>?_) (fun n=>?_)))
 ·have I:=lZ2 n;refine Er 7 Akb rfl Cgi (gN rfl n) (Er 8 zZ8 rfl Cgi (gN rfl n) (Er 9 (zT 10 6) rfl Cgi (gN rfl n) (Er 10 zZ0 rfl Cgi (gN rfl n) (Pi 11 zZ1 rfl Cgi (gN rfl n) (Pi 12 zZ2 rfl Cgi (gN rfl n) (Pi 13 zZ3 rfl Cgi (gN rfl n) (Pi 14 zZ4 rfl Cgi (gN rfl n) (Cr 15 zZ5 rfl (Bt rfl n (v:=bT) rfl) (Ec rfl (kk bc ?_))))))))));refine Co rfl rfl (qA fun f3 cl=>Av (iV 5) (l_k cl (Aj (Cgg (Cgj F y)) (Aq (E (rT (iV 5) ?_))))));rw[Nn w (Bnu H (Aph.2 (.inl I)))]
 have I:=lZ1 n;refine Fp 7 Akb rfl Cgi (qF n) (Ba LBook.f_lots Cec rfl Ee C) fun hr dy=>Fp 8 zZ8 rfl Cgi (qF n) (Ax Ee rfl dy) fun hs dz=>Ix 9 (zT 10 6) rfl Cgi (qF n) (Ah (v:=iV i) rfl) (Fp 10 zZ0 rfl Cgi (qF n) (Sc i Cee Fm rfl dz (q:=(i:Int)) rfl rfl (by omega)) fun ht e0=>Yc 11 zZ1 rfl Cgi (qF n) (Ba LLot.f_name Ceg rfl ty9 K) fun hu bp=>?_);have g6:=At.slen bp;refine Js 12 zZ2 rfl Cgi (qF n) (Pk ty9 rfl bp) (Ajg 13 zZ3 rfl (qF n) (Bm (Bde (s:=g.name) e0) Tryz.func83 rfl rfl ⟨rfl,rfl,trivial⟩ ⟨Cgi,?_⟩));refine Js 14 zZ4 rfl Cgi (qF n) (Uy rfl rfl) (Cr 15 zZ5 rfl (Bn rfl n (v:=.bool (decide ((En (b.lots.take i) g.name)>=0))) rfl) (Ec rfl (kk bc ?_)));refine Bp (t:=decide ((En (b.lots.take i) g.name)>=0)) rfl (fun ak=>?_) (fun ak=>?_)
 ·have J:=lZ2 ak;refine qA fun f4 cm=>Av (iV 5) (l_k cm (Aj (Cgg (Cgj F y)) (Aq (E (rT (iV 5) ?_)))));rw[Nn w (Bnu H (Aph.2 (.inr J)))]
 have J:=lZ1 ak;refine Al (kk ck ?_);refine qD fun f5 f6 cn co=>Arw (Ba LLot.f_parts Ceg rfl Fv K) fun hv e1=>Arw (Ax Fv rfl e1) fun hw bq=>?_;have g7:=Val.len bq;refine l_v (Ci (el:=127) Ceh rfl bq) (Arv (Cj Bri Cft ?_));refine l_v (Iy rfl) (l_k co (Bp (t:=!(inR (g.parts.length:Int) 1 6)) rfl (fun al=>?_) (fun al=>?_)))
 ·have b6:=not_eq_t al;have gt:=Abc.1 b6;refine qA fun f7 cp=>Av (iV 2) (l_k cp (Aj (Cgg (Cgj F y)) (Aq (E (rT (iV 2) ?_)))));rw[Nn w (Bvt H (Apj I J) b6)]
 have M:=Fs al;have gu:=Fz.1 M;refine Al (kk cn ?_);refine qD fun f8 f9 cq cr=>Av (iV 0) (l_k cr (Ao (Cc (fun mm ee dd Y' Z'=>∃(k:Nat),(g.parts.length-k)=mm/\[]=dd/\eg=Y'/\Z=Z'/\ee 1=iV i/\ee 2=pV k2/\ee 5=pV k9/\ee 6=iV k/\(k<=g.parts.length)/\(∀j,j<k->Agv (Jd (Ic b.fields) (b.lots.take i)) (tkM (b.lots.take i)) g.parts j=0)/\True) (m:=_) ⟨0,rfl,rfl,rfl,rfl,rfl,rfl,rfl,rfl,Hz _,fun j h=>absurd h (Vn _),trivial⟩ ?_)));rintro gl fs _ _ _ ⟨k,rfl,rfl,rfl,rfl,au,a8,a9,aa,go,G,_⟩;refine qD fun fa fb cs ct=>l_v (Ah (v:=iV k) aa) (Arw (Ba LLot.f_parts Ceg rfl Fv K a9) fun hy e2=>Arw (Ax Fv rfl e2) fun hz br=>?_);have g8:=Val.len br;refine l_v (Ci (el:=127) Ceh rfl br) (l_v (Da rfl rfl) (l_k ct (Bp (t:=decide ((k:Int)<(g.parts.length:Int))) rfl (fun am=>?_) (fun am=>?_))))
 ·have d8:=lZ2 am;refine Al (kk cs ?_);refine Ai fun fc ae=>Ao (qA fun fd cu=>Arw (Ba LLot.f_parts Ceg rfl Fv K a9) fun i0 e3=>Arw (Ax Fv rfl e3) fun i1 e4=>l_v (Ah (v:=iV k) aa) ?_);obtain⟨d,D⟩:=Ed (xs:=g.parts) (i:=k) (by omega);refine Arw (Ch k Ceh Lu rfl e4 (q:=(k:Int)) rfl rfl D) fun i2 e5=>Arw (Ax Lu rfl e5) fun ef bt=>Arv (Ct Aov fun bd=>?_);refine Cx rfl (Dv (v:=ef) (a:=d) (c:=Aou) Lu rfl rfl bt rfl ?_);refine Bb (a:=d) bt fun c1 B L=>?_;replace C:=At.mono B C;replace K:=At.mono B K;refine Asa cu fun fe cv=>Xp (Fd 0 (zT 1 7) rfl (Ba LBook.f_lots Cec rfl Ee C a8) fun i3 e6=>Fd 1 (zT 2 6) rfl (Ax Ee rfl e6) fun i4 e7=>Dy 2 (zT 3 5) rfl (Ah (v:=iV i) au) (Fd 3 (zT 4 4) rfl (Sc i Cee Fm rfl e7 (q:=(i:Int)) rfl rfl (by omega)) fun i5 e8=>Hy 4 (zT 5 3) rfl (Ba LPart.f_of_ Cef rfl ty9 L) fun i6 bu=>?_));have g9:=At.slen bu;refine Cr 5 (zT 6 2) rfl (Pk ty9 rfl bu) (Qw 6 (zT 7 1) rfl (Bm (Bde (s:=d.of_) e8) Tryz.func83 rfl rfl ⟨rfl,rfl,trivial⟩ ⟨Cgi,?_⟩));refine Cr 7 (zT 8 0) rfl (Cp (v:=iV (En (b.lots.take i) d.of_)) rfl) (Ec rfl (kk cv ?_));refine qD fun ff fg be bf=>Au (iV (En (b.lots.take i) d.of_)) (l_v (Da rfl rfl) (Au (.bool (decide ((En (b.lots.take i) d.of_)<0))) (Cn (decide ((En (b.lots.take i) d.of_)<0)) (fun u=>?_) (fun u=>?_))))
  ·have d9:=lZ2 u;refine Ak (qF u) (Ba LBook.f_fields Cec rfl Hw C a8) fun i7 e9=>Ak (qF u) (Ax Hw rfl e9) fun i8 ea=>Ak (qF u) (Ba LPart.f_of_ Cef rfl ty9 L) fun i9 bv=>?_;have ga:=At.slen bv;refine Aa (qF u) (Pk ty9 rfl bv) (Ae (qF u) (Cj (Bai ea) Cfz ?_));refine Aa (qF u) (Da rfl rfl) (l_v (Bt rfl u (v:=.bool (decide (Aht b.fields d.of_<0))) rfl) (l_k bf (Bp (t:=decide (Aht b.fields d.of_<0)) rfl (fun an=>?_) (fun an=>?_))))
   ·have da:=lZ2 an;refine qA fun fh cw=>Av (iV 6) (l_k cw (Aj (Cgg (Cgj (Cgj F y) B)) (Aq (E (rT (iV 6) ?_)))));rw[Nn w ((Yv H (Apj I J) M).trans (by rw[Ho,Db G (by omega) (Ia D (Bev (Apj (by omega) (by omega)))) (by decide)]))]
   have da:=lZ1 an;refine Al (kk be ?_);refine qD fun fi fj cx cy=>Av (iV 0) (l_k cy (Ao (Cc (fun mm ee dd Y' Z'=>∃(j:Nat),(k-j)=mm/\[]=dd/\c1=Y'/\Z=Z'/\ee 1=iV i/\ee 2=pV k2/\ee 5=pV k9/\ee 6=iV k/\ee 7=pV bd/\ee 8=(iV (En (b.lots.take i) d.of_))/\ee 9=iV j/\(j<=k)/\(Ib (g.parts.take j) d.of_=false)/\True) (m:=_) ⟨0,rfl,rfl,rfl,rfl,au,a8,a9,aa,rfl,rfl,rfl,Hz _,rfl,trivial⟩ ?_)));rintro gm ft _ _ _ ⟨j,rfl,rfl,rfl,rfl,ab,V,ac,ad,W,av,aw,gp,a1,_⟩;refine qD fun fk fl cz d0=>l_v (Ah (v:=iV j) aw) (l_v (Ah (v:=iV k) ad) (l_v (Da rfl rfl) (l_k d0 (Bp (t:=decide ((j:Int)<(k:Int))) rfl (fun ao=>?_) (fun ao=>?_)))))
   ·have db:=lZ2 ao;refine Al (kk cz ?_);refine Ai fun fm d1=>Ao (Ai fun fn d2=>Xp (Fd 0 zZ9 rfl (Ba LLot.f_parts Ceg rfl Fv K ac) fun ia eb=>Fd 1 Ajy rfl (Ax Fv rfl eb) fun ib ec=>Dy 2 Ajz rfl (Ah (v:=iV j) aw) ?_));obtain⟨b4,ay⟩:=Ed (xs:=g.parts) (i:=j) (by omega);refine Fd 3 (zT 4 5) rfl (Ch j Ceh Lu rfl ec (q:=(j:Int)) rfl rfl ay) fun ic ed=>Fd 4 (zT 5 4) rfl (Ba LPart.f_of_ Cef rfl ty9 ed) fun ie bx=>?_;have gb:=At.slen bx;refine Dy 5 (zT 6 3) rfl (Pk ty9 rfl bx) (Hy 6 Aka rfl (Ba LPart.f_of_ Cef rfl ty9 L W) fun ig bz=>?_);have gc:=At.slen bz;refine Cr 7 zZ6 rfl (Pk ty9 rfl bz) (Cr 8 zZ7 rfl (Aia (p:=b4.of_) (q:=d.of_) rfl rfl) (Ec rfl (kk d2 ?_)));refine Bp (t:=(b4.of_).toList==(d.of_).toList) rfl (fun R=>?_) (fun R=>?_)
    ·have dc:=Jr R;refine qA fun fo d3=>Av (iV 5) (l_k d3 (Aj (Cgg (Cgj (Cgj F y) B)) (Aq (E (rT (iV 5) ?_)))));rw[Nn w ((Yv H (Apj I J) M).trans (by rw[Ho,Db G (by omega) (Ia D (Auh (Aph.2 (.inl (by omega))) (Azd ay (by omega) R))) (by decide)]))]
    have dc:=Jq R;refine Al (kk d1 ?_);refine qC (l_v (Ah (v:=iV j) aw) (l_v (Fk (((j+1):Nat):Int)) (Av (iV ((j+1):Nat)) (Ac ?_))));refine⟨_,?_,(j+1),rfl,rfl,rfl,rfl,ab,V,ac,ad,W,av,rfl,(by omega),(Bfq ay R a1),trivial⟩;omega
   have db:=lZ1 ao;refine Bx (kk cx ?_);refine qD fun fp fq d4 d5=>Arw (Ba LPart.f_grams Cef rfl ty3 L W) fun ih c0=>?_;have⟨gd,ge⟩:=At.rng c0;refine l_v (Bc ty3 rfl c0) (Arv (Cj Bri Cft ?_));refine l_v (Iy rfl) (l_k d5 (Bp (t:=!(inR d.grams 1 100000)) rfl (fun ap=>?_) (fun ap=>?_)))
   ·have b7:=not_eq_t ap;have gv:=Abc.1 b7;refine qA fun eh c3=>Av (iV 1) (l_k c3 (Aj (Cgg (Cgj (Cgj F y) B)) (Aq (E (rT (iV 1) ?_)))));rw[Nn w ((Yv H (Apj I J) M).trans (by rw[Ho,Db G (by omega) (Ia D (Aug (Aph.2 (.inl (by omega))) (show Ib (g.parts.take k) _=false by rw[show k=j by omega];exact a1) b7)) (by decide)]))]
   have a2:=Fs ap;have gq:=Fz.1 a2;refine Al (kk d4 ?_);refine Ai fun ei ba=>Xp (Cr 0 (zT 1 20) rfl (Ah (v:=iV (En (b.lots.take i) d.of_)) av) (Cr 1 (zT 2 19) rfl (Uy rfl rfl) (Cr 2 (zT 3 18) rfl (Ah (v:=.bool (decide ((En (b.lots.take i) d.of_)>=0))) rfl) (Akk (decide ((En (b.lots.take i) d.of_)>=0)) (fun e=>?_) (fun e=>?_)))))
   ·have hkb:=Bco (s:=d.of_) (l:=b.lots.take i) (fun x hx=>Ue ok x hx);have hkl:(b.lots.take i).length<=8:=by rw[Ha];omega
    have N:=lZ2 e;refine Fp 3 (zT 4 17) rfl Cgi (qF e) (Ba LBook.f_lots Cec rfl Ee C V) fun gw de=>Fp 4 (zT 5 16) rfl Cgi (qF e) (Ax Ee rfl de) fun gx df=>Ix 5 (zT 6 15) rfl Cgi (qF e) (Ah (v:=iV i) ab) (Fp 6 (zT 7 14) rfl Cgi (qF e) (Sc i Cee Fm rfl df (q:=(i:Int)) rfl rfl (by first|omega|exact Adx N)) fun gy dg=>Fp 7 (zT 8 13) rfl Cgi (qF e) (Ba LPart.f_of_ Cef rfl ty9 L W) fun gz bg=>?_);have fu:=At.slen bg;refine Ix 8 (zT 9 12) rfl Cgi (qF e) (Pk ty9 rfl bg) (Fp 10 [o1,o1,o1,o1,o1,o1,o1,o1,o1,o0,o1,o0,o0,o0,o0,o0,o0,o0,o0,o0,o0] rfl Cgi (qF e) (Ba LPart.f_grams Cef rfl ty3 L W) fun h0 bh=>?_);have⟨fv,fw⟩:=At.rng bh;refine Ix 11 [o1,o1,o1,o1,o1,o1,o1,o1,o1,o0,o1,o1,o0,o0,o0,o0,o0,o0,o0,o0,o0] rfl Cgi (qF e) (Bc ty3 rfl bh) (Fp 13 [o1,o1,o1,o1,o1,o1,o1,o1,o1,o0,o1,o1,o0,o1,o0,o0,o0,o0,o0,o0,o0] rfl Cgi (qF e) (Ba LBook.f_lots Cec rfl Ee C V) fun h1 dh=>Fp 14 [o1,o1,o1,o1,o1,o1,o1,o1,o1,o0,o1,o1,o0,o1,o1,o0,o0,o0,o0,o0,o0] rfl Cgi (qF e) (Ax Ee rfl dh) fun h2 di=>Ix 15 [o1,o1,o1,o1,o1,o1,o1,o1,o1,o0,o1,o1,o0,o1,o1,o1,o0,o0,o0,o0,o0] rfl Cgi (qF e) (Ah (v:=iV (En (b.lots.take i) d.of_)) av) ?_);obtain⟨b1,b8⟩:=Ed (xs:=b.lots) (i:=((En (b.lots.take i) d.of_)).toNat) (by first|omega|exact Adx N);have YQ:=Bfv b8 N;have gh:=Qn ok YQ;have gf:=(ok.lnm _ _ YQ).2.2.2.2;refine Fp 16 [o1,o1,o1,o1,o1,o1,o1,o1,o1,o0,o1,o1,o0,o1,o1,o1,o1,o0,o0,o0,o0] rfl Cgi (qF e) (Ch (((En (b.lots.take i) d.of_)).toNat) Cee Fm rfl di (q:=En (b.lots.take i) d.of_) rfl (by omega) b8) fun h3 dj=>Fp 17 [o1,o1,o1,o1,o1,o1,o1,o1,o1,o0,o1,o1,o0,o1,o1,o1,o1,o1,o0,o0,o0] rfl Cgi (qF e) (Ax Fm rfl dj) fun h4 dk=>Ajg 9 [o1,o1,o1,o1,o1,o1,o1,o1,o1,o1,o1,o1,o0,o1,o1,o1,o1,o1,o0,o0,o0] rfl (qF e) (Bm (Bdh (s:=d.of_) dg (by rw[Ha];omega) (fun x hx=>Ue ok x hx)) Tryz.func84 rfl rfl ⟨rfl,rfl,trivial⟩ ⟨Cgi,?_⟩);refine Ix 12 (zT 18 3) rfl Cgi (qF e) (Br rfl rfl (z:=(tkO d.of_ (b.lots.take i))+d.grams) (Bo (by rfl) (by omega) (by omega))) (Ajg 18 (zT 19 2) rfl (qF e) (Bm (Air dk (by omega) (fun p hp=>by have:=(Ue ok _ (lZ5 YQ)).2 p hp;omega)) Cfq rfl rfl ⟨rfl,trivial⟩ ⟨Cgi,?_⟩));refine Js 19 (zT 20 1) rfl Cgi (qF e) (Gl rfl rfl) (Cr 20 (zT 21 0) rfl (Bt rfl e (v:=.bool (decide (((tkO d.of_ (b.lots.take i))+d.grams)>(Cw b1)))) rfl) (Ec rfl (kk ba ?_)));refine Bp (t:=decide (((tkO d.of_ (b.lots.take i))+d.grams)>(Cw b1))) rfl (fun af=>?_) (fun af=>?_)
    ·have az:=lZ2 af;refine qA fun ek c5=>Av (iV 8) (l_k c5 (Aj (Cgg (Cgj (Cgj F y) B)) (Aq (E (rT (iV 8) ?_)))));rw[Nn w ((Yv H (Apj I J) M).trans (by rw[Ho,Db G (by omega) (Ia D (Bfk ok (show Ib (g.parts.take k) _=false by rw[show k=j by omega];exact a1) a2 N YQ az)) (by decide)]))]
    have az:=lZ1 af;refine Al (kk ae ?_);refine qC (l_v (Ah (v:=iV k) ad) (l_v (Fk (((k+1):Nat):Int)) (Av (iV ((k+1):Nat)) (Bj (Cgg B) (Ac ?_)))));refine⟨_,?_,(k+1),rfl,rfl,rfl,rfl,ab,V,ac,rfl,(by omega),(Eg G (Ia D (Ayl ok (show Ib (g.parts.take k) _=false by rw[show k=j by omega];exact a1) a2 N YQ az))),trivial⟩;omega
   have N:=lZ1 e;refine Er 3 (zT 4 17) rfl Cgi (gN rfl e) (Er 4 (zT 5 16) rfl Cgi (gN rfl e) (Er 5 (zT 6 15) rfl Cgi (gN rfl e) (Er 6 (zT 7 14) rfl Cgi (gN rfl e) (Er 7 (zT 8 13) rfl Cgi (gN rfl e) (Er 8 (zT 9 12) rfl Cgi (gN rfl e) (Er 10 [o1,o1,o1,o1,o1,o1,o1,o1,o1,o0,o1,o0,o0,o0,o0,o0,o0,o0,o0,o0,o0] rfl Cgi (gN rfl e) (Er 11 [o1,o1,o1,o1,o1,o1,o1,o1,o1,o0,o1,o1,o0,o0,o0,o0,o0,o0,o0,o0,o0] rfl Cgi (gN rfl e) (Er 13 [o1,o1,o1,o1,o1,o1,o1,o1,o1,o0,o1,o1,o0,o1,o0,o0,o0,o0,o0,o0,o0] rfl Cgi (gN rfl e) (Er 14 [o1,o1,o1,o1,o1,o1,o1,o1,o1,o0,o1,o1,o0,o1,o1,o0,o0,o0,o0,o0,o0] rfl Cgi (gN rfl e) (Er 15 [o1,o1,o1,o1,o1,o1,o1,o1,o1,o0,o1,o1,o0,o1,o1,o1,o0,o0,o0,o0,o0] rfl Cgi (gN rfl e) (Er 16 [o1,o1,o1,o1,o1,o1,o1,o1,o1,o0,o1,o1,o0,o1,o1,o1,o1,o0,o0,o0,o0] rfl Cgi (gN rfl e) (Er 17 [o1,o1,o1,o1,o1,o1,o1,o1,o1,o0,o1,o1,o0,o1,o1,o1,o1,o1,o0,o0,o0] rfl Cgi (gN rfl e) (Pi 9 [o1,o1,o1,o1,o1,o1,o1,o1,o1,o1,o1,o1,o0,o1,o1,o1,o1,o1,o0,o0,o0] rfl Cgi (gN rfl e) (Er 12 (zT 18 3) rfl Cgi (gN rfl e) (Pi 18 (zT 19 2) rfl Cgi (gN rfl e) (Pi 19 (zT 20 1) rfl Cgi (gN rfl e) (Cr 20 (zT 21 0) rfl (Bn rfl e (v:=bF) rfl) (Ec rfl (kk ba ?_)))))))))))))))))));refine Cg rfl rfl (Al (kk ae ?_));refine qC (l_v (Ah (v:=iV k) ad) (l_v (Fk (((k+1):Nat):Int)) (Av (iV ((k+1):Nat)) (Bj (Cgg B) (Ac ?_)))));refine⟨_,?_,(k+1),rfl,rfl,rfl,rfl,ab,V,ac,rfl,(by omega),(Eg G (Ia D (Ayk (show Ib (g.parts.take k) _=false by rw[show k=j by omega];exact a1) a2 N (by omega)))),trivial⟩;omega
  have d9:=lZ1 u;refine Ap (gN rfl u) (Ap (gN rfl u) (Ap (gN rfl u) (Ap (gN rfl u) (Ap (gN rfl u) (Ap (gN rfl u) (l_v (Bn rfl u (v:=bF) rfl) (l_k bf (Cg rfl rfl (Al (kk be ?_))))))))));refine qD fun em en c6 c7=>Av (iV 0) (l_k c7 (Ao (Cc (fun mm ee dd Y' Z'=>∃(j:Nat),(k-j)=mm/\[]=dd/\c1=Y'/\Z=Z'/\ee 1=iV i/\ee 2=pV k2/\ee 5=pV k9/\ee 6=iV k/\ee 7=pV bd/\ee 8=(iV (En (b.lots.take i) d.of_))/\ee 9=iV j/\(j<=k)/\(Ib (g.parts.take j) d.of_=false)/\True) (m:=_) ⟨0,rfl,rfl,rfl,rfl,au,a8,a9,aa,rfl,rfl,rfl,Hz _,rfl,trivial⟩ ?_)));rintro gk fr _ _ _ ⟨j,rfl,rfl,rfl,rfl,a4,T,a5,a6,U,aq,ar,gn,a0,_⟩;refine qD fun ep eq c9 ca=>l_v (Ah (v:=iV j) ar) (l_v (Ah (v:=iV k) a6) (l_v (Da rfl rfl) (l_k ca (Bp (t:=decide ((j:Int)<(k:Int))) rfl (fun ag=>?_) (fun ag=>?_)))))
  ·have d6:=lZ2 ag;refine Al (kk c9 ?_);refine Ai fun er cb=>Ao (Ai fun es cc=>Xp (Fd 0 zZ9 rfl (Ba LLot.f_parts Ceg rfl Fv K a5) fun h5 dl=>Fd 1 Ajy rfl (Ax Fv rfl dl) fun h6 dm=>Dy 2 Ajz rfl (Ah (v:=iV j) ar) ?_));obtain⟨b2,ax⟩:=Ed (xs:=g.parts) (i:=j) (by omega);refine Fd 3 (zT 4 5) rfl (Ch j Ceh Lu rfl dm (q:=(j:Int)) rfl rfl ax) fun h7 dn=>Fd 4 (zT 5 4) rfl (Ba LPart.f_of_ Cef rfl ty9 dn) fun h9 bj=>?_;have fx:=At.slen bj;refine Dy 5 (zT 6 3) rfl (Pk ty9 rfl bj) (Hy 6 Aka rfl (Ba LPart.f_of_ Cef rfl ty9 L U) fun ha bk=>?_);have fy:=At.slen bk;refine Cr 7 zZ6 rfl (Pk ty9 rfl bk) (Cr 8 zZ7 rfl (Aia (p:=b2.of_) (q:=d.of_) rfl rfl) (Ec rfl (kk cc ?_)));refine Bp (t:=(b2.of_).toList==(d.of_).toList) rfl (fun P=>?_) (fun P=>?_)
   ·have d7:=Jr P;refine qA fun et cd=>Av (iV 5) (l_k cd (Aj (Cgg (Cgj (Cgj F y) B)) (Aq (E (rT (iV 5) ?_)))));rw[Nn w ((Yv H (Apj I J) M).trans (by rw[Ho,Db G (by omega) (Ia D (Auh (Aph.2 (.inr (by omega))) (Azd ax (by omega) P))) (by decide)]))]
   have d7:=Jq P;refine Al (kk cb ?_);refine qC (l_v (Ah (v:=iV j) ar) (l_v (Fk (((j+1):Nat):Int)) (Av (iV ((j+1):Nat)) (Ac ?_))));refine⟨_,?_,(j+1),rfl,rfl,rfl,rfl,a4,T,a5,a6,U,aq,rfl,(by omega),(Bfq ax P a0),trivial⟩;omega
  have d6:=lZ1 ag;refine Bx (kk c6 ?_);refine qD fun eu ev ce cf=>Arw (Ba LPart.f_grams Cef rfl ty3 L U) fun hb bl=>?_;have⟨fz,g0⟩:=At.rng bl;refine l_v (Bc ty3 rfl bl) (Arv (Cj Bri Cft ?_));refine l_v (Iy rfl) (l_k cf (Bp (t:=!(inR d.grams 1 100000)) rfl (fun ah=>?_) (fun ah=>?_)))
  ·have b5:=not_eq_t ah;have gr:=Abc.1 b5;refine qA fun ew cg=>Av (iV 1) (l_k cg (Aj (Cgg (Cgj (Cgj F y) B)) (Aq (E (rT (iV 1) ?_)))));rw[Nn w ((Yv H (Apj I J) M).trans (by rw[Ho,Db G (by omega) (Ia D (Aug (Aph.2 (.inr (by omega))) (show Ib (g.parts.take k) _=false by rw[show k=j by omega];exact a0) b5)) (by decide)]))]
  have a3:=Fs ah;have gs:=Fz.1 a3;refine Al (kk ce ?_);refine Ai fun ex bb=>Xp (Cr 0 (zT 1 20) rfl (Ah (v:=iV (En (b.lots.take i) d.of_)) aq) (Cr 1 (zT 2 19) rfl (Uy rfl rfl) (Cr 2 (zT 3 18) rfl (Ah (v:=.bool (decide ((En (b.lots.take i) d.of_)>=0))) rfl) (Akk (decide ((En (b.lots.take i) d.of_)>=0)) (fun f=>?_) (fun f=>?_)))))
  ·have hkb:=Bco (s:=d.of_) (l:=b.lots.take i) (fun x hx=>Ue ok x hx);have hkl:(b.lots.take i).length<=8:=by rw[Ha];omega
   have O:=lZ2 f;refine Fp 3 (zT 4 17) rfl Cgi (qF f) (Ba LBook.f_lots Cec rfl Ee C T) fun hc dp=>Fp 4 (zT 5 16) rfl Cgi (qF f) (Ax Ee rfl dp) fun hd dq=>Ix 5 (zT 6 15) rfl Cgi (qF f) (Ah (v:=iV i) a4) (Fp 6 (zT 7 14) rfl Cgi (qF f) (Sc i Cee Fm rfl dq (q:=(i:Int)) rfl rfl (by first|omega|exact Adx O)) fun he dr=>Fp 7 (zT 8 13) rfl Cgi (qF f) (Ba LPart.f_of_ Cef rfl ty9 L U) fun hf bm=>?_);have g2:=At.slen bm;refine Ix 8 (zT 9 12) rfl Cgi (qF f) (Pk ty9 rfl bm) (Fp 10 [o1,o1,o1,o1,o1,o1,o1,o1,o1,o0,o1,o0,o0,o0,o0,o0,o0,o0,o0,o0,o0] rfl Cgi (qF f) (Ba LPart.f_grams Cef rfl ty3 L U) fun hg bn=>?_);have⟨g3,g4⟩:=At.rng bn;refine Ix 11 [o1,o1,o1,o1,o1,o1,o1,o1,o1,o0,o1,o1,o0,o0,o0,o0,o0,o0,o0,o0,o0] rfl Cgi (qF f) (Bc ty3 rfl bn) (Fp 13 [o1,o1,o1,o1,o1,o1,o1,o1,o1,o0,o1,o1,o0,o1,o0,o0,o0,o0,o0,o0,o0] rfl Cgi (qF f) (Ba LBook.f_lots Cec rfl Ee C T) fun hh ds=>Fp 14 [o1,o1,o1,o1,o1,o1,o1,o1,o1,o0,o1,o1,o0,o1,o1,o0,o0,o0,o0,o0,o0] rfl Cgi (qF f) (Ax Ee rfl ds) fun hk dt=>Ix 15 [o1,o1,o1,o1,o1,o1,o1,o1,o1,o0,o1,o1,o0,o1,o1,o1,o0,o0,o0,o0,o0] rfl Cgi (qF f) (Ah (v:=iV (En (b.lots.take i) d.of_)) aq) ?_);obtain⟨b3,b9⟩:=Ed (xs:=b.lots) (i:=((En (b.lots.take i) d.of_)).toNat) (by first|omega|exact Adx O);have ZQ:=Bfv b9 O;have gi:=Qn ok ZQ;have gg:=(ok.lnm _ _ ZQ).2.2.2.2;refine Fp 16 [o1,o1,o1,o1,o1,o1,o1,o1,o1,o0,o1,o1,o0,o1,o1,o1,o1,o0,o0,o0,o0] rfl Cgi (qF f) (Ch (((En (b.lots.take i) d.of_)).toNat) Cee Fm rfl dt (q:=En (b.lots.take i) d.of_) rfl (by omega) b9) fun hl du=>Fp 17 [o1,o1,o1,o1,o1,o1,o1,o1,o1,o0,o1,o1,o0,o1,o1,o1,o1,o1,o0,o0,o0] rfl Cgi (qF f) (Ax Fm rfl du) fun hm dv=>Ajg 9 [o1,o1,o1,o1,o1,o1,o1,o1,o1,o1,o1,o1,o0,o1,o1,o1,o1,o1,o0,o0,o0] rfl (qF f) (Bm (Bdh (s:=d.of_) dr (by rw[Ha];omega) (fun x hx=>Ue ok x hx)) Tryz.func84 rfl rfl ⟨rfl,rfl,trivial⟩ ⟨Cgi,?_⟩);refine Ix 12 (zT 18 3) rfl Cgi (qF f) (Br rfl rfl (z:=(tkO d.of_ (b.lots.take i))+d.grams) (Bo (by rfl) (by omega) (by omega))) (Ajg 18 (zT 19 2) rfl (qF f) (Bm (Air dv (by omega) (fun p hp=>by have:=(Ue ok _ (lZ5 ZQ)).2 p hp;omega)) Cfq rfl rfl ⟨rfl,trivial⟩ ⟨Cgi,?_⟩));refine Js 19 (zT 20 1) rfl Cgi (qF f) (Gl rfl rfl) (Cr 20 (zT 21 0) rfl (Bt rfl f (v:=.bool (decide (((tkO d.of_ (b.lots.take i))+d.grams)>(Cw b3)))) rfl) (Ec rfl (kk bb ?_)));refine Bp (t:=decide (((tkO d.of_ (b.lots.take i))+d.grams)>(Cw b3))) rfl (fun aj=>?_) (fun aj=>?_)
   ·have b0:=lZ2 aj;refine qA fun ey ch=>Av (iV 8) (l_k ch (Aj (Cgg (Cgj (Cgj F y) B)) (Aq (E (rT (iV 8) ?_)))));rw[Nn w ((Yv H (Apj I J) M).trans (by rw[Ho,Db G (by omega) (Ia D (Bfk ok (show Ib (g.parts.take k) _=false by rw[show k=j by omega];exact a0) a3 O ZQ b0)) (by decide)]))]
   have b0:=lZ1 aj;refine Al (kk ae ?_);refine qC (l_v (Ah (v:=iV k) a6) (l_v (Fk (((k+1):Nat):Int)) (Av (iV ((k+1):Nat)) (Bj (Cgg B) (Ac ?_)))));refine⟨_,?_,(k+1),rfl,rfl,rfl,rfl,a4,T,a5,rfl,(by omega),(Eg G (Ia D (Ayl ok (show Ib (g.parts.take k) _=false by rw[show k=j by omega];exact a0) a3 O ZQ b0))),trivial⟩;omega
  have O:=lZ1 f;refine Er 3 (zT 4 17) rfl Cgi (gN rfl f) (Er 4 (zT 5 16) rfl Cgi (gN rfl f) (Er 5 (zT 6 15) rfl Cgi (gN rfl f) (Er 6 (zT 7 14) rfl Cgi (gN rfl f) (Er 7 (zT 8 13) rfl Cgi (gN rfl f) (Er 8 (zT 9 12) rfl Cgi (gN rfl f) (Er 10 [o1,o1,o1,o1,o1,o1,o1,o1,o1,o0,o1,o0,o0,o0,o0,o0,o0,o0,o0,o0,o0] rfl Cgi (gN rfl f) (Er 11 [o1,o1,o1,o1,o1,o1,o1,o1,o1,o0,o1,o1,o0,o0,o0,o0,o0,o0,o0,o0,o0] rfl Cgi (gN rfl f) (Er 13 [o1,o1,o1,o1,o1,o1,o1,o1,o1,o0,o1,o1,o0,o1,o0,o0,o0,o0,o0,o0,o0] rfl Cgi (gN rfl f) (Er 14 [o1,o1,o1,o1,o1,o1,o1,o1,o1,o0,o1,o1,o0,o1,o1,o0,o0,o0,o0,o0,o0] rfl Cgi (gN rfl f) (Er 15 [o1,o1,o1,o1,o1,o1,o1,o1,o1,o0,o1,o1,o0,o1,o1,o1,o0,o0,o0,o0,o0] rfl Cgi (gN rfl f) (Er 16 [o1,o1,o1,o1,o1,o1,o1,o1,o1,o0,o1,o1,o0,o1,o1,o1,o1,o0,o0,o0,o0] rfl Cgi (gN rfl f) (Er 17 [o1,o1,o1,o1,o1,o1,o1,o1,o1,o0,o1,o1,o0,o1,o1,o1,o1,o1,o0,o0,o0] rfl Cgi (gN rfl f) (Pi 9 [o1,o1,o1,o1,o1,o1,o1,o1,o1,o1,o1,o1,o0,o1,o1,o1,o1,o1,o0,o0,o0] rfl Cgi (gN rfl f) (Er 12 (zT 18 3) rfl Cgi (gN rfl f) (Pi 18 (zT 19 2) rfl Cgi (gN rfl f) (Pi 19 (zT 20 1) rfl Cgi (gN rfl f) (Cr 20 (zT 21 0) rfl (Bn rfl f (v:=bF) rfl) (Ec rfl (kk bb ?_)))))))))))))))))));refine Cg rfl rfl (Al (kk ae ?_));refine qC (l_v (Ah (v:=iV k) a6) (l_v (Fk (((k+1):Nat):Int)) (Av (iV ((k+1):Nat)) (Bj (Cgg B) (Ac ?_)))));refine⟨_,?_,(k+1),rfl,rfl,rfl,rfl,a4,T,a5,rfl,(by omega),(Eg G (Ia D (Ayk (show Ib (g.parts.take k) _=false by rw[show k=j by omega];exact a0) a3 O (by omega)))),trivial⟩;omega
 have d8:=lZ1 am;refine Bx (kk cq ?_);refine qA fun ez ci=>Av (iV 0) (l_k ci (Aj (Cgg (Cgj F y)) (Aq (E (rT (iV 0) ?_)))));rw[Nn w ((Yv H (Apj I J) M).trans (by rw[Ho,Fb fun j hj=>G j (by omega)]))]
theorem Asz{b:LBook}{vb:Value}(rv:Val Y vb b):CallsH (CX mn X) 17 #[vb] Y Z (rP Y Z (iV (Hb b))):=by
 refine Bq 52 [2] Tryz.func17 rfl fun Q g bv=>qA fun K1 V=>Arv (Ox (v:=vb) rfl fun K=>?_);refine Bb (a:=b) rv fun T k c=>Av (iV 0) (Ary rfl rfl V fun K3 K4 k3 k4=>Arw (Ba LBook.f_fields Cec rfl Hw c) fun v5 r5=>Arw (Ax Hw rfl r5) fun v6 R=>?_);have g7:=Val.len R;refine l_v (Ci (el:=9) Ced rfl R) (l_v (Gl rfl rfl) (l_k k4 (Bp (t:=decide ((b.fields.length:Int)>5)) rfl (fun D=>?_) (fun D=>?_))))
 ·have q8:=lZ2 D;refine qA fun K9 k9=>Av (iV 2) (l_k k9 (Aj (Cgg k) (Aq (g (rT (iV 2) ?_)))));rw[Bet (by omega)]
 have q8:=lZ1 D;refine Al (kk k3 ?_);refine qD fun b0 b1 W YQ=>Av (iV 0) (l_k YQ (Ao (Cc (fun mm ee dd Y' Z'=>∃(f:Nat),(b.fields.length-f)=mm/\[]=dd/\T=Y'/\Z=Z'/\ee 1=pV K/\ee 3=iV f/\(f<=b.fields.length)/\(∀j,j<f->Jw b.fields j=0)/\True) (m:=_) ⟨0,rfl,rfl,rfl,rfl,rfl,rfl,Hz _,fun j h=>absurd h (Vn _),trivial⟩ ?_)));rintro bx bn _ _ _ ⟨f,rfl,rfl,rfl,rfl,d,p,c0,e,_⟩;refine qD fun b2 b3 ZQ a0=>l_v (Ah (v:=iV f) p) (Arw (Ba LBook.f_fields Cec rfl Hw c d) fun c2 an=>Arw (Ax Hw rfl an) fun c3 L=>?_);have bp:=Val.len L;refine l_v (Ci (el:=9) Ced rfl L) (l_v (Da rfl rfl) (l_k a0 (Bp (t:=decide ((f:Int)<(b.fields.length:Int))) rfl (fun y=>?_) (fun y=>?_))))
 ·have aj:=lZ2 y;refine Al (kk ZQ ?_);refine Ai fun b4 a1=>Ao (qD fun b5 b6 a2 a3=>Arw (Ba LBook.f_fields Cec rfl Hw c d) fun c4 ao=>Arw (Ax Hw rfl ao) fun c5 ap=>l_v (Ah (v:=iV f) p) ?_);obtain⟨H,u⟩:=Ed (xs:=b.fields) (i:=f) (by omega);refine Arw (Ch f Ced ty9 rfl ap (q:=(f:Int)) rfl rfl u) fun c6 M=>?_;have bq:=At.slen M;refine l_v (Pk ty9 rfl M) (Arv (Cj Bkp Tryz.func48 ?_));refine l_v (Iy rfl) (l_k a3 (Bp (t:=!(Hg H)) rfl (fun z=>?_) (fun z=>?_)))
  ·have U:=not_eq_t z;refine qA fun b7 a4=>Av (iV 4) (l_k a4 (Aj (Cgg k) (Aq (g (rT (iV 4) ?_)))));rw[Bbs (by omega) (Db e (by omega) (Bln u U) (by decide)) (by decide)]
  have I:=Fs z;refine Al (kk a2 ?_);refine Ai fun b9 a5=>Xp (Fd 0 (zT 1 10) rfl (Ba LBook.f_fields Cec rfl Hw c d) fun c7 aq=>Fd 1 (zT 2 9) rfl (Ax Hw rfl aq) fun c8 ar=>Dy 2 (zT 3 8) rfl (Ah (v:=iV f) p) (Fd 3 (zT 4 7) rfl (Sc f Ced ty9 rfl ar (q:=(f:Int)) rfl rfl (by omega)) fun c9 au=>Fd 4 (zT 5 6) rfl (Ba LBook.f_fields Cec rfl Hw c d) fun ca av=>Fd 5 (zT 6 5) rfl (Ax Hw rfl av) fun cb aw=>Cr 6 (zT 7 4) rfl (Ah (v:=iV f) p) (Hy 7 (zT 8 3) rfl (Ch f Ced ty9 rfl aw (q:=(f:Int)) rfl rfl u) fun cc N=>?_)));have br:=At.slen N;refine Cr 8 (zT 9 2) rfl (Pk ty9 rfl N) (Qw 9 (zT 10 1) rfl (Bm (Bai au) Cfz rfl rfl ⟨rfl,rfl,trivial⟩ ⟨Cgi,?_⟩));refine Cr 10 (zT 11 0) rfl (Uy rfl rfl) (Ec rfl (kk a5 ?_));refine Bp (t:=decide (Aht (b.fields.take f) H>=0)) rfl (fun B=>?_) (fun B=>?_)
  ·have G:=lZ2 B;refine qA fun ba a6=>Av (iV 5) (l_k a6 (Aj (Cgg k) (Aq (g (rT (iV 5) ?_)))));rw[Bbs (by omega) (Db e (by omega) (Blo u I G) (by decide)) (by decide)]
  have G:=lZ1 B;refine Al (kk a1 ?_);refine qC (l_v (Ah (v:=iV f) p) (l_v (Fk (((f+1):Nat):Int)) (Av (iV ((f+1):Nat)) (Ac ?_))));refine⟨_,?_,(f+1),rfl,rfl,rfl,rfl,d,rfl,(by omega),(Eg e (Blm u I G)),trivial⟩;omega
 have aj:=lZ1 y;refine Bx (kk W ?_);refine qD fun bb bc a7 a8=>Arw (Ba LBook.f_lots Cec rfl Ee c d) fun cd ax=>Arw (Ax Ee rfl ax) fun ce O=>?_;have bt:=Val.len O;refine l_v (Ci (el:=51) Cee rfl O) (l_v (Gl rfl rfl) (l_k a8 (Bp (t:=decide ((b.lots.length:Int)>8)) rfl (fun w=>?_) (fun w=>?_))))
 ·have ak:=lZ2 w;refine qA fun bd a9=>Av (iV 2) (l_k a9 (Aj (Cgg k) (Aq (g (rT (iV 2) ?_)))));rw[Beu (by omega) (Fb fun j hj=>e j (by omega)) (by omega)]
 have J:b.lots.length<=8:=by have:=lZ1 w;omega
 have ak:=lZ1 w;refine Al (kk a7 ?_);refine qD fun be bf aa ab=>Av (iV 0) (l_k ab (Ao (Cc (fun mm ee dd Y' Z'=>∃(l:Nat),(b.lots.length-l)=mm/\[]=dd/\T=Y'/\Z=Z'/\ee 1=pV K/\ee 4=iV l/\(l<=b.lots.length)/\(∀j,j<l->Nz b j=0)/\True) (m:=_) ⟨0,rfl,rfl,rfl,rfl,d,rfl,Hz _,fun j h=>absurd h (Vn _),trivial⟩ ?_)));rintro bz bo _ _ _ ⟨l,rfl,rfl,rfl,rfl,E,F,c1,x,_⟩;refine qD fun bg bh ac ad=>l_v (Ah (v:=iV l) F) (Arw (Ba LBook.f_lots Cec rfl Ee c E) fun cf ay=>Arw (Ax Ee rfl ay) fun cg P=>?_);have bu:=Val.len P;refine l_v (Ci (el:=51) Cee rfl P) (l_v (Da rfl rfl) (l_k ad (Bp (t:=decide ((l:Int)<(b.lots.length:Int))) rfl (fun C=>?_) (fun C=>?_))))
 ·have al:=lZ2 C;refine Al (kk ac ?_);refine Ai fun bi ae=>Ao (qA fun bj af=>Arw (Ax Mk E c) fun ch az=>l_v (Ah (v:=iV l) F) (Arv (Cj (Bak az (Btn (by omega) (fun j hj=>e j (by omega)) J x) J (by omega)) Tryz.func50 ?_)));refine Av (iV (Nz b l)) (qB af fun bk ag=>Au (iV (Nz b l)) (l_v (Dg rfl rfl) (l_k ag (Bp (t:=(Nz b l) != 0) rfl (fun n=>?_) (fun n=>?_)))))
  ·have am:=Ls n;refine qA fun bl ah=>Au (iV (Nz b l)) (Av (iV (Nz b l)) (l_k ah (Aj (Cgg k) (Aq (g (rT (iV (Nz b l)) ?_))))));rw[Yx (by omega) (Fb fun j hj=>e j (by omega)) (by omega) (Db x (by omega) rfl (Ls n))]
  have am:=Jh n;refine Al (kk ae ?_);refine qC (l_v (Ah (v:=iV l) F) (l_v (Fk (((l+1):Nat):Int)) (Av (iV ((l+1):Nat)) (Ac ?_))));refine⟨_,?_,(l+1),rfl,rfl,rfl,rfl,E,rfl,(by omega),(Eg x (Jh n)),trivial⟩;omega
 have al:=lZ1 C;refine Bx (kk aa ?_);refine qA fun bm ai=>Av (iV 0) (l_k ai (Aj (Cgg k) (Aq (g (rT (iV 0) ?_)))));rw[Yx (by omega) (Fb fun j hj=>e j (by omega)) (by omega) (Fb fun j hj=>x j (by omega))]
theorem Brq{l:LLot}{vl:Value}(rl:Val Y vl l):CallsH (CX mn X) 24 #[vl] Y Z (fun w Y' Z'=>Y'=Y/\Z'=Z/\∃z,w = .int .i64 z):=by
 refine Bq 29 [2] Tryz.func24 rfl fun Q j ab=>qA fun ZQ C=>Arv (Ox (v:=vl) rfl fun I=>?_);refine Bb (a:=l) rl fun YQ k c=>Av (iV 0) (Ary rfl rfl C fun K3 K4 L M=>Arw (Ba LLot.f_parts Ceg rfl Fv c) fun v5 W=>Arw (Ax Fv rfl W) fun v6 y=>?_);have g7:=Val.len y;refine l_v (Ci (el:=127) Ceh rfl y) (l_v (Gl rfl rfl) (l_k M (Bp (t:=decide ((l.parts.length:Int)>40)) rfl (fun e=>?_) (fun e=>?_))))
 ·have P:=lZ2 e;refine qA fun K9 N=>Av (iV 1001) (l_k N (Aj (Cgg k) (Aq (j ⟨rfl,rfl,_,rfl⟩))))
 have P:=lZ1 e;refine Al (kk L ?_);refine qA fun a0 D=>Arw (Ba LLot.f_name Ceg rfl ty9 c) fun ae p=>?_;have a8:=At.slen p;refine l_v (Pk ty9 rfl p) (l_v (Afz Ceb (s:=l.name) rfl) (Av (iV (l.name.size:Int)) (Ary rfl rfl D fun a1 a2 E F=>Av (iV 0) (l_k F (Ao (Cc (fun mm ee dd Y' Z'=>∃(i:Nat) (n:Int),(l.parts.length-i)=mm/\[]=dd/\YQ=Y'/\Z=Z'/\ee 1=pV I/\ee 3=iV n/\ee 4=iV i/\(i<=l.parts.length)/\True) (m:=_) ⟨0,(l.name.size:Int),rfl,rfl,rfl,rfl,rfl,rfl,rfl,Hz _,trivial⟩ ?_))))));rintro ac a7 _ _ _ ⟨i,n,rfl,rfl,rfl,rfl,f,h,g,ad,_⟩;refine qD fun a3 a4 G H=>l_v (Ah (v:=iV i) g) (Arw (Ba LLot.f_parts Ceg rfl Fv c f) fun af R=>Arw (Ax Fv rfl R) fun ag u=>?_);have a9:=Val.len u;refine l_v (Ci (el:=127) Ceh rfl u) (l_v (Da rfl rfl) (l_k H (Bp (t:=decide ((i:Int)<(l.parts.length:Int))) rfl (fun d=>?_) (fun d=>?_))))
 ·have O:=lZ2 d;refine Al (kk G ?_);refine Ai fun a5 J=>Ao (qC (l_v (Ah (v:=iV n) h) (Arw (Ba LLot.f_parts Ceg rfl Fv c f) fun ah T=>Arw (Ax Fv rfl T) fun ai U=>l_v (Ah (v:=iV i) g) ?_)));obtain⟨b,B⟩:=Ed (xs:=l.parts) (i:=i) (by omega);refine Arw (Ch i Ceh Lu rfl U (q:=(i:Int)) rfl rfl B) fun aj V=>Arw (Ba LPart.f_of_ Cef rfl ty9 V) fun ak x=>?_;have aa:=At.slen x;refine l_v (Pk ty9 rfl x) (l_v (Afz Ceb (s:=b.of_) rfl) (l_v (Br rfl rfl (z:=IntKind.i64.wrap (n+(b.of_.size:Int))) rfl) (Av (iV (IntKind.i64.wrap (n+(b.of_.size:Int)))) (l_k J (qC (l_v (Ah (v:=iV i) g) (l_v (Fk (((i+1):Nat):Int)) (Av (iV ((i+1):Nat)) (Ac ?_)))))))));refine⟨_,?_,(i+1),(IntKind.i64.wrap (n+(b.of_.size:Int))),rfl,rfl,rfl,rfl,f,rfl,rfl,(by omega),trivial⟩;omega
 have O:=lZ1 d;refine Bx (kk E ?_);refine qA fun a6 K=>l_v (Ah (v:=iV n) h) (Av (iV n) (l_k K (Aj (Cgg k) (Aq (j ⟨rfl,rfl,_,rfl⟩)))))
theorem Bkk{b:LBook}{vb:Value}(rv:Val Y vb b):CallsH (CX mn X) 6 #[vb] Y Z (fun w Y' Z'=>Y'=Y/\Z'=Z/\∃b,w = .bool b):=by
 refine Bq 48 [2] Tryz.func6 rfl fun Q y b9=>qA fun K1 U=>Arv (Ox (v:=vb) rfl fun G=>?_);refine Bb (a:=b) rv fun N C d=>Av bF (Ary rfl rfl U fun K3 K4 k3 H=>Arw (Ba LBook.f_fields Cec rfl Hw d) fun v5 r5=>Arw (Ax Hw rfl r5) fun v6 M=>?_);have g7:=Val.len M;refine l_v (Ci (el:=9) Ced rfl M) (l_v (Gl rfl rfl) (Au (.bool (decide ((b.fields.length:Int)>40))) (Cn (decide ((b.fields.length:Int)>40)) (fun c=>?_) (fun c=>?_))))
 ·have q8:=lZ2 c;refine Ap (gN rfl c) (Ap (gN rfl c) (Ap (gN rfl c) (Ap (gN rfl c) (l_v (Bt rfl c (v:=bT) rfl) (l_k H (Co rfl rfl (qA fun K9 k9=>Av bT (l_k k9 (Aj (Cgg C) (Aq (y ⟨rfl,rfl,_,rfl⟩)))))))))))
 have q8:=lZ1 c;refine Ak (qF c) (Ba LBook.f_lots Cec rfl Ee d) fun be ac=>Ak (qF c) (Ax Ee rfl ac) fun bf I=>?_;have b4:=Val.len I;refine Aa (qF c) (Ci (el:=51) Cee rfl I) (Aa (qF c) (Gl rfl rfl) (l_v (Bn rfl c (v:=.bool (decide ((b.lots.length:Int)>40))) rfl) (l_k H (Bp (t:=decide ((b.lots.length:Int)>40)) rfl (fun g=>?_) (fun g=>?_)))))
 ·have a9:=lZ2 g;refine qA fun am V=>Av bT (l_k V (Aj (Cgg C) (Aq (y ⟨rfl,rfl,_,rfl⟩))))
 have a9:=lZ1 g;refine Al (kk k3 ?_);refine qA fun an W=>Av (iV 0) (Ary rfl rfl W fun ao ap YQ ZQ=>Av (iV 0) (l_k ZQ (Ao (Cc (fun mm ee dd Y' Z'=>∃(i:Nat) (n:Int),(b.fields.length-i)=mm/\[]=dd/\N=Y'/\Z=Z'/\ee 1=pV G/\ee 3=iV n/\ee 4=iV i/\(i<=b.fields.length)/\True) (m:=_) ⟨0,0,rfl,rfl,rfl,rfl,rfl,rfl,rfl,Hz _,trivial⟩ ?_))));rintro ba b2 _ _ _ ⟨i,n,rfl,rfl,rfl,rfl,f,E,k,bc,_⟩;refine qD fun aq ar a0 a1=>l_v (Ah (v:=iV i) k) (Arw (Ba LBook.f_fields Cec rfl Hw d f) fun bg ad=>Arw (Ax Hw rfl ad) fun bh J=>?_);have b5:=Val.len J;refine l_v (Ci (el:=9) Ced rfl J) (l_v (Da rfl rfl) (l_k a1 (Bp (t:=decide ((i:Int)<(b.fields.length:Int))) rfl (fun h=>?_) (fun h=>?_))))
 ·have aa:=lZ2 h;refine Al (kk a0 ?_);refine Ai fun au a2=>Ao (qC (l_v (Ah (v:=iV n) E) (Arw (Ba LBook.f_fields Cec rfl Hw d f) fun bi ae=>Arw (Ax Hw rfl ae) fun bj af=>l_v (Ah (v:=iV i) k) ?_)));obtain⟨e,O⟩:=Ed (xs:=b.fields) (i:=i) (by omega);refine Arw (Ch i Ced ty9 rfl af (q:=(i:Int)) rfl rfl O) fun bk K=>?_;have b6:=At.slen K;refine l_v (Pk ty9 rfl K) (l_v (Afz Ceb (s:=e) rfl) (l_v (Br rfl rfl (z:=IntKind.i64.wrap (n+(e.size:Int))) rfl) (Av (iV (IntKind.i64.wrap (n+(e.size:Int)))) (l_k a2 (qC (l_v (Ah (v:=iV i) k) (l_v (Fk (((i+1):Nat):Int)) (Av (iV ((i+1):Nat)) (Ac ?_)))))))));refine⟨_,?_,(i+1),(IntKind.i64.wrap (n+(e.size:Int))),rfl,rfl,rfl,rfl,f,rfl,rfl,(by omega),trivial⟩;omega
 have aa:=lZ1 h;refine Bx (kk YQ ?_);refine qD fun av aw a3 a4=>Av (iV 0) (l_k a4 (Ao (Cc (fun mm ee dd Y' Z'=>∃(i:Nat) (n:Int),(b.lots.length-i)=mm/\[]=dd/\N=Y'/\Z=Z'/\ee 1=pV G/\ee 3=iV n/\ee 5=iV i/\(i<=b.lots.length)/\True) (m:=_) ⟨0,n,rfl,rfl,rfl,rfl,f,E,rfl,Hz _,trivial⟩ ?_)));rintro bb b3 _ _ _ ⟨i,n,rfl,rfl,rfl,rfl,p,F,u,bd,_⟩;refine qD fun ax ay a5 a6=>l_v (Ah (v:=iV i) u) (Arw (Ba LBook.f_lots Cec rfl Ee d p) fun bl ag=>Arw (Ax Ee rfl ag) fun bm L=>?_);have b7:=Val.len L;refine l_v (Ci (el:=51) Cee rfl L) (l_v (Da rfl rfl) (l_k a6 (Bp (t:=decide ((i:Int)<(b.lots.length:Int))) rfl (fun j=>?_) (fun j=>?_))))
 ·have ab:=lZ2 j;refine Al (kk a5 ?_);refine Ai fun az a7=>Ao (qC (l_v (Ah (v:=iV n) F) (Arw (Ba LBook.f_lots Cec rfl Ee d p) fun bn ah=>Arw (Ax Ee rfl ah) fun bo ai=>l_v (Ah (v:=iV i) u) ?_)));obtain⟨b1,P⟩:=Ed (xs:=b.lots) (i:=i) (by omega);refine Arw (Ch i Cee Fm rfl ai (q:=(i:Int)) rfl rfl P) fun bp aj=>Arw (Ax Fm rfl aj) fun al ak=>Arv (Cm (vs:=[al]) (Brq ak) Tryz.func24 rfl rfl ⟨rfl,trivial⟩ fun bq br bt R=>?_);obtain⟨x,B,D,T⟩:=R;replace x:=x.symm;replace B:=B.symm;subst x B T;refine l_v (Br rfl rfl (z:=IntKind.i64.wrap (n+D)) rfl) (Av (iV (IntKind.i64.wrap (n+D))) (l_k a7 (qC (l_v (Ah (v:=iV i) u) (l_v (Fk (((i+1):Nat):Int)) (Av (iV ((i+1):Nat)) (Ac ?_)))))));refine⟨_,?_,(i+1),(IntKind.i64.wrap (n+D)),rfl,rfl,rfl,rfl,p,rfl,rfl,(by omega),trivial⟩;omega
 have ab:=lZ1 j;refine Bx (kk a3 ?_);refine qA fun b0 a8=>l_v (Ah (v:=iV n) F) (l_v (Gl rfl rfl) (Av (.bool (decide (n>1000))) (l_k a8 (Aj (Cgg C) (Aq (y ⟨rfl,rfl,_,rfl⟩))))))
theorem Apx{n s:Nat}(hn:n<=8)(hs:s<256):CallsH (CX mn X) 22 #[iV n,.int .u8 (s:Int)] Y Z (fun w Y' Z'=>Ro.le Y Y'/\Z'=Z/\Val Y' w (Bw (Ds n s):List Int)):=by
 refine Bq 22 [4] Tryz.func22 rfl fun Q I a2=>qA fun K1 J=>Av nS (Arx rfl rfl J fun K2 M=>Av nS (Ary rfl rfl M fun K3 K4 N O=>Av (iV 0) (l_k O (Ao (Cc (fun mm ee dd Y' Z'=>∃(i:Nat) (a:Value) (e:Own),(n-i)=mm/\[]=dd/\Ro.le Y Y'/\(e++Z)=Z'/\ee 0=iV n/\ee 1=(.int .u8 (s:Int))/\ee 5=a/\ee 6=iV i/\(i<=n)/\Grow Y' 3 a (Bw ((List.range i).filter (Gw s))) e/\True) (m:=_) ⟨0,nS,[],rfl,rfl,Cgi,rfl,rfl,rfl,rfl,rfl,Hz _,Hm,trivial⟩ ?_)))));rintro m5 e5 _ ZQ _ ⟨i,a,e,rfl,rfl,k,rfl,g,h,j,d,a3,b,_⟩;refine qD fun K6 K7 P R=>l_v (Ah (v:=iV i) d) (l_v (Ah (v:=iV n) g) (l_v (Da rfl rfl) (l_k R (Bp (t:=decide ((i:Int)<(n:Int))) rfl (fun f=>?_) (fun f=>?_)))))
 ·have V:=lZ2 f;refine Al (kk P ?_);refine Ai fun K9 x=>Ao (qA fun a0 K=>l_v (Ah (v:=.int .u8 (s:Int)) h) (l_v (Ah (v:=iV i) d) (l_v (Cak (p:=s) (q:=i) rfl rfl (by omega)) (l_v (Cag (p:=s>>>i) (q:=1) rfl rfl (Bbp (Axy _ _) (by omega)) (by decide)) (l_v (Ek rfl rfl) (l_k K (Bp (t:=((((s>>>i) &&& 1):Nat):Int)==1) rfl (fun c=>?_) (fun c=>?_))))))))
  ·have G:=bitM.symm.trans c;have U:=Jr c;refine qC (l_v (Ah (v:=a) j) (l_v (Ah (v:=iV i) d) (Arv (Bi (α:=Int) (xs:=[(i:Int)]) (vs:=[iV i]) Cei ty3 zr3 rfl (by decide) (Dk (os:=[.tmp 18]) ⟨rfl,trivial⟩) ⟨Cv.2 ⟨rfl,by constructor<;>omega⟩,trivial⟩ rfl (by decide) fun u E D=>?_))))
   have B:Grow ZQ 3 (.slice (some ⟨u,0,none⟩) 1 1) ([(i:Int)]:List Int) [(u,oC E.toArray 3)]:=Bs D rfl (by decide);refine Ca B fun a4 y W=>?_;replace b:=Grow.mono y b;refine Arv (Gc (Z:=Z) (gr:=e) (xs:=Bw ((List.range i).filter (Gw s))) (ys:=([(i:Int)]:List Int)) Cei Cei (Ab Cfn) rfl nL rfl rfl rfl rfl b W (by have:=Alb (p:=Gw s) (i:=i);simp only[lZ4,Gk,Pc];omega) fun z F C=>?_);refine Av z (l_k x (qC (l_v (Ah (v:=iV i) d) (l_v (Fk (((i+1):Nat):Int)) (Av (iV ((i+1):Nat)) (Ac ?_))))));refine⟨_,?_,(i+1),z,F,rfl,rfl,(Cgj k y),rfl,g,h,rfl,rfl,(by omega),(Fy (by rw[Aps G]) C),trivial⟩;omega
  have H:=bitM.symm.trans c;have U:=Jq c;refine Al (kk x ?_);refine qC (l_v (Ah (v:=iV i) d) (l_v (Fk (((i+1):Nat):Int)) (Av (iV ((i+1):Nat)) (Ac ?_))));refine⟨_,?_,(i+1),a,e,rfl,rfl,k,rfl,g,h,j,rfl,(by omega),(Fy (by rw[Apr H]) b),trivial⟩;omega
 have V:=lZ1 f;refine Bx (kk N ?_);refine qA fun a1 L=>l_v (Ah (v:=a) j) (Av a (l_k L (Hc b fun a5 T YQ=>Aq (I ⟨Cgj k T,rfl,Abz (v:=a) rfl (Val.cast ?_ YQ)⟩))))
 ·rw[show i=n by omega];rfl
end
section
inductive Tr(α:Type) where
 | leaf
 | node (v:Option α) (l r:Tr α)
def Tr.get{α:Type}(t:Tr α):Nat->Option α:=Tr.rec (motive:=fun _=>Nat->Option α) (fun _=>none)
 (fun v _ _ gl gr k=>Bool.rec (Bool.rec (gl (Nat.div k 2)) (gr (Nat.sub (Nat.div k 2) 1)) (Nat.beq (Nat.mod k 2) 0)) v (Nat.beq k 0)) t
def Tr.put{α:Type}(n:Nat):Tr α->Nat->α->Tr α:=Nat.rec (motive:=fun _=>Tr α->Nat->α->Tr α) (fun t _ _=>t)
 (fun _ ih t k a=>Tr.rec (motive:=fun _=>Tr α)
  (Bool.rec (Bool.rec (.node none (ih .leaf (Nat.div k 2) a) .leaf) (.node none .leaf (ih .leaf (Nat.sub (Nat.div k 2) 1) a)) (Nat.beq (Nat.mod k 2) 0)) (.node (some a) .leaf .leaf) (Nat.beq k 0))
  (fun v l r _ _=>Bool.rec (Bool.rec (.node v (ih l (Nat.div k 2) a) r) (.node v l (ih r (Nat.sub (Nat.div k 2) 1) a)) (Nat.beq (Nat.mod k 2) 0)) (.node (some a) l r) (Nat.beq k 0)) t) n
def Tr.set{α:Type}(t:Tr α)(k:Nat)(a:α):Tr α:=Tr.put (Nat.succ k) t k a
inductive CV where
 | bad
 | b (x:Bool)
 | i (k:IntKind) (n:Int)
 | s (x:List UInt8)
 | pn
 | p (k off:Nat)
 | sn
 | sl (k off ln:Nat) (kn:Bool) (c:Nat)
 | mn
 | m (k:Nat)
 | cn
 | c (k:Nat)
 | fn
 | f (g:Nat) (xs ys:List CV)
 | y (k:Nat)
 | n
 | a (t:Nat) (v:CV)
 | g (l:List CV)
 | t (l:List CV)
deriving Inhabited
def CV.undef:CV:=.t []
def CV.cells:CV->Option (List CV)
 | .g l=>some l
 | .bad=>none
 | v=>some [v]
def CV.isCell:CV->Bool
 | .g _=>false
 | .t _=>false
 | .bad=>false
 | _=>true
def xAllC(l:List CV):Bool:=List.rec (motive:=fun _=>Bool) true (fun a _ ih=>match a.isCell with|true=>ih|false=>false) l
def xOf0:Value->CV
 | .bool x=>.b x
 | .int k n=>.i k n
 | .string x=>.s x.data.toList
 | .pointer none=>.pn
 | .slice none 0 0=>.sn
 | .map none=>.mn
 | .chan none=>.cn
 | .nilFunc=>.fn
 | .nilIface=>.n
 | .func (.func g) xs ys=>match xs.toList,ys.toList with
  | [],[]=>.f g [] []
  | _,_=>.bad
 | _=>.bad
def xOf1:Value->CV
 | .iface t v=>.a t (xOf0 v)
 | v=>xOf0 v
def xOfV:Value->CV
 | .agg l=>.g (l.toList.map xOf1)
 | .tuple l=>.t (l.toList.map xOf1)
 | v=>xOf1 v
def xDrp{α:Type}(n:Nat):List α->List α:=Nat.rec (motive:=fun _=>List α->List α) (fun l=>l) (fun _ ih l=>List.rec (motive:=fun _=>List α) [] (fun _ l _=>ih l) l) n
def xTkn{α:Type}(n:Nat):List α->Option (List α):=Nat.rec (motive:=fun _=>List α->Option (List α)) (fun _=>some [])
 (fun _ ih l=>List.rec (motive:=fun _=>Option (List α)) none (fun a l _=>match ih l with|some r=>some (a::r)|none=>none) l) n
def xNth{α:Type}(n:Nat):List α->Option α:=Nat.rec (motive:=fun _=>List α->Option α) (fun l=>List.rec (motive:=fun _=>Option α) none (fun a _ _=>some a) l)
 (fun _ ih l=>List.rec (motive:=fun _=>Option α) none (fun _ l _=>ih l) l) n
def xApp{α:Type}(x y:List α):List α:=List.rec (motive:=fun _=>List α) y (fun a _ ih=>a::ih) x
def xLen{α:Type}(x:List α):Nat:=List.rec (motive:=fun _=>Nat) 0 (fun _ _ ih=>Nat.succ ih) x
def xOver(vs:List CV):List CV->Option (List CV):=List.rec (motive:=fun _=>List CV->Option (List CV)) (fun l=>some l)
 (fun v _ ih l=>List.rec (motive:=fun _=>Option (List CV)) none (fun _ l _=>match ih l with|some r=>some (v::r)|none=>none) l) vs
def xSetL(n:Nat)(vs:List CV):List CV->Option (List CV):=Nat.rec (motive:=fun _=>List CV->Option (List CV)) (fun l=>xOver vs l)
 (fun _ ih l=>List.rec (motive:=fun _=>Option (List CV)) none (fun a l _=>match ih l with|some r=>some (a::r)|none=>none) l) n
inductive CO where
 | cells (l:List CV)
 | grow (n:Nat) (l:List CV)
 | map (es:List (CV×CV))
 | loop (busy:Nat) (pend:Option Code) (n:Nat) (env:Tr CV) (ps:List Tmp) (as_ body:Code) (dk:Nat)
 | defd
 | chan
 | dead
 | rcv (vs:List CV)
 | crowd (k:Nat) (ms:List (CV×List (Nat×Option Nat×List CV)×Nat×Nat))
 | iter (k n:Nat) (seen:List Nat)
inductive Cell where
 | own (o:CO)
 | ro (o:CO)
structure Mem where
 M:Tr Cell
 nx:Nat
 log:List Nat
 ln:Nat
 outs:List CV
inductive CD where
 | mark (k:Nat)
 | close (k:Nat)
structure St where
 e:Tr CV
 m:Mem
 ds:List CD
def Mem.obj(m:Mem)(k:Nat):Option CO:=match m.M.get k with|some (.own o)=>some o|some (.ro o)=>some o|none=>none
def xRowO:CO->Option (List CV)
 | .cells l=>some l
 | .grow _ l=>some l
 | _=>none
def Mem.row(m:Mem)(k:Nat):Option (List CV):=match m.M.get k with
 | some (.own o)=>xRowO o
 | some (.ro o)=>xRowO o
 | none=>none
def Mem.add(m:Mem)(o:CO):Mem:=⟨m.M.set m.nx (.own o),Nat.succ m.nx,m.log,m.ln,m.outs⟩
def Mem.put(m:Mem)(k:Nat)(o:CO):Mem:=⟨m.M.set k (.own o),m.nx,k::m.log,Nat.succ m.ln,m.outs⟩
def Mem.store(m:Mem)(k off:Nat)(vs:List CV):Option Mem:=match xAllC vs with
 | false=>none
 | true=>match m.M.get k with
  | some (.own (.cells l))=>match xSetL off vs l with|some r=>some (m.put k (.cells r))|none=>none
  | some (.own (.grow n l))=>match xSetL off vs l with|some r=>some (m.put k (.grow n r))|none=>none
  | _=>none
def Mem.read(m:Mem)(k off n:Nat):Option (List CV):=match m.row k with
 | some l=>xTkn n (xDrp off l)
 | none=>none
inductive OR where
 | v (x:CV) (m:Mem)
 | rd (x:CV) (k:Nat)
 | enter (f:FuncId) (args:List CV)
 | round (k:Nat) (args:List CV)
 | go (f:CV) (args:List CV)
 | recv (k:Nat) (ok:Bool)
 | send (k:Nat) (x:CV)
 | dclose (x:CV)
 | bad
structure K1 where
 run:Tr CV->CV
structure KL where
 run:Tr CV->List CV
structure KO where
 run:Tr CV->Mem->OR
def rdK:Operand->K1
 | .tmp t=>⟨fun e=>match e.get t with|some v=>v|none=>.bad⟩
 | .const v=>⟨fun _=>xOfV v⟩
 | .global g=>match Nat.ble (Nat.succ g) 16 with|true=>⟨fun _=>.p g 0⟩|false=>⟨fun _=>.bad⟩
 | .func f=>⟨fun _=>.f f [] []⟩
def rdsK:List Operand->KL
 | []=>⟨fun _=>[]⟩
 | x::l=>match rdK x,rdsK l with|⟨f⟩,⟨g⟩=>⟨fun e=>f e::g e⟩
def xEqS(x:List UInt8):List UInt8->Bool:=List.rec (motive:=fun _=>List UInt8->Bool) (fun y=>List.rec (motive:=fun _=>Bool) true (fun _ _ _=>false) y)
 (fun a _ ih y=>List.rec (motive:=fun _=>Bool) false (fun b y _=>Bool.rec false (ih y) (Nat.beq a.toNat b.toNat)) y) x
def xEqI:Int->Int->Bool
 | .ofNat x,.ofNat y=>Nat.beq x y
 | .negSucc x,.negSucc y=>Nat.beq x y
 | _,_=>false
def xLtI:Int->Int->Bool
 | .ofNat x,.ofNat y=>Nat.ble (Nat.succ x) y
 | .negSucc x,.negSucc y=>Nat.ble (Nat.succ y) x
 | .negSucc _,.ofNat _=>true
 | .ofNat _,.negSucc _=>false
def xRepL(z:List CV)(n:Nat):List CV:=Nat.rec (motive:=fun _=>List CV) [] (fun _ ih=>xApp z ih) n
def xBytesC(l:List UInt8):List CV:=List.rec (motive:=fun _=>List CV) [] (fun b _ ih=>.i .u8 (.ofNat b.toNat)::ih) l
def xVOf(m:Mem):Option CV->OR
 | some x=>.v x m
 | none=>.bad
def xAggT(P:Program)(t:TypeId):Option Bool:=match P.underlying t with
 | some d=>some (Qv d)
 | none=>none
def xSzT(P:Program)(t:TypeId):Option Nat:=match P.info? t with|some i=>some i.size|none=>none
def xZeroT(P:Program)(t:TypeId):Option CV:=match P.info? t with
 | some i=>match i.zero with|some v=>some (xOfV v)|none=>none
 | none=>none
def xZeroC(P:Program)(t:TypeId):Option Nat:=match P.info? t with
 | some i=>match i.zero with|some v=>some v.cells.size|none=>none
 | none=>none
structure LK where
 run:List CV->Option CV
def partK(P:Program)(t:TypeId):LK:=match xAggT P t with
 | some true=>match xSzT P t with
  | some n=>⟨fun l=>match xTkn n l with|some r=>some (.g r)|none=>none⟩
  | none=>⟨fun _=>none⟩
 | some false=>⟨fun l=>match l with|v::_=>some v|[]=>none⟩
 | none=>⟨fun _=>none⟩
structure FK where
 run:List CV->Tr CV->Option (List CV)
def fillK(off:Nat->Option (Nat×Nat)):List (Nat×Operand)->FK
 | []=>⟨fun l _=>some l⟩
 | (i,x)::r=>match off i with
  | none=>⟨fun _ _=>none⟩
  | some (o,z)=>⟨fun l e=>match ((rdK x).run e).cells with
   | none=>none
   | some c=>match Nat.beq (xLen c) z with
    | false=>none
    | true=>match xSetL o c l with
     | some l=>(fillK off r).run l e
     | none=>none⟩
def fldAt(P:Program)(fs:List Field)(i:Nat):Option (Nat×Nat):=match fs[i]? with
 | some f=>match xSzT P f.type with|some n=>some (f.offset,n)|none=>none
 | none=>none
def allSz(P:Program):List Field->Bool
 | []=>true
 | f::fs=>match xSzT P f.type with|some _=>allSz P fs|none=>false
def flatK(P:Program):Nat->List Field->Option (List IntKind)
 | _,[]=>some []
 | n,f::fs=>match f.name == "_",Nat.beq f.offset n,P.underlying f.type,flatK P (Nat.succ n) fs with
  | false,true,some (.int k),some l=>some (k::l)
  | _,_,_,_=>none
def flatT(P:Program)(t:TypeId):Option (List IntKind):=match P.stoodInHeld t,P.eqGuardType P.depth t,P.underlying t with
 | false,false,some (.struct fs)=>flatK P 0 fs.toList
 | _,_,_=>none
def xKind:IntKind->IntKind->Bool
 | .i8,.i8 | .i16,.i16 | .i32,.i32 | .i64,.i64 | .u8,.u8 | .u16,.u16 | .u32,.u32 | .u64,.u64=>true
 | _,_=>false
def eqF0:List CV->List CV->Option Bool
 | [],[]=>some true
 | _,_=>none
def eqF1(k:IntKind)(ih:List CV->List CV->Option Bool):List CV->List CV->Option Bool
 | .i k1 a::x,.i k2 b::y=>match xKind k k1,xKind k k2 with
  | true,true=>match ih x y with|some r=>some (match xEqI a b with|true=>r|false=>false)|none=>none
  | _,_=>none
 | _,_=>none
def eqF(ks:List IntKind):List CV->List CV->Option Bool:=List.rec (motive:=fun _=>List CV->List CV->Option Bool) eqF0 (fun k _ ih=>eqF1 k ih) ks
inductive CK where
 | i (k:IntKind)
 | s
 | b
def xCatO:Option (List CK)->Option (List CK)->Option (List CK)
 | some a,some b=>some (a++b)
 | _,_=>none
def deepF(P:Program)(g:TypeId->Option (List CK)):Nat->List Field->Option (List CK)
 | _,[]=>some []
 | n,f::fs=>match f.name == "_",Nat.beq f.offset n,g f.type,xSzT P f.type with
  | false,true,some a,some z=>match Nat.beq a.length z with|true=>xCatO (some a) (deepF P g (Nat.add n z) fs)|false=>none
  | _,_,_,_=>none
def deepT(P:Program):Nat->TypeId->Option (List CK)
 | 0,_=>none
 | d+1,t=>match P.underlying t with
  | some (.int k)=>some [.i k]
  | some .string=>some [.s]
  | some .bool=>some [.b]
  | some (.struct fs)=>match P.stoodInHeld t with|false=>deepF P (deepT P d) 0 fs.toList|true=>none
  | _=>none
def eqC:CK->CV->CV->Option Bool
 | .i k,.i k1 a,.i k2 b=>match xKind k k1,xKind k k2 with|true,true=>some (xEqI a b)|_,_=>none
 | .s,.s a,.s b=>some (xEqS a b)
 | .b,.b a,.b b=>some (a==b)
 | _,_,_=>none
def eqD0:List CV->List CV->Option Bool
 | [],[]=>some true
 | _,_=>none
def eqD1(k:CK)(ih:List CV->List CV->Option Bool):List CV->List CV->Option Bool
 | a::x,b::y=>match eqC k a b,ih x y with|some r,some q=>some (match r with|true=>q|false=>false)|_,_=>none
 | _,_=>none
def eqD(ks:List CK):List CV->List CV->Option Bool:=List.rec (motive:=fun _=>List CV->List CV->Option Bool) eqD0 (fun k _ ih=>eqD1 k ih) ks
def deepG(P:Program)(t:TypeId):Option (List CK):=match P.eqGuardType P.depth t,P.underlying t with
 | false,some (.struct _)=>deepT P 100 t
 | _,_=>none
structure BK where
 run:List CV->Mem->OR
def appendK(n:Nat):BK:=⟨fun args m=>match args with
 | [s,.sl k2 off2 lx _ _]=>match m.read k2 off2 (Nat.mul lx n) with
  | none=>.bad
  | some cx=>match Nat.beq lx 0,xAllC cx with
   | false,true=>match s with
    | .sn=>match Nat.ble lx 1000000 with|true=>.v (.sl m.nx 0 lx false 0) (m.add (.grow n cx))|false=>.bad
    | .sl k off ls false c=>match m.M.get k with
      | some (.own (.grow n' l))=>match Nat.beq n n',Nat.beq off 0,Nat.beq c 0,Nat.beq (xLen l) (Nat.mul ls n),Nat.ble (Nat.add ls lx) 1000000 with
       | true,true,true,true,true=>.v (.sl m.nx 0 (Nat.add ls lx) false 0) ((m.put k .dead).add (.grow n (xApp l cx)))
       | true,true,true,false,true=>match xSetL (Nat.mul ls n) cx l with
        | some r=>.v (.sl k 0 (Nat.add ls lx) false 0) (m.put k (.grow n r))
        | none=>.bad
       | _,_,_,_,_=>.bad
      | _=>.bad
    | .sl k off ls true c=>match m.read k off (Nat.mul ls n) with
     | some co=>match Nat.ble (Nat.succ c) (Nat.add ls lx),Nat.ble (Nat.add ls lx) 1000000,xAllC co with
      | true,true,true=>.v (.sl m.nx 0 (Nat.add ls lx) false 0) (m.add (.grow n (xApp co cx)))
      | _,_,_=>.bad
     | none=>.bad
    | _=>.bad
   | _,_=>.bad
 | _=>.bad⟩
def appendZ(n:Nat)(z:List CV):BK:=⟨fun args m=>match args with
 | [.sn,.i _ (.ofNat lx)]=>match Nat.ble 1 lx,Nat.ble lx 1000000 with
  | true,true=>.v (.sl m.nx 0 lx false 0) (m.add (.grow n (xRepL z lx)))
  | _,_=>.bad
 | _=>.bad⟩
def builtinK(P:Program)(b:Builtin)(ts:List TypeId):BK :=
 match b with
 | .len=>match ts with
  | [t]=>match P.underlying t with
   | some (.slice _)=>⟨fun args m=>match args with
    | [.sn]=>.v (.i .i64 0) m
    | [.sl _ _ n _ _]=>.v (.i .i64 (.ofNat n)) m
    | _=>.bad⟩
   | some .string=>⟨fun args m=>match args with|[.s x]=>.v (.i .i64 (.ofNat (xLen x))) m|_=>.bad⟩
   | _=>⟨fun _ _=>.bad⟩
  | _=>⟨fun _ _=>.bad⟩
 | .min=>⟨fun args m=>match args with
  | [.i k x,.i k' y]=>match xKind k k' with|true=>.v (.i k (match xLtI y x with|true=>y|false=>x)) m|false=>.bad
  | _=>.bad⟩
 | .max=>⟨fun args m=>match args with
  | [.i k x,.i k' y]=>match xKind k k' with|true=>.v (.i k (match xLtI x y with|true=>y|false=>x)) m|false=>.bad
  | _=>.bad⟩
 | .append=>match ts with
  | [t,u]=>match P.underlying t,P.underlying u with
   | some (.slice el),some (.slice _)=>match P.info? el,xZeroC P el with
    | some i,some z=>match Nat.ble 1 i.size,Nat.ble i.bytes 4096,Nat.beq z i.size with|true,true,true=>appendK i.size|_,_,_=>⟨fun _ _=>.bad⟩
    | _,_=>⟨fun _ _=>.bad⟩
   | some (.slice el),some (.int _)=>match P.info? el,xZeroC P el,xZeroT P el with
    | some i,some z,some v=>match Nat.ble 1 i.size,Nat.ble i.bytes 4096,Nat.beq z i.size,v.cells with|true,true,true,some c=>appendZ i.size c|_,_,_,_=>⟨fun _ _=>.bad⟩
    | _,_,_=>⟨fun _ _=>.bad⟩
   | _,_=>⟨fun _ _=>.bad⟩
  | _=>⟨fun _ _=>.bad⟩
 | .cap=>match ts with
  | [t]=>match P.underlying t with
   | some (.slice _)=>⟨fun args m=>match args with
    | [.sn]=>.v (.i .i64 0) m
    | [.sl _ _ _ true c]=>.v (.i .i64 (.ofNat c)) m
    | _=>.bad⟩
   | _=>⟨fun _ _=>.bad⟩
  | _=>⟨fun _ _=>.bad⟩
 | _=>⟨fun _ _=>.bad⟩
def xHasBody(P:Program)(g:Nat):Bool:=match P.funcs[g]? with
 | some fn=>match fn.name == "runtime.NumGoroutine" with|true=>false|false=>fn.body.isSome
 | none=>false
inductive EX where
 | indexByte
 | count
def xExtN(n:String):Option EX:=match n == "internal/bytealg.IndexByteString" with
 | true=>some .indexByte
 | false=>match n == "internal/bytealg.CountString" with|true=>some .count|false=>none
def xExt(P:Program)(g:Nat):Option EX:=match P.funcs[g]? with
 | some fn=>match fn.body.isNone with
  | false=>none
  | true=>match fn.name == "runtime.NumGoroutine",(Extern.findNext fn).isNone with
   | false,true=>xExtN fn.name
   | _,_=>none
 | none=>none
def xIdxB(b:Nat)(l:List UInt8):Nat->Option Nat:=List.rec (motive:=fun _=>Nat->Option Nat) (fun _=>none) (fun a _ ih i=>match Nat.beq a.toNat b with|true=>some i|false=>ih (Nat.succ i)) l
def xCntB(b:Nat)(l:List UInt8):Nat:=List.rec (motive:=fun _=>Nat) 0 (fun a _ ih=>match Nat.beq a.toNat b with|true=>Nat.succ ih|false=>ih) l
def xExtV:EX->List CV->Option CV
 | .indexByte,[.s l,.i .u8 (.ofNat b)]=>match Nat.ble b 255 with
  | true=>match xIdxB b l 0 with|some i=>some (.i .i64 (.ofNat i))|none=>some (.i .i64 (-1))
  | false=>none
 | .count,[.s l,.i .u8 (.ofNat b)]=>match Nat.ble b 255 with|true=>some (.i .i64 (.ofNat (xCntB b l)))|false=>none
 | _,_=>none
def callK(P:Program):CV->List CV->OR
 | .f g xs ys,args=>match xHasBody P g with
  | true=>.enter g (xApp xs (xApp args ys))
  | false=>.bad
 | .y k,args=>.round k args
 | _,_=>.bad
def xBadK:KO:=⟨fun _ _=>.bad⟩
def binN(op:BinOp)(k:IntKind)(a b:Int):Option CV :=
 match op with
 | .add=>some (.i k (k.wrap (a+b)))
 | .sub=>some (.i k (k.wrap (a-b)))
 | .mul=>some (.i k (k.wrap (a*b)))
 | .and=>some (.i k (k.wrap (BitVec.ofInt k.bits a &&& BitVec.ofInt k.bits b).toNat))
 | .or=>some (.i k (k.wrap (BitVec.ofInt k.bits a ||| BitVec.ofInt k.bits b).toNat))
 | .andNot=>some (.i k (k.wrap (BitVec.ofInt k.bits a &&& ~~~(BitVec.ofInt k.bits b)).toNat))
 | .eql=>some (.b (xEqI a b))
 | .neq=>some (.b (!xEqI a b))
 | .lss=>some (.b (xLtI a b))
 | .leq=>some (.b (!xLtI b a))
 | .gtr=>some (.b (xLtI b a))
 | .geq=>some (.b (!xLtI a b))
 | .quo=>match xEqI b 0 with|true=>none|false=>some (.i k (k.wrap (a.tdiv b)))
 | .rem=>match xEqI b 0 with|true=>none|false=>some (.i k (a.tmod b))
 | _=>none
structure K3 where
 run:IntKind->Int->Int->Option CV
def binKN:BinOp->K3
 | .add=>⟨binN .add⟩
 | .sub=>⟨binN .sub⟩
 | .mul=>⟨binN .mul⟩
 | .and=>⟨binN .and⟩
 | .or=>⟨binN .or⟩
 | .andNot=>⟨binN .andNot⟩
 | .eql=>⟨binN .eql⟩
 | .neq=>⟨binN .neq⟩
 | .lss=>⟨binN .lss⟩
 | .leq=>⟨binN .leq⟩
 | .gtr=>⟨binN .gtr⟩
 | .geq=>⟨binN .geq⟩
 | .quo=>⟨binN .quo⟩
 | .rem=>⟨binN .rem⟩
 | _=>⟨fun _ _ _=>none⟩
def xIsSl:Option TypeDesc->Bool
 | some (.slice _)=>true
 | _=>false
def xIsFn:Option TypeDesc->Bool
 | some (.func ..)=>true
 | _=>false
def xEqW(sl fn:Bool):CV->CV->Option Bool
 | .s a,.s b=>some (xEqS a b)
 | .sn,.sn=>match sl with|true=>some true|false=>none
 | .sl ..,.sn=>match sl with|true=>some false|false=>none
 | .sn,.sl ..=>match sl with|true=>some false|false=>none
 | .fn,.fn=>match fn with|true=>some true|false=>none
 | .f ..,.fn=>match fn with|true=>some false|false=>none
 | .fn,.f ..=>match fn with|true=>some false|false=>none
 | _,_=>none
def catW:CV->CV->Option CV
 | .s a,.s b=>match Nat.ble (Nat.add (xLen a) (xLen b)) 1000000 with|true=>some (.s (xApp a b))|false=>none
 | _,_=>none
structure K4 where
 run:CV->CV->Option CV
def binKW(sl fn:Bool):BinOp->K4
 | .eql=>⟨fun u z=>match xEqW sl fn u z with|some r=>some (.b r)|none=>none⟩
 | .neq=>⟨fun u z=>match xEqW sl fn u z with|some r=>some (.b !r)|none=>none⟩
 | .add=>⟨catW⟩
 | _=>⟨fun _ _=>none⟩
structure K5 where
 run:List CK->List CV->List CV->Option CV
def binKG:BinOp->K5
 | .eql=>⟨fun ks a b=>match eqD ks a b with|some r=>some (.b r)|none=>none⟩
 | .neq=>⟨fun ks a b=>match eqD ks a b with|some r=>some (.b !r)|none=>none⟩
 | _=>⟨fun _ _ _=>none⟩
inductive MK where
 | str
 | flat (ks:List IntKind)
 | int (k:IntKind)
def mapKind(P:Program)(kt:TypeId):Option MK:=match P.underlying kt with
 | some .string=>some .str
 | some (.int k)=>some (.int k)
 | some (.struct _)=>match flatT P kt with|some ks=>some (.flat ks)|none=>none
 | _=>none
def eqM:MK->CV->CV->Option Bool
 | .str,.s a,.s b=>some (xEqS a b)
 | .flat ks,.g a,.g b=>eqF ks a b
 | .int k,.i k1 a,.i k2 b=>match xKind k k1,xKind k k2 with|true,true=>some (xEqI a b)|_,_=>none
 | _,_,_=>none
def keyOk:MK->CV->Bool
 | .str,.s _=>true
 | .int k,.i k1 _=>xKind k k1
 | .flat ks,.g a=>(eqF ks a a).isSome
 | _,_=>false
def findX(mk:MK)(k:CV)(l:List (CV×CV)):Option (Option CV):=List.rec (motive:=fun _=>Option (Option CV)) (some none)
 (fun e _ ih=>match e with|(a,v)=>match eqM mk k a with|some true=>some (some v)|some false=>ih|none=>none) l
def putX(mk:MK)(k v:CV)(l:List (CV×CV)):Option (List (CV×CV)):=List.rec (motive:=fun _=>Option (List (CV×CV))) (some [(k,v)])
 (fun e l ih=>match e with|(a,w)=>match eqM mk k a with
  | some true=>some ((k,v)::l)
  | some false=>match ih with|some r=>some ((a,w)::r)|none=>none
  | none=>none) l
structure KB where
 run:Tr CV->Option (Option Nat)
def xBnd:Option Operand->KB
 | none=>⟨fun _=>some none⟩
 | some x=>match rdK x with|⟨f⟩=>⟨fun e=>match f e with | .i _ (.ofNat n)=>some (some n)|_=>none⟩
def xOr(o:Option Nat)(d:Nat):Nat:=match o with|some n=>n|none=>d
def xMxOk(h q:Option Nat):Bool:=match q,h with
 | some _,none=>false
 | _,_=>true
def xRoomC(m:Mem)(n k:Nat)(kn:Bool)(c q:Nat):Bool:=match kn with
 | true=>Nat.ble q c
 | false=>match m.obj k with
  | some (.grow n' l)=>match Nat.beq n n' with|true=>Nat.ble (Nat.mul (Nat.add c q) n) (xLen l)|false=>false
  | _=>false
def xSliceM(n k off ln:Nat)(kn:Bool)(c:Nat)(l:Nat)(h:Option Nat)(q:Option Nat)(m:Mem):OR :=
 match q with
 | some q=>match h with
  | none=>.bad
  | some h=>match Nat.ble l h,Nat.ble h q,xRoomC m n k kn c q with
   | true,true,true=>match kn with
    | true=>.v (.sl k (match Nat.beq q l with|true=>off|false=>Nat.add off (Nat.mul l n)) (Nat.sub h l) true (Nat.sub q l)) m
    | false=>.rd (.sl k (match Nat.beq q l with|true=>off|false=>Nat.add off (Nat.mul l n)) (Nat.sub h l) true (Nat.sub q l)) k
   | _,_,_=>.bad
 | none=>match xOr h ln with
  | h=>match Nat.ble l h,kn with
   | false,_=>.bad
   | true,true=>match Nat.ble h c with
    | true=>.v (.sl k (match Nat.beq c l with|true=>off|false=>Nat.add off (Nat.mul l n)) (Nat.sub h l) true (Nat.sub c l)) m
    | false=>.bad
   | true,false=>match xRoomC m n k false c h,l with
    | true,0=>.rd (.sl k off h false c) k
    | true,l+1=>match xRoomC m n k false c (l+2) with
     | true=>.rd (.sl k (Nat.add off (Nat.mul (l+1) n)) (Nat.sub h (l+1)) false (Nat.add c (l+1))) k
     | false=>.bad
    | false,_=>.bad
def opK(P:Program):Op->KO
 | .move x=>⟨fun e m=>.v ((rdK x).run e) m⟩
 | .assign x=>⟨fun e m=>.v ((rdK x).run e) m⟩
 | .pick c a b=>⟨fun e m=>match (rdK c).run e with | .b true=>.v ((rdK a).run e) m | .b false=>.v ((rdK b).run e) m|_=>.bad⟩
 | .alloc t=>match xZeroT P t with
  | some z=>match z.cells with|some c=>⟨fun _ m=>.v (.p m.nx 0) (m.add (.cells c))⟩|none=>xBadK
  | none=>xBadK
 | .box _ x=>⟨fun e m=>match ((rdK x).run e).cells with|some c=>.v (.p m.nx 0) (m.add (.cells c))|none=>.bad⟩
 | .build t ps=>match xZeroT P t,P.underlying t with
  | some z,some (.struct fs)=>match allSz P fs.toList,z.cells with
   | true,some c=>⟨fun e m=>match (fillK (fldAt P fs.toList) ps.toList).run c e with|some l=>.v (.g l) m|none=>.bad⟩
   | _,_=>xBadK
  | some z,some (.array _ el)=>match xSzT P el,z.cells with
   | some n,some c=>⟨fun e m=>match (fillK (fun i=>some (Nat.mul i n,n)) ps.toList).run c e with|some l=>.v (.g l) m|none=>.bad⟩
   | _,_=>xBadK
  | _,_=>xBadK
 | .buildSlice t ln ps=>match P.underlying t with
  | some (.slice el)=>match xSzT P el,xZeroT P el,xZeroC P el with
   | some n,some z,some zc=>match z.cells,Nat.ble (Nat.mul ln n) 1000000,Nat.ble 1 (Nat.mul ln n),Nat.beq zc n with
    | some c,true,true,true=>⟨fun e m=>match (fillK (fun i=>some (Nat.mul i n,n)) ps.toList).run (xRepL c ln) e with
     | some l=>.v (.sl m.nx 0 ln true ln) (m.add (.cells l))
     | none=>.bad⟩
    | _,_,_,_=>match ln,ps.toList with
     | 0,[]=>⟨fun _ m=>.v (.sl m.nx 0 0 true 0) (m.add (.cells []))⟩
     | _,_=>xBadK
   | _,_,_=>xBadK
  | _=>xBadK
 | .load t a=>⟨fun e m=>match (rdK a).run e with
   | .p k off=>match m.row k with
    | some l=>match (partK P t).run (xDrp off l) with|some v=>.rd v k|none=>.bad
    | none=>.bad
   | _=>.bad⟩
 | .store t a v=>match xSzT P t with
  | some n=>⟨fun e m=>match (rdK a).run e with
   | .p k off=>match ((rdK v).run e).cells with
    | some c=>match Nat.beq (xLen c) n with
     | true=>match m.store k off c with|some m=>.v .undef m|none=>.bad
     | false=>.bad
    | none=>.bad
   | _=>.bad⟩
  | none=>xBadK
 | .nilCheck x=>⟨fun e m=>match (rdK x).run e with
   | .p k off=>.v (.p k off) m
   | _=>.bad⟩
 | .binOp op t x y _=>match flatT P t with
  | none=>match op with
   | .shl=>⟨fun e m=>match (rdK x).run e,(rdK y).run e with | .i k a,.i _ (.ofNat n)=>.v (.i k (k.wrap (a*2^(min n k.bits)))) m|_,_=>.bad⟩
   | .shr=>⟨fun e m=>match (rdK x).run e,(rdK y).run e with | .i k a,.i _ (.ofNat n)=>.v (.i k (a.fdiv (2^(min n k.bits)))) m|_,_=>.bad⟩
   | op=>⟨fun e m=>match (rdK x).run e,(rdK y).run e with
    | .i k a,.i k' b=>match xKind k k' with
     | true=>match (binKN op).run k a b with|some v=>.v v m|none=>.bad
     | false=>.bad
    | .g a,.g b=>match deepG P t with
     | some ks=>match (binKG op).run ks a b with|some v=>.v v m|none=>.bad
     | none=>.bad
    | u,z=>match (binKW (xIsSl (P.underlying t)) (xIsFn (P.underlying t)) op).run u z with|some v=>.v v m|none=>.bad⟩
  | some ks=>match op with
   | .eql=>⟨fun e m=>match (rdK x).run e,(rdK y).run e with | .g a,.g b=>(match eqF ks a b with|some r=>.v (.b r) m|none=>.bad)|_,_=>.bad⟩
   | .neq=>⟨fun e m=>match (rdK x).run e,(rdK y).run e with | .g a,.g b=>(match eqF ks a b with|some r=>.v (.b !r) m|none=>.bad)|_,_=>.bad⟩
   | _=>xBadK
 | .unOp .not _ x=>⟨fun e m=>match (rdK x).run e with | .b v=>.v (.b !v) m|_=>.bad⟩
 | .unOp .neg _ x=>⟨fun e m=>match (rdK x).run e with | .i k v=>.v (.i k (k.wrap (0-v))) m|_=>.bad⟩
 | .convert s d x=>match P.underlying s,P.underlying d with
  | some (.int _),some (.int k)=>⟨fun e m=>match (rdK x).run e with | .i _ v=>.v (.i k (k.wrap v)) m|_=>.bad⟩
  | some .string,some (.slice el)=>match P.underlying el with
   | some (.int .u8)=>⟨fun e m=>match (rdK x).run e with
    | .s v=>.v (.sl m.nx 0 (xLen v) false 0) (m.add (.grow 1 (xBytesC v)))
    | _=>.bad⟩
   | _=>xBadK
  | _,_=>xBadK
 | .makeFunc (.func g) xs ys=>⟨fun e m=>.v (.f g ((rdsK xs.toList).run e) ((rdsK ys.toList).run e)) m⟩
 | .makeMap _ none=>⟨fun _ m=>.v (.m m.nx) (m.add (.map []))⟩
 | .makeChan t s=>match P.underlying t with
  | some (.chan _ el)=>match P.info? el with
   | some i=>⟨fun e m=>match (rdK s).run e with
    | .i _ (.ofNat 0)=>.v (.c m.nx) (m.add .chan)
    | .i _ (.ofNat (n+1))=>match Nat.ble i.bytes 4096,Nat.ble (n+1) 1000 with|true,true=>.v (.c m.nx) (m.add (.crowd (n+1) []))|_,_=>.bad
    | _=>.bad⟩
   | none=>xBadK
  | _=>xBadK
 | .fieldAddr t x i=>match P.underlying t with
  | some (.struct fs)=>match fldAt P fs.toList i with
   | some (o,n)=>match Nat.ble 1 n with
    | true=>⟨fun e m=>match (rdK x).run e with | .p k off=>.v (.p k (Nat.add off o)) m|_=>.bad⟩
    | false=>xBadK
   | none=>xBadK
  | _=>xBadK
 | .indexAddr t x y=>match P.underlying t with
  | some (.slice el)=>match xSzT P el with
   | some n=>⟨fun e m=>match (rdK x).run e,(rdK y).run e with
    | .sl k off ln _ _,.i _ (.ofNat i)=>match Nat.ble (Nat.succ i) ln with|true=>.v (.p k (Nat.add off (Nat.mul i n))) m|false=>.bad
    | _,_=>.bad⟩
   | none=>xBadK
  | some (.array ln el)=>match xSzT P el with
   | some n=>⟨fun e m=>match (rdK x).run e,(rdK y).run e with
    | .p k off,.i _ (.ofNat i)=>match Nat.ble (Nat.succ i) ln with|true=>.v (.p k (Nat.add off (Nat.mul i n))) m|false=>.bad
    | _,_=>.bad⟩
   | none=>xBadK
  | _=>xBadK
 | .index t x y=>match P.underlying t with
  | some (.array ln el)=>match xSzT P el,xAggT P el with
   | some n,some false=>⟨fun e m=>match (rdK x).run e,(rdK y).run e with
    | .g l,.i _ (.ofNat i)=>match Nat.ble (Nat.succ i) ln,xNth (Nat.mul i n) l with|true,some v=>.v v m|_,_=>.bad
    | _,_=>.bad⟩
   | some n,some true=>⟨fun e m=>match (rdK x).run e,(rdK y).run e with
    | .g l,.i _ (.ofNat i)=>match Nat.ble (Nat.succ i) ln,xTkn n (xDrp (Nat.mul i n) l) with|true,some r=>.v (.g r) m|_,_=>.bad
    | _,_=>.bad⟩
   | _,_=>xBadK
  | some .string=>⟨fun e m=>match (rdK x).run e,(rdK y).run e with
    | .s l,.i _ (.ofNat i)=>match xNth i l with|some b=>.v (.i .u8 (.ofNat b.toNat)) m|none=>.bad
    | _,_=>.bad⟩
  | _=>xBadK
 | .lookup t x y ok=>match P.underlying t with
  | some (.map kt el)=>match mapKind P kt,xZeroT P el with
   | some mk,some z=>⟨fun e m=>match (rdK x).run e with
    | .m k=>match m.obj k,keyOk mk ((rdK y).run e) with
     | some (.map es),true=>match findX mk ((rdK y).run e) es with
      | some (some v)=>.rd (match ok with|true=>.t [v,.b true]|false=>v) k
      | some none=>.rd (match ok with|true=>.t [z,.b false]|false=>z) k
      | none=>.bad
     | _,_=>.bad
    | _=>.bad⟩
   | _,_=>xBadK
  | _=>xBadK
 | .mapUpdate t x y z=>match P.underlying t with
  | some (.map kt _)=>match mapKind P kt with
   | some mk=>⟨fun e m=>match (rdK x).run e with
    | .m k=>match m.M.get k,keyOk mk ((rdK y).run e) with
     | some (.own (.map es)),true=>match putX mk ((rdK y).run e) ((rdK z).run e) es with
      | some es=>.v .undef (m.put k (.map es))
      | none=>.bad
     | _,_=>.bad
    | _=>.bad⟩
   | none=>xBadK
  | _=>xBadK
 | .slice t x lo hi mx=>match P.underlying t with
  | some (.slice el)=>match xSzT P el,xBnd lo,xBnd hi,xBnd mx with
   | some n,⟨lo⟩,⟨hi⟩,⟨mx⟩=>⟨fun e m=>match (rdK x).run e with
    | .sl k off ln kn c=>match lo e,hi e,mx e with
     | some l,some h,some q=>xSliceM n k off ln kn c (xOr l 0) h q m
     | _,_,_=>.bad
    | .sn=>match lo e,hi e,mx e with
     | some l,some h,some q=>match Nat.beq (xOr l 0) 0,Nat.beq (xOr h 0) 0,Nat.beq (xOr q 0) 0,xMxOk h q with
      | true,true,true,true=>.v .sn m
      | _,_,_,_=>.bad
     | _,_,_=>.bad
    | _=>.bad⟩
   | _,_,_,_=>xBadK
  | some .string=>match xBnd lo,xBnd hi,mx with
   | ⟨lo⟩,⟨hi⟩,none=>⟨fun e m=>match (rdK x).run e,lo e,hi e with
    | .s b,some l,some h=>match xOr h (xLen b),xOr l 0 with
     | h,l=>match Nat.ble h (xLen b),Nat.ble l h with
      | true,true=>match xTkn (Nat.sub h l) (xDrp l b) with|some r=>.v (.s r) m|none=>.bad
      | _,_=>.bad
    | _,_,_=>.bad⟩
   | _,_,_=>xBadK
  | _=>xBadK
 | .field t x i=>match P.underlying t with
  | some (.struct fs)=>match fs.toList[i]? with
   | some f=>⟨fun e m=>match (rdK x).run e with
    | .g l=>match (partK P f.type).run (xDrp f.offset l) with|some v=>.v v m|none=>.bad
    | _=>.bad⟩
   | none=>xBadK
  | _=>xBadK
 | .makeSlice t a b=>match P.underlying t with
  | some (.slice el)=>match xSzT P el,xZeroT P el,xZeroC P el,P.info? el with
   | some n,some z,some zc,some i=>match z.cells,Nat.ble 1 n,Nat.beq zc n,Nat.ble i.bytes 4096 with
    | some c,true,true,true=>⟨fun e m=>match (rdK a).run e,(rdK b).run e with
     | .i _ (.ofNat ln),.i _ (.ofNat cp)=>match Nat.beq ln cp,Nat.ble 1 ln,Nat.ble (Nat.mul ln n) 1000000 with
      | true,true,true=>.v (.sl m.nx 0 ln true ln) (m.add (.cells (xRepL c ln)))
      | _,_,_=>.bad
     | _,_=>.bad⟩
    | _,_,_,_=>xBadK
   | _,_,_,_=>xBadK
  | _=>xBadK
 | .insert t x y z=>match P.underlying t with
  | some (.map kt _)=>match mapKind P kt with
   | some mk=>⟨fun e m=>match (rdK x).run e with
    | .m k=>match m.M.get k,keyOk mk ((rdK y).run e) with
     | some (.own (.map es)),true=>match putX mk ((rdK y).run e) ((rdK z).run e) es with
      | some es=>.v .undef (m.put k (.map es))
      | none=>.bad
     | _,_=>.bad
    | _=>.bad⟩
   | none=>xBadK
  | _=>xBadK
 | .range t x=>match P.underlying t with
  | some (.map _ _)=>⟨fun e m=>match (rdK x).run e with
   | .m k=>match m.obj k with|some (.map es)=>.v (.p m.nx 0) (m.add (.iter k (xLen es) []))|_=>.bad
   | _=>.bad⟩
  | _=>xBadK
 | .entry x=>⟨fun e m=>match (rdK x).run e with
   | .p k 0=>match m.M.get k with
    | some (.own (.iter mk n seen))=>match seen.getLast?,m.obj mk with
     | some j,some (.map es)=>match Nat.beq (xLen es) n,xNth j es with
      | true,some (a,v)=>.v (.t [a,v]) m
      | _,_=>.bad
     | _,_=>.bad
    | _=>.bad
   | _=>.bad⟩
 | .extract x i=>⟨fun e m=>match (rdK x).run e with | .t l=>xVOf m (xNth i l)|_=>.bad⟩
 | .call c=>match c.callee with
  | .builtin b=>⟨fun e m=>(builtinK P b c.argTypes.toList).run ((rdsK c.args.toList).run e) m⟩
  | .value (.func g)=>match xExt P g with
   | some ex=>⟨fun e m=>match xExtV ex ((rdsK c.args.toList).run e) with|some v=>.v v m|none=>.bad⟩
   | none=>⟨fun e _=>callK P (.f g [] []) ((rdsK c.args.toList).run e)⟩
  | .value x=>⟨fun e _=>callK P ((rdK x).run e) ((rdsK c.args.toList).run e)⟩
  | _=>xBadK
 | .go c=>match c.callee with
  | .value x=>⟨fun e _=>.go ((rdK x).run e) ((rdsK c.args.toList).run e)⟩
  | _=>xBadK
 | .defer c=>match c.callee,c.args.toList with
  | .builtin .close,[.tmp t]=>⟨fun e _=>match e.get t with|some x=>.dclose x|none=>.bad⟩
  | _,_=>xBadK
 | .send x y=>⟨fun e _=>match (rdK x).run e with | .c k=>.send k ((rdK y).run e)|_=>.bad⟩
 | .recv t x ok=>match P.underlying t with
  | some (.chan _ el)=>match xZeroT P el with
   | some _=>⟨fun e _=>match (rdK x).run e with | .c k=>.recv k ok|_=>.bad⟩
   | none=>xBadK
  | _=>xBadK
 | _=>xBadK
def xMild:Op->Bool
 | .move _ | .assign _ | .pick .. | .build .. | .load .. | .nilCheck _ | .binOp .. | .unOp .. | .makeFunc .. | .fieldAddr .. | .indexAddr .. | .index .. | .lookup .. | .extract .. | .field .. | .slice .. | .convert ..=>true
 | .call {callee:=.builtin .len,..} | .call {callee:=.builtin .min,..} | .call {callee:=.builtin .max,..}=>true
 | _=>false
def xDeps(l:List Oper)(o:Oper):List Bool:=(List.range l.length).map fun k=>o.after.toList.any fun e=>Region.binds .any e&&e.on==k
def xEarly(l:List Oper)(j:Nat):Bool:=match l[j]? with
 | some o=>(match o.op,o.dst,o.guard with | .alloc _,some _,none=>true | .buildSlice ..,some _,none=>true|_,_,_=>false)&&Ahv l (xDeps l o) j
 | none=>false
def xRest0(l:List Oper)(fl:Option Nat)(li:List Bool)(i:Nat):List Nat :=
 Dl l (match fl with|some f=>(match Nat.beq f i with|true=>li|false=>li.set f true)|none=>li)
def xOnly(l:List Oper)(fl:Option Nat)(li:List Bool)(i:Nat):Bool:=(xRest0 l fl li i).all (Nat.beq i)
def xTake(l:List Oper)(li:List Bool)(i:Nat):Bool:=(match l[i]? with|some o=>xMild o.op&&o.dst.isSome|none=>false)&&Ahv l li i
def xFp(l:List Oper)(fl:Option Nat)(li:List Bool)(i:Nat):Bool:=match fl with
 | some f=>(Dl l li).contains f && !(Nat.beq f i)
 | none=>false
def xPlan(l:List Oper)(fl:Option Nat):Nat->List Bool->List (Nat×Bool×Bool)
 | 0,_=>[]
 | n+1,li=>match (Dl l li).filter (fun i=>match fl with|some f=>!(Nat.beq f i)|none=>true) with
  | []=>match fl with
   | some f=>match li.getD f true with
    | true=>[]
    | false=>(f,false,false)::xPlan l fl n (li.set f true)
   | none=>[]
  | r::rs=>match xOnly l fl li r with
   | true=>(r,false,xFp l fl li r)::xPlan l fl n (li.set r true)
   | false=>match (r::rs).find? (xTake l li) with
    | some i=>(i,true,false)::xPlan l fl n (li.set i true)
    | none=>[]
def xGood(l:List Oper)(fl:Option Nat)(pz:List Nat):List (Nat×Bool×Bool)->List Bool->Bool
 | [],li=>match Dl l li with|[]=>true|_=>false
 | (i,tk,fp)::r,li=>(Dl l li).contains i&&(match tk with
   | true=>pz.contains i&&xTake l li i&&(match fl with|some f=>!(Nat.beq f i)|none=>true)
   | false=>xOnly l fl li i&&(match xFp l fl li i with|true=>fp|false=>true))&&xGood l fl pz r (li.set i true)
def xPz(p:List (Nat×Bool×Bool)):List Nat:=(p.filter (·.2.1)).map (·.1)
def xFine(l:List Oper)(fl:Option Nat):Bool:=match xPlan l fl l.length (List.replicate l.length false) with
 | p=>xGood l fl (xPz p) p (List.replicate l.length false)
def xCands(l:List Oper):List (Option Nat):=((List.range l.length).filter (xEarly l)).map some
def xFloat(l:List Oper):Option Nat:=match (xCands l).find? (xFine l) with
 | some f=>f
 | none=>none
inductive R where
 | n (s:St)
 | x (id:Nat) (s:St)
 | r (s:St)
 | bad
inductive RV where
 | v (x:CV) (m:Mem)
 | bad
structure Fns where
 mn:Bool
 ch:Nat
 code:Nat->Option Nat->Code->St->R
 call:FuncId->List CV->Mem->RV
 send:FuncId->List CV->Mem->Nat->Option (List CV)
 msg:FuncId->List CV->Mem->Option (Nat×CV×Mem)
inductive OV where
 | v (x:CV) (m:Mem) (ds:List CD)
 | bad
def xKeysV:CV->List Nat:=CV.rec (motive_1:=fun _=>List Nat) (motive_2:=fun _=>List Nat) [] (fun _=>[]) (fun _ _=>[]) (fun _=>[]) [] (fun k _=>[k]) [] (fun k _ _ _ _=>[k]) [] (fun k=>[k]) [] (fun _=>[]) [] (fun _ _ _ a b=>xApp a b) (fun _=>[]) [] (fun _ _ a=>a) (fun _ a=>a) (fun _ a=>a) [] (fun _ _ a b=>xApp a b)
def xKeysL(l:List CV):List Nat:=List.rec (motive:=fun _=>List Nat) [] (fun a _ ih=>xApp (xKeysV a) ih) l
def xKeysO:CO->List Nat
 | .cells l=>xKeysL l
 | .grow _ l=>xKeysL l
 | .map es=>xKeysL (es.map (·.1))++xKeysL (es.map (·.2))
 | _=>[]
def xShare(n:Nat):List Nat->Tr Cell->Tr Cell:=Nat.rec (motive:=fun _=>List Nat->Tr Cell->Tr Cell) (fun _ M=>M)
 (fun _ ih l M=>match l with
  | []=>M
  | k::l=>match M.get k with
   | some (.own (.cells c))=>ih (xApp (xKeysL c) l) (M.set k (.ro (.cells c)))
   | some (.own (.grow z c))=>ih (xApp (xKeysL c) l) (M.set k (.ro (.grow z c)))
   | some (.own (.map es))=>ih (xApp (xKeysO (.map es)) l) (M.set k (.ro (.map es)))
   | _=>ih l M) n
def xIsRcv:Option Cell->Bool
 | some (.own (.rcv _))=>true
 | some (.own (.crowd _ _))=>true
 | _=>false
def xNoRcv(t:Tr Cell):Bool:=Tr.rec (motive:=fun _=>Bool) true (fun v _ _ a b=>match xIsRcv v with|true=>false|false=>match a with|true=>b|false=>false) t
def xRoOf:Option Cell->Option Cell
 | some (.ro o)=>some (.ro o)
 | _=>none
def xOnlyRo(t:Tr Cell):Tr Cell:=Tr.rec (motive:=fun _=>Tr Cell) .leaf (fun v _ _ a b=>.node (xRoOf v) a b) t
def xHasK(k:Nat)(l:List (Nat×Option Nat×List CV)):Bool:=List.rec (motive:=fun _=>Bool) false (fun a _ ih=>match Nat.beq a.1 k with|true=>true|false=>ih) l
def xRows(lo:Nat)(M:Tr Cell)(n:Nat):List Nat->List (Nat×Option Nat×List CV)->List (Nat×Option Nat×List CV):=Nat.rec (motive:=fun _=>List Nat->List (Nat×Option Nat×List CV)->List (Nat×Option Nat×List CV)) (fun _ a=>a)
 (fun _ ih l a=>match l with
  | []=>a
  | k::l=>match Nat.ble lo k,xHasK k a with
   | true,false=>match M.get k with
    | some (.ro (.cells c))=>ih (xApp (xKeysL c) l) ((k,none,c)::a)
    | some (.ro (.grow z c))=>ih (xApp (xKeysL c) l) ((k,some z,c)::a)
    | _=>ih l a
   | _,_=>ih l a) n
def xMsgOf(lo:Nat)(x:CV)(m:Mem):CV×List (Nat×Option Nat×List CV)×Nat×Nat:=(x,xRows lo (xShare 100000 (xKeysV x) m.M) 1000 (xKeysV x) [],lo,m.nx)
def xAllGe(lo:Nat)(l:List Nat):Bool:=List.rec (motive:=fun _=>Bool) true (fun a _ ih=>match Nat.ble lo a with|true=>ih|false=>false) l
def xRowsGe(lo:Nat)(l:List (Nat×Option Nat×List CV)):Bool:=List.rec (motive:=fun _=>Bool) true (fun a _ ih=>match xAllGe lo (xKeysL a.2.2) with|true=>ih|false=>false) l
def xMsgLow(q:CV×List (Nat×Option Nat×List CV)×Nat×Nat):Bool:=match xAllGe q.2.2.1 (xKeysV q.1) with|true=>xRowsGe q.2.2.1 q.2.1|false=>false
def xPutP(ps:List Tmp):List CV->Tr CV->Tr CV:=List.rec (motive:=fun _=>List CV->Tr CV->Tr CV) (fun _ e=>e) (fun t _ ih l e=>match l with|a::l=>ih l (e.set t a)|[]=>e) ps
def xArgEnv(args:List CV):Nat->Tr CV->Tr CV:=List.rec (motive:=fun _=>Nat->Tr CV->Tr CV) (fun _ e=>e) (fun a _ ih i e=>ih (Nat.succ i) (e.set i a)) args
def xChanOf(l:List CV):Option Nat:=List.rec (motive:=fun _=>Option Nat) none (fun a _ ih=>match a with | .c k=>some k|_=>ih) l
def xRev(l:List CV):List CV->List CV:=List.rec (motive:=fun _=>List CV->List CV) (fun r=>r) (fun a _ ih r=>ih (a::r)) l
def xAllLt(n:Nat)(l:List Nat):Bool:=List.rec (motive:=fun _=>Bool) true (fun t _ ih=>match Nat.ble (Nat.succ t) n with|true=>ih|false=>false) l
def xRest(m:Mem)(o:List CV):Mem:=⟨m.M,m.nx,m.log,m.ln,o⟩
def xEndRound(m:Mem)(ds:List CD)(k:Nat)(j:Option Code):OV:=match m.M.get k with
 | some (.own (.loop _ _ n env ps as_ body dk))=>.v (.b (match j with|none=>true|some _=>false)) (m.put k (.loop (match j with|none=>0|some _=>2) j n env ps as_ body dk)) ds
 | _=>.bad
def doOR(F:Fns)(st:St):OR->OV
 | .v x m=>.v x m st.ds
 | .rd x _=>.v x st.m st.ds
 | .enter f args=>match F.call f args st.m with | .v x m=>.v x (xRest m st.m.outs) st.ds | .bad=>.bad
 | .round k args=>match st.m.M.get k with
  | some (.own (.loop 0 _ n env ps as_ body _))=>match Nat.beq (xLen args) (xLen ps),xAllLt n ps with
   | true,true=>match F.code n (some k) as_ ⟨xPutP ps args env,st.m,[]⟩ with
    | .n st1=>match st1.ds,st1.m.M.get k with
     | [],some (.own (.loop 0 pd n' env' ps' as' body' dk'))=>match F.code n (some k) body ⟨st1.e,st1.m.put k (.loop 1 pd n' env' ps' as' body' dk'),[]⟩ with
      | .n st3=>xEndRound (xRest st3.m st.m.outs) st.ds k none
      | .x id st3=>xEndRound (xRest st3.m st.m.outs) st.ds k (some (.exit id))
      | .r st3=>xEndRound (xRest st3.m st.m.outs) st.ds k (some .ret)
      | .bad=>.bad
     | _,_=>.bad
    | _=>.bad
   | _,_=>.bad
  | _=>.bad
 | _=>.bad
def doX1(F:Fns)(_:Option Nat)(st:St):OR->OV
 | .go f args=>match F.mn,f with
  | true,.f g [] [] =>
   let all:=args
   match xNoRcv st.m.M,xChanOf all with
   | true,some k =>
    let M:=xShare 100000 (xKeysL all) st.m.M
    match M.get k,F.send g all ⟨xOnlyRo M,st.m.nx,[],0,[]⟩ k with
    | some (.own .chan),some outs=>.v .undef ⟨M.set k (.own (.rcv (xRev outs []))),st.m.nx,k::st.m.log,Nat.succ st.m.ln,st.m.outs⟩ st.ds
    | _,_=>.bad
   | _,_=>.bad
  | true,.f g [] (y::ys) =>
   let all:=xApp args (y::ys)
   let M:=xShare 100000 (xKeysL all) st.m.M
   match F.msg g all ⟨xOnlyRo M,st.m.nx,[],0,[]⟩ with
   | some (k,x,m1)=>match M.get k,xNoRcv (M.set k (.own .dead)) with
    | some (.own (.crowd (n+1) ms)),true=>match xMsgLow (xMsgOf st.m.nx x m1) with
     | true=>.v .undef ⟨M.set k (.own (.crowd n (xApp ms [xMsgOf st.m.nx x m1]))),st.m.nx,k::st.m.log,Nat.succ st.m.ln,st.m.outs⟩ st.ds
     | false=>.bad
    | _,_=>.bad
   | none=>.bad
  | _,_=>.bad
 | .recv k ok=>match F.mn,ok with
  | true,true=>match st.m.M.get k with
   | some (.own (.rcv (v::vs)))=>.v (.t [v,.b true]) (st.m.put k (.rcv vs)) st.ds
   | some (.own (.rcv []))=>.v (.t [.bad,.b false]) (st.m.put k .dead) st.ds
   | _=>.bad
  | _,_=>.bad
 | y=>doOR F st y
def xPlainV:CV->Bool
 | .b _ | .i _ _ | .s _=>true
 | _=>false
def doS1(F:Fns)(rd:Option Nat)(st:St):OR->OV
 | .send k x=>match Nat.beq k F.ch,xPlainV x with
  | true,true=>.v .undef (xRest st.m (x::st.m.outs)) st.ds
  | _,_=>.bad
 | .dclose x=>match rd,x,st.ds with
  | none,.c k,[]=>match Nat.beq k F.ch with|true=>.v .undef st.m [.close k]|false=>.bad
  | _,_,_=>.bad
 | y=>doOR F st y
def xOkV:CV->Bool:=CV.rec (motive_1:=fun _=>Bool) (motive_2:=fun _=>Bool) false (fun _=>true) (fun _ _=>true) (fun _=>true) true (fun _ _=>true) true (fun _ _ _ _ _=>true) true (fun _=>true) true (fun _=>true) true (fun _ _ _ a b=>a&&b) (fun _=>true) true (fun _ _ a=>a) (fun _ a=>a) (fun _ a=>a) true (fun _ _ a b=>a&&b)
structure KS where
 run:Fns->Option Nat->St->R
structure KD where
 run:Fns->Option Nat->List (Nat×Nat)->St->R
structure KG where
 run:Tr CV->Bool
structure KP where
 run:Tr CV->CV->Tr CV
structure DX where
 gl:Bool
 run:Fns->Option Nat->St->OR->OV
def doX:DX:=⟨true,doX1⟩
def doS:DX:=⟨false,doS1⟩
def dstK:Option Tmp->KP
 | some d=>⟨fun e v=>e.set d v⟩
 | none=>⟨fun e _=>e⟩
def guardK(l:List Oper)(o:Oper):KG:=match o.guard with
 | none=>⟨fun _=>true⟩
 | some (j,w)=>match (l[j]?).bind (·.dst) with
  | some d=>⟨fun e=>match e.get d with|some (.b x)=>(match x,w with|true,true=>true|false,false=>true|_,_=>false)|_=>false⟩
  | none=>⟨fun _=>false⟩
def gokK(l:List Oper)(o:Oper):KG:=match o.guard with
 | none=>⟨fun _=>true⟩
 | some (j,_)=>match (l[j]?).bind (·.dst) with
  | some d=>⟨fun e=>match e.get d with|some (.b _)=>true|some (.t _)=>true|_=>false⟩
  | none=>⟨fun _=>false⟩
def textK(P:Program)(dx:DX)(l:List Oper):List Oper->KS
 | []=>⟨fun _ _ st=>.n st⟩
 | o::r=>match opK P o.op,dstK o.dst,guardK l o,gokK l o,textK P dx l r with
  | ⟨f⟩,⟨d⟩,⟨g⟩,⟨gk⟩,⟨k⟩=>⟨fun F rd st=>match gk st.e with
   | false=>.bad
   | true=>match g st.e with
    | false=>k F rd ⟨d st.e .undef,st.m,st.ds⟩
    | true=>match dx.run F rd st (f st.e st.m) with
     | .v x m ds=>k F rd ⟨d st.e x,m,ds⟩
     | .bad=>.bad⟩
def xNoneOf(K:List Nat)(n:Nat):List Nat->Bool:=Nat.rec (motive:=fun _=>List Nat->Bool) (fun _=>true)
 (fun _ ih l=>match l with|[]=>true|k::l=>match K.any (Nat.beq k) with|true=>false|false=>ih l) n
def xWaits(l:List Oper)(j i:Nat):Bool:=match l[j]? with
 | some o=>o.after.toList.any fun e=>Region.binds .any e&&e.on==i
 | none=>true
def xKeep(wt:Nat->Bool)(n:Nat)(lg:List Nat)(K:List (Nat×Nat)):Option (List (Nat×Nat)):=List.rec (motive:=fun _=>Option (List (Nat×Nat))) (some [])
 (fun a _ ih=>match wt a.1 with
  | true=>ih
  | false=>match xNoneOf [a.2] n lg with
   | true=>match ih with|some r=>some (a::r)|none=>none
   | false=>none) K
structure KH where
 run:Tr CV->Mem->Bool
def xIsV:OR->Bool
 | .v _ _=>true
 | _=>false
def flK(P:Program)(l:List Oper):Option Nat->KH
 | none=>⟨fun _ _=>true⟩
 | some f=>match l[f]? with
  | some o=>match opK P o.op with|⟨g⟩=>⟨fun e m=>xIsV (g e m)⟩
  | none=>⟨fun _ _=>false⟩
def anyK(P:Program)(l:List Oper)(fo:KH):List (Nat×Bool×Bool)->KD
 | []=>⟨fun _ _ _ st=>.n st⟩
 | (i,tk,fp)::r=>match l[i]?,anyK P l fo r with
  | none,_=>⟨fun _ _ _ _=>.bad⟩
  | some o,⟨k⟩=>match opK P o.op,dstK o.dst,guardK l o,gokK l o,tk with
   | ⟨f⟩,⟨d⟩,⟨g⟩,⟨gk⟩,true=>⟨fun F rd K st=>match gk st.e with
    | true=>match g st.e with
     | false=>k F rd K ⟨d st.e .undef,st.m,st.ds⟩
     | true=>match f st.e st.m with
      | .rd x q=>match xOkV x with
       | true=>k F rd ((i,q)::K) ⟨d st.e x,st.m,st.ds⟩
       | false=>.bad
      | .v x m=>match Nat.beq m.nx st.m.nx with
       | true=>k F rd K ⟨d st.e x,st.m,st.ds⟩
       | false=>.bad
      | _=>.bad
    | false=>.bad⟩
   | ⟨f⟩,⟨d⟩,⟨g⟩,⟨gk⟩,false=>⟨fun F rd K st=>match (match fp with|true=>fo.run st.e st.m|false=>true),gk st.e with
    | true,true=>match (match g st.e with|false=>OV.v .undef st.m st.ds|true=>doOR F st (f st.e st.m)) with
     | .v x m ds=>match xKeep (xWaits l i) (Nat.sub m.ln st.m.ln) m.log K with
      | some K=>k F rd K ⟨d st.e x,m,ds⟩
      | none=>.bad
     | .bad=>.bad
    | _,_=>.bad⟩
def xSlotsN(n:Nat):List Oper->Bool
 | []=>true
 | o::l=>match o.dst with
  | some d=>match Nat.ble (Nat.succ d) n with|true=>xSlotsN n l|false=>false
  | none=>xSlotsN n l
def drawK(P:Program)(l:List Oper):KS:=match Apw l,P.follows .mixedOrders with
 | true,true =>
  let p:=xPlan l (xFloat l) l.length (List.replicate l.length false)
  let pz:=xPz p
  match xGood l (xFloat l) pz p (List.replicate l.length false),anyK P l (flK P l (xFloat l)) p with
  | true,⟨k⟩=>⟨fun F rd st=>k F rd [] st⟩
  | false,_=>⟨fun _ _ _=>.bad⟩
 | _,_=>⟨fun _ _ _=>.bad⟩
def xGoLast(l:List Oper):Bool:=match l.getLast? with
 | some o=>match o.op with | .go _=>true|_=>false
 | none=>false
def regK(P:Program)(dx:DX)(n:Nat)(l:List Oper)(draw:Bool):KS:=match xSlotsN n l with
 | false=>⟨fun _ _ _=>.bad⟩
 | true=>match draw with
  | false=>textK P dx l l
  | true=>match xGoLast l,dx.gl with
   | false,_=>drawK P l
   | true,false=>⟨fun _ _ _=>.bad⟩
   | true,true=>match Adh (l.take (l.length-1)),Amp (l.take (l.length-1)) l,drawK P (l.take (l.length-1)),textK P dx l (l.drop (l.length-1)) with
    | true,true,⟨f⟩,⟨g⟩=>⟨fun F rd st=>match f F rd st with | .n st=>g F rd st|_=>.bad⟩
    | _,_,_,_=>⟨fun _ _ _=>.bad⟩
structure KC where
 run:Fns->Option Nat->St->R
def xLoopR(f:Fns->Option Nat->St->R)(F:Fns)(rd:Option Nat)(n:Nat):St->R:=Nat.rec (motive:=fun _=>St->R) (fun _=>.bad)
 (fun _ ih st=>match f F rd st with | .n st=>ih st|y=>y) n
def xRange(F:Fns)(n:Nat)(ps:List Tmp)(as_ body:Code)(g:FuncId)(ys:List CV)(e:Tr CV)(dk:Nat)(m:Mem)(ds:List CD):R :=
 match F.call g (.y m.nx::ys) (m.add (.loop 0 none n e ps as_ body dk)) with
 | .v _ m'=>match m'.M.get m.nx with
  | some (.own (.loop b pd n' env ps' as' body' dk'))=>match Nat.beq b 1 with
   | true=>.bad
   | false=>match pd with
    | none=>.n ⟨e,xRest (m'.put m.nx (.loop 3 none n' env ps' as' body' dk')) m.outs,ds⟩
    | some c=>match c with
     | .exit id=>.x id ⟨e,xRest (m'.put m.nx (.loop 3 pd n' env ps' as' body' dk')) m.outs,ds⟩
     | .ret=>.r ⟨e,xRest (m'.put m.nx (.loop 3 pd n' env ps' as' body' dk')) m.outs,ds⟩
     | _=>.bad
  | _=>.bad
 | .bad=>.bad
def codeK(P:Program)(dx:DX)(n:Nat):Code->KC
 | .skip=>⟨fun _ _ st=>.n st⟩
 | .region _ ops draw=>match regK P dx n ops.toList draw with|⟨k⟩=>⟨fun F rd st=>k F rd st⟩
 | .seq a b=>match codeK P dx n a,codeK P dx n b with
  | ⟨f⟩,⟨g⟩=>⟨fun F rd st=>match f F rd st with | .n st=>g F rd st|y=>y⟩
 | .cond c a b=>match rdK c,codeK P dx n a,codeK P dx n b with
  | ⟨c⟩,⟨f⟩,⟨g⟩=>⟨fun F rd st=>match c st.e with | .b true=>f F rd st | .b false=>g F rd st|_=>.bad⟩
 | .block id a=>match codeK P dx n a with
  | ⟨f⟩=>⟨fun F rd st=>match f F rd st with | .x j st=>(match Nat.beq j id with|true=>.n st|false=>.x j st)|y=>y⟩
 | .loop a=>match codeK P dx n a with|⟨f⟩=>⟨fun F rd st=>xLoopR f F rd 1000000 st⟩
 | .scope a=>match codeK P dx n a with|⟨f⟩=>⟨fun F rd st=>f F rd st⟩
 | .label _=>⟨fun _ _ st=>.n st⟩
 | .exit id=>⟨fun _ _ st=>.x id st⟩
 | .ret=>⟨fun _ _ st=>.r st⟩
 | .rangeFunc f ps as_ body=>match rdK f,xAllLt n ps.toList with
  | ⟨f⟩,true=>⟨fun F rd st=>match f st.e with
   | .f g [] ys=>match xHasBody P g with
    | true=>match rd with
     | some l=>match st.m.M.get l with|some (.own (.loop _ _ _ _ _ _ _ dk))=>xRange F n ps.toList as_ body g ys st.e dk st.m st.ds|_=>.bad
     | none=>xRange F n ps.toList as_ body g ys st.e st.m.nx (st.m.add .defd) (.mark st.m.nx::st.ds)
    | false=>.bad
   | _=>.bad⟩
  | _,false=>⟨fun _ _ _=>.bad⟩
 | _=>⟨fun _ _ _=>.bad⟩
structure KR where
 run:Tr CV->Mem->Option (List CV)
def resK(P:Program):List ResultVar->KR
 | []=>⟨fun _ _=>some []⟩
 | .tmp t::l=>match resK P l with|⟨g⟩=>⟨fun e m=>match g e m with|some r=>some ((match e.get t with|some v=>v|none=>.bad)::r)|none=>none⟩
 | .cell a t::l=>match resK P l,partK P t with
  | ⟨g⟩,⟨h⟩=>⟨fun e m=>match e.get a with
   | some (.p k off)=>match m.row k with
    | some c=>match h (xDrp off c),g e m with|some v,some r=>some (v::r)|_,_=>none
    | none=>none
   | _=>none⟩
structure KF where
 run:Fns->List CV->Mem->RV
def xDefersR(l:List CD):Mem->Option Mem:=List.rec (motive:=fun _=>Mem->Option Mem) (fun m=>some m)
 (fun d _ ih m=>match d with
  | .mark k=>match m.M.get k with|some (.own .defd)=>ih (m.put k .dead)|_=>none
  | .close _=>none) l
def xFin(h:Tr CV->Mem->Option (List CV))(st:St):RV:=match xDefersR st.ds st.m with
 | some m=>match h st.e m with
  | some [v]=>.v v m
  | some l=>.v (.t l) m
  | none=>.bad
 | none=>.bad
def funK(P:Program)(g:Nat):KF:=match P.funcs[g]? with
 | some fn=>match fn.body with
  | some c=>match codeK P doX fn.ntmps c,resK P fn.results.toList,fn.ntmps with
   | ⟨f⟩,⟨h⟩,n=>⟨fun F args m=>match Nat.ble (xLen args) n with
    | true=>match f F none ⟨xArgEnv args 0 .leaf,m,[]⟩ with
     | .n st=>xFin h st
     | .r st=>xFin h st
     | _=>.bad
    | false=>.bad⟩
  | none=>⟨fun _ _ _=>.bad⟩
 | none=>⟨fun _ _ _=>.bad⟩
structure KQ where
 run:Fns->St->Option St
def preK(P:Program)(l:List Oper):List Oper->KQ
 | []=>⟨fun _ st=>some st⟩
 | o::r=>match opK P o.op,dstK o.dst,guardK l o,gokK l o,preK P l r with
  | ⟨f⟩,⟨d⟩,⟨g⟩,⟨gk⟩,⟨k⟩=>⟨fun F st=>match gk st.e with
   | false=>none
   | true=>match g st.e with
    | false=>k F ⟨d st.e .undef,st.m,st.ds⟩
    | true=>match doOR F st (f st.e st.m) with
     | .v x m ds=>k F ⟨d st.e x,m,ds⟩
     | .bad=>none⟩
def xTail:Code->Option (Code×Nat×List Oper)
 | .seq a b=>match xTail b with|some (c,i,l)=>some (.seq a c,i,l)|none=>none
 | .region i ops false=>some (.skip,i,ops.toList)
 | _=>none
structure KM where
 run:Fns->List CV->Mem->Option (Nat×CV×Mem)
def xSendOf(o:Oper):Option (Operand×Operand):=match o.op,o.guard with
 | .send x y,none=>some (x,y)
 | _,_=>none
def msgK(P:Program)(g:Nat):KM:=match P.funcs[g]?,xHasBody P g with
 | some fn,true=>match fn.body,fn.results.toList with
  | some c,[]=>match xTail c with
   | some (c,_,l)=>match l.getLast?,xSlotsN fn.ntmps l with
    | some so,true=>match xSendOf so with
     | some (x,y)=>match codeK P doX fn.ntmps c,preK P l l.dropLast,rdK x,rdK y,fn.ntmps with
      | ⟨f⟩,⟨p⟩,⟨x⟩,⟨y⟩,n=>⟨fun F args m=>match Nat.ble (xLen args) n with
       | true=>match f F none ⟨xArgEnv args 0 .leaf,m,[]⟩ with
        | .n st=>match p F st with
         | some st=>match st.ds,x st.e with
          | [],.c k=>some (k,y st.e,st.m)
          | _,_=>none
         | none=>none
        | _=>none
       | false=>none⟩
     | none=>⟨fun _ _ _=>none⟩
    | _,_=>⟨fun _ _ _=>none⟩
   | none=>⟨fun _ _ _=>none⟩
  | _,_=>⟨fun _ _ _=>none⟩
 | _,_=>⟨fun _ _ _=>none⟩
structure KX where
 run:Fns->List CV->Mem->Nat->Option (List CV)
def xFinS(k:Nat)(st:St):Option (List CV):=match st.ds with|[.close j]=>(match Nat.beq j k with|true=>some st.m.outs|false=>none)|_=>none
def sendK(P:Program)(g:Nat):KX:=match P.funcs[g]?,xHasBody P g with
 | some fn,true=>match fn.body,fn.results.toList with
  | some c,[]=>match codeK P doS fn.ntmps c,fn.ntmps with
   | ⟨f⟩,n=>⟨fun F args m k=>match Nat.ble (xLen args) n with
    | true=>match f ⟨false,k,F.code,F.call,F.send,F.msg⟩ none ⟨xArgEnv args 0 .leaf,m,[]⟩ with
     | .n st=>xFinS k st
     | .r st=>xFinS k st
     | _=>none
    | false=>none⟩
  | _,_=>⟨fun _ _ _ _=>none⟩
 | _,_=>⟨fun _ _ _ _=>none⟩
def xWF(P:Program)(n:Nat):Fns:=Nat.rec ⟨false,0,fun _ _ _ _=>.bad,fun _ _ _=>.bad,fun _ _ _ _=>none,fun _ _ _=>none⟩
 (fun _ F=>⟨false,0,fun n rd c st=>match codeK P doX n c with|⟨f⟩=>f F rd st,fun g args m=>match funK P g with|⟨f⟩=>f F args m,fun _ _ _ _=>none,fun _ _ _=>none⟩) n
theorem Baf{α:Type}(a b:α)(x y:Nat):(Bool.rec a b (Nat.beq x y):α)=if x=y then b else a:=by
 by_cases h:x=y
 ·subst h;simp
 ·have:Nat.beq x y=false:=by
   cases hb:Nat.beq x y with
   | false=>rfl
   | true=>exact absurd (lZ8 hb) h
  rw[this,if_neg h]
theorem Tr.get_leaf{α}(k:Nat):(Tr.leaf:Tr α).get k=none:=rfl
theorem Tr.get_node{α}(v:Option α)(l r:Tr α)(k:Nat):(Tr.node v l r).get k=if k=0 then v else if k%2=0 then r.get (k/2-1) else l.get (k/2):=by show (Bool.rec (Bool.rec (l.get (k/2)) (r.get (k/2-1)) (Nat.beq (k%2) 0)) v (Nat.beq k 0):Option α)=_;rw[Baf,Baf]
theorem Tr.put_leaf{α}(n k:Nat)(a:α):Tr.put (n+1) .leaf k a=if k=0 then .node (some a) .leaf .leaf else if k%2=0 then .node none .leaf (Tr.put n .leaf (k/2-1) a) else .node none (Tr.put n .leaf (k/2) a) .leaf:=by show (Bool.rec (Bool.rec (.node none (Tr.put n .leaf (k/2) a) .leaf) (.node none .leaf (Tr.put n .leaf (k/2-1) a)) (Nat.beq (k%2) 0)) (.node (some a) .leaf .leaf) (Nat.beq k 0):Tr α)=_;rw[Baf,Baf]
theorem Tr.put_node{α}(n k:Nat)(v:Option α)(l r:Tr α)(a:α):Tr.put (n+1) (.node v l r) k a=if k=0 then .node (some a) l r else if k%2=0 then .node v l (Tr.put n r (k/2-1) a) else .node v (Tr.put n l (k/2) a) r:=by show (Bool.rec (Bool.rec (.node v (Tr.put n l (k/2) a) r) (.node v l (Tr.put n r (k/2-1) a)) (Nat.beq (k%2) 0)) (.node (some a) l r) (Nat.beq k 0):Tr α)=_;rw[Baf,Baf]
theorem Tr.get_put{α:Type}:∀(n:Nat) (t:Tr α) (k:Nat) (a:α) (j:Nat),k<n->(Tr.put n t k a).get j=if j=k then some a else t.get j
 | 0,_,_,_,_,h=>absurd h (Vn _)
 | n+1,t,k,a,j,h=>by
  have key:∀(v:Option α) (l r:Tr α),(Tr.put (n+1) (.node v l r) k a).get j=if j=k then some a else (Tr.node v l r).get j:=fun v l r=>by
   rw[Tr.put_node];by_cases hk:k=0
   ·subst hk;rw[if_pos rfl,Tr.get_node,Tr.get_node];by_cases hj:j=0
    ·rw[if_pos hj,if_pos hj]
    ·rw[if_neg hj,if_neg hj,if_neg hj]
   ·rw[if_neg hk];by_cases h2:k%2=0
    ·rw[if_pos h2,Tr.get_node,Tr.get_node,Tr.get_put n r _ a _ (by omega)];by_cases hj:j=0
     ·subst hj;rw[if_pos rfl,if_pos rfl,if_neg (by omega)]
     ·rw[if_neg hj,if_neg hj];by_cases hj2:j%2=0
      ·rw[if_pos hj2,if_pos hj2];by_cases hjk:j=k
       ·rw[if_pos (by omega),if_pos hjk]
       ·rw[if_neg (by omega),if_neg hjk]
      ·rw[if_neg hj2,if_neg hj2,if_neg (by omega)]
    ·rw[if_neg h2,Tr.get_node,Tr.get_node,Tr.get_put n l _ a _ (by omega)];by_cases hj:j=0
     ·subst hj;rw[if_pos rfl,if_pos rfl,if_neg (by omega)]
     ·rw[if_neg hj,if_neg hj];by_cases hj2:j%2=0
      ·rw[if_pos hj2,if_pos hj2,if_neg (by omega)]
      ·rw[if_neg hj2,if_neg hj2];by_cases hjk:j=k
       ·rw[if_pos (by omega),if_pos hjk]
       ·rw[if_neg (by omega),if_neg hjk]
  cases t with
  | node v l r=>exact key v l r
  | leaf =>
   have e:Tr.put (n+1) .leaf k a=Tr.put (n+1) (.node none .leaf .leaf) k a:=by rw[Tr.put_leaf,Tr.put_node]
   rw[e,key none .leaf .leaf,Tr.get_node,Tr.get_leaf];simp[Tr.get_leaf]
theorem Tr.get_set{α}(t:Tr α)(k:Nat)(a:α)(j:Nat):(t.set k a).get j=if j=k then some a else t.get j:=Tr.get_put _ t k a j (Aqv _)
theorem Aax{α:Type}:∀(n:Nat) (l:List α),xDrp n l=l.drop n
 | 0,l=>rfl
 | n+1,[]=>by simp[xDrp]
 | n+1,a::l=>Aax n l
theorem Aaz{α:Type}:∀(n:Nat) (l r:List α),xTkn n l=some r->n<=l.length/\r=l.take n
 | 0,l,r,h=>by cases h;exact⟨Hz _,rfl⟩
 | n+1,[],r,h=>by cases h
 | n+1,a::l,r,h=>by
  have h':(match xTkn n l with|some r=>some (a::r)|none=>none)=some r:=h;cases hx:xTkn n l with
  | none=>rw[hx]at h';cases h'
  | some r' =>
   rw[hx]at h';cases h';obtain⟨b,c⟩:=Aaz n l r' hx;exact⟨Axp b,by rw[c];rfl⟩
theorem Afb{α:Type}:∀(n:Nat) (l:List α),xNth n l=l[n]?
 | 0,[]=>rfl
 | 0,a::l=>rfl
 | n+1,[]=>rfl
 | n+1,a::l=>by rw[Xr];exact Afb n l
theorem Mf{α:Type}:∀(x y:List α),xApp x y=x++y
 | [],y=>rfl
 | a::x,y=>by rw[Te,<-Mf x y];rfl
theorem Iv{α:Type}:∀(x:List α),xLen x=x.length
 | []=>rfl
 | a::x=>by rw[Gk,<-Iv x];rfl
theorem Azu:∀(vs l r:List CV),xOver vs l=some r->vs.length<=l.length/\r=vs++l.drop vs.length
 | [],l,r,h=>by cases h;exact⟨Hz _,rfl⟩
 | v::vs,[],r,h=>by cases h
 | v::vs,a::l,r,h=>by
  have h':(match xOver vs l with|some r=>some (v::r)|none=>none)=some r:=h;cases hx:xOver vs l with
  | none=>rw[hx]at h';cases h'
  | some r' =>
   rw[hx]at h';cases h';obtain⟨b,c⟩:=Azu vs l r' hx;exact⟨Axp b,by rw[c];rfl⟩
theorem Aoq:∀(n:Nat) (vs l r:List CV),xSetL n vs l=some r->n+vs.length<=l.length/\r=l.take n++(vs++l.drop (n+vs.length))
 | 0,vs,l,r,h=>by
  obtain⟨h1,h2⟩:=Azu vs l r h;exact⟨by omega,by rw[h2];simp⟩
 | n+1,vs,[],r,h=>by cases h
 | n+1,vs,a::l,r,h=>by
  have h':(match xSetL n vs l with|some r=>some (a::r)|none=>none)=some r:=h;cases hx:xSetL n vs l with
  | none=>rw[hx]at h';cases h'
  | some r' =>
   rw[hx]at h';cases h';obtain⟨h1,h2⟩:=Aoq n vs l r' hx;refine⟨by simp only[Gk];omega,?_⟩;rw[h2,show n+1+vs.length=(n+vs.length)+1 by omega];rfl
abbrev XR:=Nat->Option (Nat×Nat)
def XR.le(R R':XR):Prop:=∀k q,R k=some q->R' k=some q
theorem XR.le.refl{R}:XR.le R R:=fun _ _ h=>h
theorem XR.le.trans{R R' R''}(h:XR.le R R')(h':XR.le R' R''):XR.le R R'':=fun k q hk=>h' k q (h k q hk)
inductive VR(R:XR):List CV->List Value->Prop
 | nil:VR R [] []
 | bad {l:List CV} {l':List Value} (v:Value):VR R l l'->VR R (.bad::l) (v::l')
 | b {l:List CV} {l':List Value} (x:Bool):VR R l l'->VR R (.b x::l) (.bool x::l')
 | i {l:List CV} {l':List Value} (k:IntKind) (n:Int):VR R l l'->VR R (.i k n::l) (.int k n::l')
 | s {l:List CV} {l':List Value} (x:List UInt8):VR R l l'->VR R (.s x::l) (.string ⟨x.toArray⟩::l')
 | pn {l:List CV} {l':List Value}:VR R l l'->VR R (.pn::l) (.pointer none::l')
 | p {l:List CV} {l':List Value} {k off b c:Nat}:R k=some (b,c)->VR R l l'->VR R (.p k off::l) (.pointer (some ⟨b,off,none⟩)::l')
 | sn {l:List CV} {l':List Value}:VR R l l'->VR R (.sn::l) (.slice none 0 0::l')
 | slK {l:List CV} {l':List Value} {k off ln cp b c:Nat}:R k=some (b,c)->VR R l l'->VR R (.sl k off ln true cp::l) (.slice (some ⟨b,off,none⟩) ln cp::l')
 | slU {l:List CV} {l':List Value} {k off ln a b c:Nat}:R k=some (b,c)->VR R l l'->VR R (.sl k off ln false a::l) (.slice (some ⟨b,off,none⟩) ln (c-a)::l')
 | mn {l:List CV} {l':List Value}:VR R l l'->VR R (.mn::l) (.map none::l')
 | m {l:List CV} {l':List Value} {k b c:Nat}:R k=some (b,c)->VR R l l'->VR R (.m k::l) (.map (some b)::l')
 | cn {l:List CV} {l':List Value}:VR R l l'->VR R (.cn::l) (.chan none::l')
 | c {l:List CV} {l':List Value} {k b c:Nat}:R k=some (b,c)->VR R l l'->VR R (.c k::l) (.chan (some b)::l')
 | fn {l:List CV} {l':List Value}:VR R l l'->VR R (.fn::l) (.nilFunc::l')
 | f {l xs ys:List CV} {l' xs' ys':List Value} (g:Nat):VR R xs xs'->VR R ys ys'->VR R l l'->VR R (.f g xs ys::l) (.func (.func g) xs'.toArray ys'.toArray::l')
 | y {l:List CV} {l':List Value} {k b c:Nat}:R k=some (b,c)->VR R l l'->VR R (.y k::l) (.func (.yield b) #[] #[]::l')
 | n {l:List CV} {l':List Value}:VR R l l'->VR R (.n::l) (.nilIface::l')
 | a {l:List CV} {l':List Value} {v:CV} {v':Value} (t:Nat):VR R [v] [v']->VR R l l'->VR R (.a t v::l) (.iface t v'::l')
 | g {l xs:List CV} {l' xs':List Value}:VR R xs xs'->VR R l l'->VR R (.g xs::l) (.agg xs'.toArray::l')
 | t {l xs:List CV} {l' xs':List Value}:VR R xs xs'->VR R l l'->VR R (.t xs::l) (.tuple xs'.toArray::l')
abbrev V1(R:XR)(v:CV)(v':Value):Prop:=VR R [v] [v']
theorem VR.cons_iff{R v v' l l'}:VR R (v::l) (v'::l')↔V1 R v v'/\VR R l l':=by
 constructor
 ·intro h;cases h with
  | bad _ h=>exact⟨.bad _ .nil,h⟩
  | b _ h=>exact⟨.b _ .nil,h⟩
  | i _ _ h=>exact⟨.i _ _ .nil,h⟩
  | s _ h=>exact⟨.s _ .nil,h⟩
  | pn h=>exact⟨.pn .nil,h⟩
  | p h1 h=>exact⟨.p h1 .nil,h⟩
  | sn h=>exact⟨.sn .nil,h⟩
  | slK h1 h=>exact⟨.slK h1 .nil,h⟩
  | slU h1 h=>exact⟨.slU h1 .nil,h⟩
  | mn h=>exact⟨.mn .nil,h⟩
  | m h1 h=>exact⟨.m h1 .nil,h⟩
  | cn h=>exact⟨.cn .nil,h⟩
  | c h1 h=>exact⟨.c h1 .nil,h⟩
  | fn h=>exact⟨.fn .nil,h⟩
  | f g h1 h2 h=>exact⟨.f g h1 h2 .nil,h⟩
  | y h1 h=>exact⟨.y h1 .nil,h⟩
  | n h=>exact⟨.n .nil,h⟩
  | a t h1 h=>exact⟨.a t h1 .nil,h⟩
  | g h1 h=>exact⟨.g h1 .nil,h⟩
  | t h1 h=>exact⟨.t h1 .nil,h⟩
 ·rintro⟨h,h'⟩;cases h with
  | bad _ _=>exact .bad _ h'
  | b _ _=>exact .b _ h'
  | i _ _ _=>exact .i _ _ h'
  | s _ _=>exact .s _ h'
  | pn _=>exact .pn h'
  | p h1 _=>exact .p h1 h'
  | sn _=>exact .sn h'
  | slK h1 _=>exact .slK h1 h'
  | slU h1 _=>exact .slU h1 h'
  | mn _=>exact .mn h'
  | m h1 _=>exact .m h1 h'
  | cn _=>exact .cn h'
  | c h1 _=>exact .c h1 h'
  | fn _=>exact .fn h'
  | f g h1 h2 _=>exact .f g h1 h2 h'
  | y h1 _=>exact .y h1 h'
  | n _=>exact .n h'
  | a t h1 _=>exact .a t h1 h'
  | g h1 _=>exact .g h1 h'
  | t h1 _=>exact .t h1 h'
theorem VR.len{R:XR}:∀{l:List CV} {l':List Value},VR R l l'->l.length=l'.length
 | [],[],_=>rfl
 | v::l,v'::l',h=>by rw[Gk,Gk,(VR.cons_iff.1 h).2.len]
 | [],_::_,h=>by cases h
 | _::_,[],h=>by cases h
theorem VR.mono{R R'}(hR:XR.le R R'){l l'}(h:VR R l l'):VR R' l l':=by
 induction h with
 | nil=>exact .nil
 | bad _ _ ih=>exact .bad _ ih
 | b _ _ ih=>exact .b _ ih
 | i _ _ _ ih=>exact .i _ _ ih
 | s _ _ ih=>exact .s _ ih
 | pn _ ih=>exact .pn ih
 | p h _ ih=>exact .p (hR _ _ h) ih
 | sn _ ih=>exact .sn ih
 | slK h _ ih=>exact .slK (hR _ _ h) ih
 | slU h _ ih=>exact .slU (hR _ _ h) ih
 | mn _ ih=>exact .mn ih
 | m h _ ih=>exact .m (hR _ _ h) ih
 | cn _ ih=>exact .cn ih
 | c h _ ih=>exact .c (hR _ _ h) ih
 | fn _ ih=>exact .fn ih
 | f g _ _ _ i1 i2 ih=>exact .f g i1 i2 ih
 | y h _ ih=>exact .y (hR _ _ h) ih
 | n _ ih=>exact .n ih
 | a t _ _ i1 ih=>exact .a t i1 ih
 | g _ _ i1 ih=>exact .g i1 ih
 | t _ _ i1 ih=>exact .t i1 ih
theorem VR.app{R:XR}:∀{l k:List CV} {l' k':List Value},VR R l l'->VR R k k'->VR R (l++k) (l'++k')
 | [],_,[],_,_,h=>h
 | v::l,_,v'::l',_,h,h'=>VR.cons_iff.2 ⟨(VR.cons_iff.1 h).1,(VR.cons_iff.1 h).2.app h'⟩
 | [],_,_::_,_,h,_=>by cases h
 | _::_,_,[],_,h,_=>by cases h
theorem VR.drop{R:XR}:∀(d:Nat) {l:List CV} {l':List Value},VR R l l'->VR R (l.drop d) (l'.drop d)
 | 0,_,_,h=>h
 | d+1,[],[],_=>.nil
 | d+1,v::l,v'::l',h=>(VR.cons_iff.1 h).2.drop d
 | _+1,[],_::_,h=>by cases h
 | _+1,_::_,[],h=>by cases h
theorem VR.take{R:XR}:∀(d:Nat) {l:List CV} {l':List Value},VR R l l'->VR R (l.take d) (l'.take d)
 | 0,_,_,h=>.nil
 | d+1,[],[],_=>.nil
 | d+1,v::l,v'::l',h=>VR.cons_iff.2 ⟨(VR.cons_iff.1 h).1,(VR.cons_iff.1 h).2.take d⟩
 | _+1,[],_::_,h=>by cases h
 | _+1,_::_,[],h=>by cases h
theorem VR.at{R:XR}:∀{d:Nat} {l:List CV} {l':List Value} {v:CV},VR R l l'->l[d]?=some v->∃v',l'[d]?=some v'/\V1 R v v'
 | 0,v::l,v'::l',_,h,e=>by cases e;exact⟨v',rfl,(VR.cons_iff.1 h).1⟩
 | d+1,v::l,v'::l',_,h,e=>by
  rw[Xr]at e;obtain⟨w,h1,h2⟩:=(VR.cons_iff.1 h).2.at e;exact⟨w,by rw[Xr];exact h1,h2⟩
 | _,[],_,_,_,e=>by cases e
 | _,_::_,[],_,h,_=>by cases h
theorem Bwf(R:XR)(v:Value):V1 R (xOf0 v) v:=by
 unfold xOf0;split
 ·exact .b _ .nil
 ·exact .i _ _ .nil
 ·rename_i x;have:x=⟨x.data.toList.toArray⟩:=by simp
  exact this ▸ VR.s _ .nil
 ·exact .pn .nil
 ·exact .sn .nil
 ·exact .mn .nil
 ·exact .cn .nil
 ·exact .fn .nil
 ·exact .n .nil
 ·rename_i g xs ys;split
  ·rename_i h1 h2;have a:xs=([]:List Value).toArray:=by rw[<-h1]
   have c:ys=([]:List Value).toArray:=by rw[<-h2]
   rw[a,c];exact .f g .nil .nil .nil
  ·exact .bad _ .nil
 ·exact .bad _ .nil
theorem Bwg(R:XR)(v:Value):V1 R (xOf1 v) v:=by
 unfold xOf1;split
 ·exact .a _ (Bwf R _) .nil
 ·exact Bwf R v
theorem Bqm(R:XR):∀(l:List Value),VR R (l.map xOf1) l
 | []=>.nil
 | v::l=>VR.cons_iff.2 ⟨Bwg R v,Bqm R l⟩
theorem vOf(R:XR)(v:Value):V1 R (xOfV v) v:=by
 unfold xOfV;split
 ·rename_i l;have:=VR.g (Bqm R l.toList) (VR.nil (R:=R))
  rwa[Ads]at this
 ·rename_i l;have:=VR.t (Bqm R l.toList) (VR.nil (R:=R))
  rwa[Ads]at this
 ·exact Bwg R v
theorem V1.cells{R v v' l}(h:V1 R v v')(hl:v.cells=some l):VR R l v'.cells.toList:=by
 cases h with
 | bad=>cases hl
 | g h1 _=>cases hl;simpa[Value.cells]using h1
 | b=>cases hl;exact .b _ .nil
 | i=>cases hl;exact .i _ _ .nil
 | s=>cases hl;exact .s _ .nil
 | pn=>cases hl;exact .pn .nil
 | p h1=>cases hl;exact .p h1 .nil
 | sn=>cases hl;exact .sn .nil
 | slK h1=>cases hl;exact .slK h1 .nil
 | slU h1=>cases hl;exact .slU h1 .nil
 | mn=>cases hl;exact .mn .nil
 | m h1=>cases hl;exact .m h1 .nil
 | cn=>cases hl;exact .cn .nil
 | c h1=>cases hl;exact .c h1 .nil
 | fn=>cases hl;exact .fn .nil
 | f g h1 h2=>cases hl;exact .f g h1 h2 .nil
 | y h1=>cases hl;exact .y h1 .nil
 | n=>cases hl;exact .n .nil
 | a t h1=>cases hl;exact .a t h1 .nil
 | t h1=>cases hl;exact .t h1 .nil
theorem Bcu{a l}(h:xAllC (a::l)=true):a.isCell=true/\xAllC l=true:=by
 have h':(match a.isCell with|true=>xAllC l|false=>false)=true:=h;cases ha:a.isCell with
 | true=>rw[ha]at h';exact⟨rfl,h'⟩
 | false=>rw[ha]at h';cases h'
theorem V1.single{R v v'}(h:V1 R v v')(hc:v.isCell=true):single v'=true:=by cases h<;>first|rfl|(simp[CV.isCell]at hc)
theorem VR.singles{R:XR}:∀{l:List CV} {l':List Value},VR R l l'->xAllC l=true->∀x∈l',single x=true
 | [],[],_,_,x,hx=>by cases hx
 | v::l,v'::l',h,hc,x,hx=>by
  obtain⟨h1,h2⟩:=VR.cons_iff.1 h;obtain⟨a,b⟩:=Bcu hc;rcases lZ9.1 hx with rfl|hx
  ·exact h1.single a
  ·exact h2.singles b x hx
 | [],_::_,h,_,_,_=>by cases h
 | _::_,[],h,_,_,_=>by cases h
end
section
def EnvR(R:XR)(e:Tr CV)(e':Env):Prop:=∀t v,e.get t=some v->V1 R v (e' t)
theorem EnvR.mono{R R' e e'}(h:EnvR R e e')(hR:XR.le R R'):EnvR R' e e':=fun t v ht=>(h t v ht).mono hR
theorem EnvR.set{R e e'}(h:EnvR R e e'){d v v'}(hv:V1 R v v'):EnvR R (e.set d v) (upd e' d v'):=fun t w ht=>by
 rw[Tr.get_set]at ht;unfold upd;by_cases hd:t=d
 ·rw[if_pos hd]at ht ⊢;cases ht;exact hv
 ·rw[if_neg hd]at ht ⊢;exact h t w ht
def stB:Nat->LoopState
 | 0=>.ready
 | 1=>.busy
 | 2=>.done
 | _=>.exhausted
def Bgg(n:Nat)(fz:Nat×Nat):Prop:=∀i,i<n->(fz.1<=i&&i<fz.2)=false
abbrev Ub:=CV×List (Nat×Option Nat×List CV)×Nat×Nat
def Caw(R:XR)(c:Nat):Option Nat->List CV->Obj->Prop
 | none,l,o=>∃l' t fz,o = .cells (List.toArray l') t fz/\VR R l l'
 | some n,l,o=>∃l' rest t fz,o = .cells (List.toArray (l'++rest)) t fz/\VR R l l'/\l'.length+rest.length=c*n/\0<n
def Avi(R0:XR)(q:Ub)(v:Value)(Y1:Ro):Prop :=
 ∃R1:XR,XR.le R0 R1/\V1 R1 q.1 v/\(∀x∈q.2.1,∃b c y,R1 x.1=some (b,c)/\Y1 b=some y/\Caw R1 c x.2.1 x.2.2 y)/\∀j z,R1 j=some z->j<q.2.2.2
def xKeysM(q:Ub):List Nat:=xKeysV q.1++q.2.1.flatMap fun x=>xKeysL x.2.2
def MsgsR(R:XR):List Ub->List (Value->Ro->Prop)->Prop
 | [],[]=>True
 | q::ms,r::Rs=>(∃R0,XR.le R0 R/\(∀j∈xKeysM q,j<q.2.2.1->(R0 j).isSome=true)/\r=Avi R0 q)/\MsgsR R ms Rs
 | _,_=>False
theorem MsgsR.mono{R R':XR}(hR:XR.le R R'):∀{ms:List Ub} {Rs:List (Value->Ro->Prop)},MsgsR R ms Rs->MsgsR R' ms Rs
 | [],[],_=>trivial
 | q::ms,r::Rs,⟨⟨R0,h1,h2,h3⟩,h⟩=>⟨⟨R0,h1.trans hR,h2,h3⟩,MsgsR.mono hR h⟩
theorem MsgsR.len{R:XR}:∀{ms:List Ub} {Rs:List (Value->Ro->Prop)},MsgsR R ms Rs->ms.length=Rs.length
 | [],[],_=>rfl
 | q::ms,r::Rs,⟨_,h⟩=>by rw[Gk,Gk,h.len]
theorem MsgsR.app{R:XR}{q:Ub}{r:Value->Ro->Prop}(hq:∃R0,XR.le R0 R/\(∀j∈xKeysM q,j<q.2.2.1->(R0 j).isSome=true)/\r=Avi R0 q):∀{ms:List Ub} {Rs:List (Value->Ro->Prop)},MsgsR R ms Rs->MsgsR R (ms++[q]) (Rs++[r])
 | [],[],_=>⟨hq,trivial⟩
 | _::_,_::_,⟨h0,h⟩=>⟨h0,h.app hq⟩
theorem MsgsR.at{R:XR}:∀{ms:List Ub} {Rs:List (Value->Ro->Prop)} {n:Nat} {r:Value->Ro->Prop},MsgsR R ms Rs->Rs[n]?=some r ->
  ∃q,ms[n]?=some q/\(∃R0,XR.le R0 R/\(∀j∈xKeysM q,j<q.2.2.1->(R0 j).isSome=true)/\r=Avi R0 q)/\MsgsR R (ms.eraseIdx n) (Rs.eraseIdx n)
 | [],[],_,_,_,h=>by cases h
 | q::ms,r0::Rs,0,r,⟨h0,h⟩,e=>by cases e;exact⟨q,rfl,h0,h⟩
 | q::ms,r0::Rs,n+1,r,⟨h0,h⟩,e=>by
  rw[Xr]at e;obtain⟨q',h1,h2,h3⟩:=h.at e;exact⟨q',by rw[Xr];exact h1,h2,h0,h3⟩
structure BornOk(en:List MapEntry)(ck:Nat):Prop where
 at_:∀(i:Nat) (e:MapEntry),en[i]?=some e->e.born=i
 ck:ck=en.length
inductive ObjR(R:XR)(c:Nat):CO->Res->Prop
 | cells {l:List CV} {l':List Value} {t:TypeId} {fz:Nat×Nat}:VR R l l'->Bgg l'.length fz->ObjR R c (.cells l) (.obj (.cells l'.toArray t fz))
 | grow {n:Nat} {l:List CV} {l' rest:List Value} {t:TypeId} {fz:Nat×Nat}:VR R l l'->l'.length+rest.length=c*n->0<n->Bgg (l'.length+rest.length) fz->ObjR R c (.grow n l) (.obj (.cells (l'++rest).toArray t fz))
 | map {es:List (CV×CV)} {en:List MapEntry} {ck:Nat}:VR R (es.map Prod.fst) (en.map MapEntry.key)->VR R (es.map Prod.snd) (en.map MapEntry.val)->BornOk en ck->ObjR R c (.map es) (.obj (.map en.toArray ck))
 | loop {busy n:Nat} {pd:Option Code} {env:Tr CV} {ps:List Tmp} {as_ body:Code} {dk b c':Nat} {L:Loop} {e':Env}:L.state=stB busy->L.pending=pd->EnvOf n L.tmps e'->EnvR R env e'->L.params=ps.toArray->L.assign=as_->L.body=body ->
   R dk=some (b,c')->L.defers=b->ObjR R c (.loop busy pd n env ps as_ body dk) (.obj (.loop L))
 | defd:ObjR R c .defd (.obj (.deferred (some [])))
 | chan:ObjR R c .chan .chan
 | rcv {vs:List CV} {vs':List Value}:VR R vs vs'->ObjR R c (.rcv vs) (.recv vs')
 | crowd {k:Nat} {ms:List Ub} {Rs:List (Value->Ro->Prop)}:MsgsR R ms Rs->ObjR R c (.crowd k ms) (.crowd k Rs)
 | iter {k n b c':Nat} {sn:List Nat}:R k=some (b,c')->ObjR R c (.iter k n sn) (.obj (.mapIter (some b) n sn.toArray n))
theorem ObjR.mono{R R' c o r}(h:ObjR R c o r)(hR:XR.le R R'):ObjR R' c o r:=by
 cases h with
 | cells h1 h2=>exact .cells (h1.mono hR) h2
 | grow h1 h2 h3 h4=>exact .grow (h1.mono hR) h2 h3 h4
 | map h1 h2 h3=>exact .map (h1.mono hR) (h2.mono hR) h3
 | loop h1 h2 h3 h4 h5 h6 h7 h8 h9=>exact .loop h1 h2 h3 (h4.mono hR) h5 h6 h7 (hR _ _ h8) h9
 | defd=>exact .defd
 | chan=>exact .chan
 | rcv h=>exact .rcv (h.mono hR)
 | crowd h=>exact .crowd (h.mono hR)
 | iter h=>exact .iter (hR _ _ h)
def Bzh:Obj->Nat×Nat->Obj
 | .cells c t _,f=>.cells c t f
 | o,_=>o
def ObjO(R:XR)(c:Nat)(o:CO)(x:Obj):Prop:=∃f,ObjR R c o (.obj (Bzh x f))
theorem ObjO.mono{R R' c o x}(h:ObjO R c o x)(hR:XR.le R R'):ObjO R' c o x:=let ⟨f,h⟩:=h;⟨f,h.mono hR⟩
theorem ObjO.of{R c o x}(h:ObjR R c o (.obj x)):ObjO R c o x:=by
 cases x with
 | cells cs t f=>exact⟨f,h⟩
 | _=>exact⟨(0,0),h⟩
structure MemR(R:XR)(m:Mem)(Y:Ro)(Z Z9:Own)(L:List (Nat×Nat×Res))(G:Own):Prop where
 perm:Z.Perm (L.map Prod.snd++(G++Z9))
 nd:(L.map Prod.fst).Nodup
 own:∀p∈L,∃c o,R p.1=some (p.2.1,c)/\m.M.get p.1=some (.own o)/\ObjR R c o p.2.2
 all:∀k o,m.M.get k=some (.own o)->o ≠ .dead->∃q,(k,q)∈L
 ro:∀k o,m.M.get k=some (.ro o)->∃b c x,R k=some (b,c)/\Y b=some x/\ObjO R c o x
 gar:∀p∈G,∃o,p.2=Res.obj o
 lt:∀k q,R k=some q->k<m.nx
 glob:∀k,k<16->R k=some (k,0)
def MemX(R:XR)(m:Mem)(Y:Ro)(Z Z9:Own):Prop:=∃L G,MemR R m Y Z Z9 L G
section
variable{R:XR}{m:Mem}{Y:Ro}{Z Z9:Own}{L:List (Nat×Nat×Res)}{G:Own}
theorem Bub{Z τ:Own}{x}(h:Z.Perm τ)(hx:x∈τ):∃i:Nat,Z[i]?=some x:=Td (h.mem_iff.2 hx)
theorem Ane{x x'}:∀{i:Nat} {Z τ:Own},Z.Perm (x::τ)->Z[i]?=some x->(Z.set i x').Perm (x'::τ):=fun {i Z τ} h hi=>by
 have hlt:i<Z.length:=by
  rcases Uo i Z.length with h'|h'
  ·exact h'
  ·rw[Tp h']at hi;cases hi
 have b:(Z.set i x').Perm (x'::Z.eraseIdx i):=by
  clear h hi;induction Z generalizing i with
  | nil=>cases hlt
  | cons a Z ih =>
   cases i with
   | zero=>exact .refl _
   | succ i=>exact((ih (by simpa using hlt)).cons a).trans (.swap ..)
 have c:Z.Perm (x::Z.eraseIdx i):=by
  clear h b;induction Z generalizing i with
  | nil=>cases hlt
  | cons a Z ih =>
   cases i with
   | zero=>cases hi;exact .refl _
   | succ i =>
    rw[Xr]at hi;exact((ih hi (by simpa using hlt)).cons a).trans (.swap ..)
 exact b.trans (.cons _ (c.symm.trans h).cons_inv)
theorem Tw{L:List (Nat×Nat×Res)}{p:Nat×Nat×Res}(h:p∈L):∃A B,L=A++p::B:=Bmy h
theorem MemR.at(h:MemR R m Y Z Z9 L G){k o}(hk:m.M.get k=some (.own o))(hd:o ≠ .dead):
  ∃(b c:Nat) (r:Res) (i:Nat),R k=some (b,c)/\Z[i]?=some (b,r)/\ObjR R c o r/\(k,b,r)∈L:=by obtain⟨⟨b,r⟩,hq⟩:=h.all k o hk hd;obtain⟨c,o',d,a,e⟩:=h.own _ hq;simp only at d a e;rw[hk]at a;cases a;obtain⟨i,hi⟩:=Bub h.perm (Qu _ (Rp (f:=Prod.snd) hq));exact⟨b,c,r,i,d,hi,e,hq⟩
theorem Nd(m:Mem)(k:Nat)(o:CO)(j:Nat):(m.put k o).M.get j=if j=k then some (.own o) else m.M.get j:=Tr.get_set ..
theorem Se(m:Mem)(o:CO)(j:Nat):(m.add o).M.get j=if j=m.nx then some (.own o) else m.M.get j:=Tr.get_set ..
theorem MemR.put(h:MemR R m Y Z Z9 L G){k b c i r r' o'}(hL:(k,b,r)∈L)(hR:R k=some (b,c))(hi:Z[i]?=some (b,r))(ho:ObjR R c o' r'):MemX R (m.put k o') Y (Z.set i (b,r')) Z9:=by
 obtain⟨A,B,rfl⟩:=Tw hL;have nd:=h.nd;simp only[Nk,Jg]at nd;have hAB:∀p∈A++B,p.1≠k:=fun p hp e=>by
  rw[Aij]at nd;obtain⟨w,u,v⟩:=nd;rcases Hr.1 hp with hp|hp
  ·exact v p.1 (Rp (f:=Prod.fst) hp) k mC e
  ·exact(Tj.1 u).1 (e ▸ Rp (f:=Prod.fst) hp)
 have mid:∀{x:Nat×Nat×Res} {p},p∈A++x::B->p=x∨p∈A++B:=fun {x p} hp=>by
  rcases Hr.1 hp with hp|hp
  ·exact .inr (Qu _ hp)
  ·rcases lZ9.1 hp with hp|hp
   ·exact .inl hp
   ·exact .inr (Pa _ hp)
 have dim:∀{x:Nat×Nat×Res} {p},p∈A++B->p∈A++x::B:=fun {x p} hp=>(Hr.1 hp).elim (Qu _) fun hp=>Pa _ (lZ0 _ hp);refine⟨A++(k,b,r')::B,G,?_,by simpa using h.nd,fun p hp=>?_,fun j o hj hd=>?_,fun j o hj=>?_,h.gar,h.lt,h.glob⟩
 ·have a:=h.perm;simp only[Nk,Jg,Gt,Te]at a ⊢;exact(Ane (a.trans Als) hi).trans List.perm_middle.symm
 ·rcases mid hp with rfl|hp
  ·exact⟨c,o',hR,by rw[Nd,if_pos rfl],ho⟩
  ·obtain⟨d,o1,g,n,t⟩:=h.own p (dim hp);exact⟨d,o1,g,by rw[Nd,if_neg (hAB p hp)];exact n,t⟩
 ·rw[Nd]at hj;by_cases hjk:j=k
  ·subst hjk;exact⟨_,Pa _ mC⟩
  ·rw[if_neg hjk]at hj;obtain⟨q,hq⟩:=h.all j o hj hd;rcases mid hq with e|hq
   ·exact absurd (Prod.mk.inj e).1 hjk
   ·exact⟨q,dim hq⟩
 ·rw[Nd]at hj;by_cases hjk:j=k
  ·rw[if_pos hjk]at hj;cases hj
  ·rw[if_neg hjk]at hj;exact h.ro j o hj
theorem MemR.kill(h:MemR R m Y Z Z9 L G){k b o}(hL:(k,b,Res.obj o)∈L):MemX R (m.put k .dead) Y Z Z9:=by
 obtain⟨A,B,rfl⟩:=Tw hL;have nd:=h.nd;simp only[Nk,Jg]at nd;have hAB:∀p∈A++B,p.1≠k:=fun p hp e=>by
  rw[Aij]at nd;obtain⟨u,n,t⟩:=nd;rcases Hr.1 hp with hp|hp
  ·exact t p.1 (Rp (f:=Prod.fst) hp) k mC e
  ·exact(Tj.1 n).1 (e ▸ Rp (f:=Prod.fst) hp)
 have dim:∀{p},p∈A++B->p∈A++(k,b,Res.obj o)::B:=fun {p} hp=>(Hr.1 hp).elim (Qu _) fun hp=>Pa _ (lZ0 _ hp);refine⟨A++B,(b,.obj o)::G,?_,?_,fun p hp=>?_,fun j oj hj hd=>?_,fun j oj hj=>?_,fun p hp=>?_,h.lt,h.glob⟩
 ·have a:=h.perm;simp only[Nk,Jg,Gt,Te]at a ⊢;refine a.trans (List.Perm.append_left _ ?_);exact List.perm_middle.symm
 ·rw[Nk];have:(A.map Prod.fst++B.map Prod.fst).Sublist (A.map Prod.fst++k::B.map Prod.fst):=List.Sublist.append_left (Axg ..) _;exact this.nodup nd
 ·obtain⟨c,o1,d,g,i⟩:=h.own p (dim hp);exact⟨c,o1,d,by rw[Nd,if_neg (hAB p hp)];exact g,i⟩
 ·rw[Nd]at hj;by_cases hjk:j=k
  ·rw[if_pos hjk]at hj;cases hj;exact absurd rfl hd
  ·rw[if_neg hjk]at hj;obtain⟨q,hq⟩:=h.all j oj hj hd;rcases Hr.1 hq with hq|hq
   ·exact⟨q,Qu _ hq⟩
   ·rcases lZ9.1 hq with e|hq
    ·exact absurd (Prod.mk.inj e).1 hjk
    ·exact⟨q,Pa _ hq⟩
 ·rw[Nd]at hj;by_cases hjk:j=k
  ·rw[if_pos hjk]at hj;cases hj
  ·rw[if_neg hjk]at hj;exact h.ro j oj hj
 ·rcases lZ9.1 hp with rfl|hp
  ·exact⟨o,rfl⟩
  ·exact h.gar p hp
def XR.add(R:XR)(k:Nat)(q:Nat×Nat):XR:=fun j=>if j=k then some q else R j
theorem XR.add_same{R:XR}{k q}:R.add k q k=some q:=if_pos rfl
theorem MemR.fresh(h:MemR R m Y Z Z9 L G)(q:Nat×Nat):XR.le R (R.add m.nx q):=fun j q' hj=>by
 unfold XR.add;rw[if_neg (Aho (h.lt j q' hj))];exact hj
theorem MemR.add(h:MemR R m Y Z Z9 L G){b c r o}(ho:ObjR (R.add m.nx (b,c)) c o r):MemX (R.add m.nx (b,c)) (m.add o) Y ((b,r)::Z) Z9:=by
 have hle:=h.fresh (b,c);have hlt:∀p∈L,p.1<m.nx:=fun p hp=>by
  obtain⟨d,o1,a,_⟩:=h.own p hp;exact h.lt _ _ a
 refine⟨(m.nx,b,r)::L,G,h.perm.cons _,Tj.2 ⟨fun hm=>?_,h.nd⟩,fun p hp=>?_,fun j oj hj hd=>?_,fun j oj hj=>?_,h.gar,fun j q hj=>?_,fun j hj=>hle _ _ (h.glob j hj)⟩
 ·obtain⟨p,hp,e⟩:=Jy.1 hm;exact absurd (hlt p hp) (by omega)
 ·rcases lZ9.1 hp with rfl|hp
  ·exact⟨c,o,XR.add_same,by rw[Se,if_pos rfl],ho⟩
  ·obtain⟨d,o1,a,f,g⟩:=h.own p hp;exact⟨d,o1,hle _ _ a,by rw[Se,if_neg (Aho (hlt p hp))];exact f,g.mono hle⟩
 ·rw[Se]at hj;by_cases hjk:j=m.nx
  ·subst hjk;exact⟨_,Vc ..⟩
  ·rw[if_neg hjk]at hj;obtain⟨q,hq⟩:=h.all j oj hj hd;exact⟨q,lZ0 _ hq⟩
 ·rw[Se]at hj;by_cases hjk:j=m.nx
  ·rw[if_pos hjk]at hj;cases hj
  ·rw[if_neg hjk]at hj;obtain⟨i,d,k,a,f,g⟩:=h.ro j oj hj;exact⟨i,d,k,hle _ _ a,f,g.mono hle⟩
 ·unfold XR.add at hj;by_cases hjk:j=m.nx
  ·subst hjk;exact Aqv _
  ·rw[if_neg hjk]at hj;exact Axn (h.lt j q hj)
theorem MemR.move(h:MemR R m Y Z Z9 L G){k b c i r r' o'}(hL:(k,b,r)∈L)(hi:Z[i]?=some (b,r))(ho:ObjR (R.add m.nx (b,c)) c o' r'):
  MemX (R.add m.nx (b,c)) ((m.put k .dead).add o') Y (Z.set i (b,r')) Z9:=by
 have hle:=h.fresh (b,c);obtain⟨A,B,rfl⟩:=Tw hL;have nd:=h.nd;simp only[Nk,Jg]at nd;have hAB:∀p∈A++B,p.1≠k:=fun p hp e=>by
  rw[Aij]at nd;obtain⟨y,v,w⟩:=nd;rcases Hr.1 hp with hp|hp
  ·exact w p.1 (Rp (f:=Prod.fst) hp) k mC e
  ·exact(Tj.1 v).1 (e ▸ Rp (f:=Prod.fst) hp)
 have dim:∀{p},p∈A++B->p∈A++(k,b,r)::B:=fun {p} hp=>(Hr.1 hp).elim (Qu _) fun hp=>Pa _ (lZ0 _ hp);have hlt:∀p∈A++(k,b,r)::B,p.1<m.nx:=fun p hp=>by
  obtain⟨d,o1,a,_⟩:=h.own p hp;exact h.lt _ _ a
 have hk:k<m.nx:=hlt (k,b,r) hL;have get:∀j,((m.put k .dead).add o').M.get j=if j=m.nx then some (.own o') else if j=k then some (.own .dead) else m.M.get j:=fun j=>by
  rw[Se,Nd];rfl
 refine⟨(m.nx,b,r')::(A++B),G,?_,Tj.2 ⟨fun hm=>?_,?_⟩,fun p hp=>?_,fun j oj hj hd=>?_,fun j oj hj=>?_,h.gar,fun j q hj=>?_,fun j hj=>hle _ _ (h.glob j hj)⟩
 ·have t:=h.perm;simp only[Nk,Jg,Gt,Te]at t ⊢;exact Ane (t.trans Als) hi
 ·obtain⟨p,hp,e⟩:=Jy.1 hm;exact absurd (hlt p (dim hp)) (by omega)
 ·rw[Nk];have:(A.map Prod.fst++B.map Prod.fst).Sublist (A.map Prod.fst++k::B.map Prod.fst):=List.Sublist.append_left (Axg ..) _;exact this.nodup nd
 ·rcases lZ9.1 hp with rfl|hp
  ·exact⟨c,o',XR.add_same,by rw[get,if_pos rfl],ho⟩
  ·obtain⟨d,o1,a,g,n⟩:=h.own p (dim hp);exact⟨d,o1,hle _ _ a,by rw[get,if_neg (Aho (hlt p (dim hp))),if_neg (hAB p hp)];exact g,n.mono hle⟩
 ·rw[get]at hj;by_cases hjk:j=m.nx
  ·subst hjk;exact⟨_,Vc ..⟩
  ·rw[if_neg hjk]at hj;by_cases hj2:j=k
   ·rw[if_pos hj2]at hj;cases hj;exact absurd rfl hd
   ·rw[if_neg hj2]at hj;obtain⟨q,hq⟩:=h.all j oj hj hd;rcases Hr.1 hq with hq|hq
    ·exact⟨q,lZ0 _ (Qu _ hq)⟩
    ·rcases lZ9.1 hq with e|hq
     ·exact absurd (Prod.mk.inj e).1 hj2
     ·exact⟨q,lZ0 _ (Pa _ hq)⟩
 ·rw[get]at hj;by_cases hjk:j=m.nx
  ·rw[if_pos hjk]at hj;cases hj
  ·rw[if_neg hjk]at hj;by_cases hj2:j=k
   ·rw[if_pos hj2]at hj;cases hj
   ·rw[if_neg hj2]at hj;obtain⟨u,d,x,a,g,n⟩:=h.ro j oj hj;exact⟨u,d,x,hle _ _ a,g,n.mono hle⟩
 ·unfold XR.add at hj;by_cases hjk:j=m.nx
  ·subst hjk;exact Aqv _
  ·rw[if_neg hjk]at hj;exact Axn (h.lt j q hj)
theorem MemR.row(h:MemR R m Y Z Z9 L G){k l}(hk:m.row k=some l):
  ∃b c l' rest t fz,R k=some (b,c)/\Has Y Z b (.cells (l'++rest).toArray t fz)/\VR R l l':=by
 have key:∀{o:CO} {c:Nat} {r:Res},xRowO o=some l->ObjR R c o r->∃l' rest t fz,r = .obj (.cells (l'++rest).toArray t fz)/\VR R l l'/\Bgg (l'.length+rest.length) fz:=by
  intro o c r ho hr;cases hr with
  | @cells _ l' t fz a d=>cases ho;exact⟨l',[],t,fz,by simp,a,by simpa using d⟩
  | grow a d g n=>cases ho;exact⟨_,_,_,_,rfl,a,n⟩
  | map=>cases ho
  | loop=>cases ho
  | defd=>cases ho
  | chan=>cases ho
  | rcv=>cases ho
  | crowd=>cases ho
  | iter=>cases ho
 unfold Mem.row at hk;cases hg:m.M.get k with
 | none=>rw[hg]at hk;cases hk
 | some x =>
  rw[hg]at hk;cases x with
  | own o =>
   have hd:o ≠ .dead:=fun e=>by subst e;cases hk
   obtain⟨b,c,r,i,a,d,g,n⟩:=h.at hg hd;obtain⟨l',rest,t,fz,rfl,j,p⟩:=key hk g;exact⟨b,c,l',rest,t,fz,a,.inr (lZ5 d),j⟩
  | ro o =>
   obtain⟨b,c,x,a,d,f,g⟩:=h.ro k o hg;obtain⟨l',rest,t,fz,e,j,p⟩:=key hk g;cases x with
   | cells cs t' f' =>
    have e':Res.obj (.cells cs t' f) = .obj (.cells (l'++rest).toArray t fz):=e;cases e';exact⟨b,c,l',rest,_,_,a,.inl d,j⟩
   | _=>cases e
end
end
section
def Pe(R:XR):Prop:=∀k,k<16->R k=some (k,0)
theorem MemX.globR{R m Y Z Z9}(h:MemX R m Y Z Z9):Pe R:=let ⟨_,_,h⟩:=h;h.glob
theorem Dz{R e e'}(h:EnvR R e e')(hg:Pe R)(x:Operand):V1 R ((rdK x).run e) (Af e' x):=by
 cases x with
 | tmp t =>
  show V1 R (match e.get t with|some v=>v|none=>.bad) (e' t);cases ht:e.get t with
  | some v=>exact h t v ht
  | none=>exact .bad _ .nil
 | const v=>exact vOf R v
 | global g =>
  have a:(rdK (.global g)).run e=match Nat.ble (Nat.succ g) 16 with|true=>.p g 0|false=>.bad:=by
   simp only[rdK];cases Nat.ble (Nat.succ g) 16<;>rfl
  rw[a];split
  ·rename_i hb;exact .p (hg g (lZ7 hb)) .nil
  ·exact .bad _ .nil
 | func f=>exact .f f .nil .nil .nil
theorem Aaj{R:XR}{e:Tr CV}{e':Env}(h:EnvR R e e')(hg:Pe R):∀(l:List Operand),VR R ((rdsK l).run e) (l.map (Af e'))
 | []=>.nil
 | x::l=>VR.cons_iff.2 ⟨Dz h hg x,Aaj h hg l⟩
def NxV(nx:Next)(v:Value):Prop:=nx = .value v∨(nx = .skip/\v=undef)
structure LogOk(m m':Mem):Prop where
 nx:m.nx<=m'.nx
 ex:∃w,m'.log=w++m.log/\m'.ln=m.ln+w.length/\∀k,k<m.nx->k∉w->m'.M.get k=m.M.get k
 outs:m'.outs=m.outs
theorem LogOk.refl(m:Mem):LogOk m m:=⟨Ig _,⟨[],rfl,rfl,fun _ _ _=>rfl⟩,rfl⟩
theorem LogOk.put(m:Mem)(k:Nat)(o:CO):LogOk m (m.put k o):=⟨Ig _,⟨[k],rfl,rfl,fun j _ hn=>by
 rw[Nd,if_neg (fun e=>hn (by rw[e];exact Vc ..))]⟩,rfl⟩
theorem LogOk.add(m:Mem)(o:CO):LogOk m (m.add o):=⟨Nat.le_succ _,⟨[],rfl,rfl,fun j hj _=>by rw[Se,if_neg (Aho hj)]⟩,rfl⟩
theorem LogOk.trans{m m' m''}(h:LogOk m m')(h':LogOk m' m''):LogOk m m'':=by obtain⟨w,a,b,c⟩:=h.ex;obtain⟨w',d,e,f⟩:=h'.ex;refine⟨Tk h.nx h'.nx,⟨w'++w,by rw[d,a,Gt],by rw[e,b,lZ4];omega,fun k hk hn=>?_⟩,h'.outs.trans h.outs⟩;rw[f k (Nx hk h.nx) (fun hm=>hn (Qu _ hm)),c k hk (fun hm=>hn (Pa _ hm))]
def To(P:Program)(o:Op)(R:XR)(e':Env)(x:CV):Prop :=
 ∃v,V1 R x v/\∀Y Z dd ty pos af g,wpS P Y (execOp (Af e') ⟨dd,o,ty,pos,af,g⟩) Z (fun nx Z'=>nx = .value v/\Z'=Z)
def Bge(P:Program)(o:Op)(R:XR)(e':Env)(m:Mem)(x:CV)(m':Mem):Prop :=
 LogOk m m'/\(xMild o=true->m'.nx≠m.nx)/\∀Y Z Z9 dd ty pos af g,MemX R m Y Z Z9->wpS P Y (execOp (Af e') ⟨dd,o,ty,pos,af,g⟩) Z (fun nx Z'=>∃R' v,XR.le R R'/\NxV nx v/\V1 R' x v/\MemX R' m' Y Z' Z9)
theorem Jl{P o R e' x v}(s:Sem Value)(hs:∀dd ty pos af g,execOp (Af e') ⟨dd,o,ty,pos,af,g⟩=s.bind fun v=>Sem.pure (Next.value v))(hv:V1 R x v)(h:∀Y Z,wpS P Y s Z (fun w Z'=>w=v/\Z'=Z)):To P o R e' x:=⟨v,hv,fun Y Z dd ty pos af g=>by
 rw[hs,Ad];exact Eu (by rintro w Z' ⟨rfl,rfl⟩;exact⟨rfl,rfl⟩) _ _ (h Y Z)⟩
theorem Avk{P o R e' m x co c ob}(s:Sem Value)(mk:Nat->Value)(hs:∀dd ty pos af g,execOp (Af e') ⟨dd,o,ty,pos,af,g⟩=s.bind fun v=>Sem.pure (Next.value v))(h:∀Y Z Q,(∀r,Q (mk r) ((r,.obj ob)::Z))->wpS P Y s Z Q)(ho:∀R',XR.le R R'->ObjR R' c co (.obj ob))(hx:∀R' r,R' m.nx=some (r,c)->V1 R' x (mk r)):Bge P o R e' m x (m.add co):=by refine⟨.add m co,fun _=>Auc _,fun Y Z Z9 dd ty pos af g hm=>?_⟩;obtain⟨L,G,hm⟩:=hm;rw[hs,Ad];refine h Y Z _ fun r=>?_;exact⟨R.add m.nx (r,c),mk r,hm.fresh _,.inl rfl,hx _ r XR.add_same,hm.add (ho _ (hm.fresh _))⟩
section
variable{P:Program}{t:TypeId}
theorem Ob{n}(h:xSzT P t=some n):∃i,P.info? t=some i/\i.size=n:=by
 unfold xSzT at h;cases hi:P.info? t with
 | none=>rw[hi]at h;cases h
 | some i=>rw[hi]at h;cases h;exact⟨i,rfl,rfl⟩
theorem Zm{b}(h:xAggT P t=some b):∃d,P.underlying t=some d/\Qv d=b:=by
 unfold xAggT at h;cases hd:P.underlying t with
 | none=>rw[hd]at h;cases h
 | some d=>rw[hd]at h;cases h;exact⟨d,rfl,rfl⟩
theorem Ri{z}(h:xZeroT P t=some z):∃v,Fw P t v/\z=xOfV v:=by
 unfold xZeroT at h;cases hi:P.info? t with
 | none=>rw[hi]at h;cases h
 | some i =>
  rw[hi]at h;simp only at h;cases hz:i.zero with
  | none=>rw[hz]at h;cases h
  | some v=>rw[hz]at h;cases h;exact⟨v,⟨i,hi,hz⟩,rfl⟩
end
theorem Ml{k k'}(h:xKind k k'=true):k=k':=by cases k<;>cases k'<;>first|rfl|cases h
theorem Aay(a b:Int):xEqI a b=(a==b):=by
 cases a<;>cases b<;>simp only[xEqI]
 ·rename_i x y;rw[Alt];simp;omega
 ·rfl
 ·rfl
 ·rename_i x y;rw[Alt];simp
theorem Ajc(a b:Int):xLtI a b=decide (a<b):=by
 cases a<;>cases b<;>simp only[xLtI]
 ·rename_i x y;rw[Alt];simp[Nat.ble_eq];omega
 ·rename_i x y
  symm;rw[decide_eq_false_iff_not];show ¬((x:Int)<_);omega
 ·rename_i x y
  symm;rw[decide_eq_true_iff];show _<(y:Int);omega
 ·rename_i x y;rw[Alt];simp[Nat.ble_eq];omega
theorem not_lt(a b:Int):(!decide (b<a))=decide (a<=b):=by rw[Alt];simp
end
section
section
variable{R:XR}
theorem Aoi{v b}(h:V1 R (.b b) v):v = .bool b:=by cases h;rfl
theorem Oc{v k n}(h:V1 R (.i k n) v):v = .int k n:=by cases h;rfl
theorem Ze{v l}(h:V1 R (.s l) v):v = .string ⟨l.toArray⟩:=by cases h;rfl
end
theorem Bdp{x y:List CV}{r:Bool}(h:eqD [] x y=some r):x=[]/\y=[]/\r=true:=by
 have h':eqD0 x y=some r:=h;unfold eqD0 at h';split at h'
 ·cases h';exact⟨rfl,rfl,rfl⟩
 ·cases h'
theorem Awr{k:CK}{ks:List CK}{x y:List CV}{r:Bool}(h:eqD (k::ks) x y=some r):∃a x' b y' p q,x=a::x'/\y=b::y'/\eqC k a b=some p/\eqD ks x' y'=some q/\r=(p&&q):=by
 have h':eqD1 k (eqD ks) x y=some r:=h;unfold eqD1 at h';split at h'
 ·rename_i a x' b y';split at h'
  ·rename_i p q h1 h2;cases h';exact⟨a,x',b,y',p,q,rfl,rfl,h1,h2,by cases p<;>rfl⟩
  ·cases h'
 ·cases h'
theorem Bdo:∀{a b:List CK} {x y:List CV} {r:Bool},eqD (a++b) x y=some r->∃xa xr ya yr p q,x=xa++xr/\y=ya++yr/\xa.length=a.length/\ya.length=a.length/\eqD a xa ya=some p/\eqD b xr yr=some q/\r=(p&&q)
 | [],b,x,y,r,h=>⟨[],x,[],y,true,r,rfl,rfl,rfl,rfl,rfl,h,by simp⟩
 | k::a,b,x,y,r,h=>by
  obtain⟨u,x',v,y',p,q,rfl,rfl,h1,h2,rfl⟩:=Awr h;obtain⟨xa,xr,ya,yr,p',q',rfl,rfl,c,d,e,f,rfl⟩:=Bdo h2;refine⟨u::xa,xr,v::ya,yr,p&&p',q',rfl,rfl,by simp[c],by simp[d],?_,f,by rw[Bool.and_assoc]⟩;show (match eqC k u v,eqD a xa ya with|some r,some q=>some (match r with|true=>q|false=>false)|_,_=>none)=_;rw[h1,e];cases p<;>rfl
theorem Xl:∀(a b:List UInt8),xEqS a b=(a==b)
 | [],[]=>rfl
 | [],_::_=>rfl
 | _::_,[]=>rfl
 | x::a,y::b=>by
  show (Bool.rec false (xEqS a b) (Nat.beq x.toNat y.toNat):Bool)=_;rw[Baf,Xl a b];by_cases h:x.toNat=y.toNat
  ·rw[if_pos h];have:x=y:=UInt8.toNat_inj.1 h;subst this;simp
  ·rw[if_neg h];have:x≠y:=fun e=>h (by rw[e]);simp[this]
theorem Bux(a b:List UInt8):((⟨a.toArray⟩:ByteArray)==⟨b.toArray⟩)=(a==b):=by rw[Aec,ByteArray.toList_eq,ByteArray.toList_eq]
def Bqy(P:Program)(R:XR)(t:TypeId)(xs:List CV)(x:Value):Prop :=
 (∃d,P.underlying t=some d/\Qv d=true/\∃l,x = .agg (List.toArray l)/\VR R xs l)∨(∃d,P.underlying t=some d/\Qv d=false/\∃v,xs=[v]/\V1 R v x)
section
variable{P:Program}{Y:Ro}{R:XR}
theorem Bqj{d:Nat}{t:TypeId}{ks:List CK}(h:deepT P d t=some ks):∃dsc,P.underlying t=some dsc:=by
 cases d with
 | zero=>cases h
 | succ d =>
  unfold deepT at h;cases hu:P.underlying t with
  | none=>rw[hu]at h;cases h
  | some dsc=>exact⟨dsc,rfl⟩
theorem Asp{d z n:Nat}{t:TypeId}{ks:List CK}{l:List Value}{xa xr:List CV}{Z:Own}{Q:Value->Own->Prop}(hd:deepT P d t=some ks)(hz:xSzT P t=some z)(hk:ks.length=z)(hx:xa.length=ks.length)(hv:VR R (xa++xr) (l.drop n))
  (h:∀v,Bqy P R t xa v->Q v Z):wpS P Y (part t l.toArray n) Z Q:=by
 obtain⟨dsc,hu⟩:=Bqj hd;show wpS P Y ((isAgg t).bind _) Z Q;rw[Ad];refine Hi ⟨dsc,hu,rfl⟩ ?_;have b:=hv.len;have htk:VR R xa ((l.drop n).take z):=by
  have:=hv.take z
  rwa[List.take_left' (by omega)]at this
 cases ha:Qv dsc with
 | true =>
  simp only[if_true];show wpS P Y ((sizeOf t).bind _) Z Q;rw[Ad];refine Dx (Ob hz) ?_;refine h _ (.inl ⟨dsc,hu,ha,(l.drop n).take z,?_,htk⟩);simp[Bmj]
 | false =>
  simp only[Agh,if_false];have a:ks.length=1:=by
   cases d with
   | zero=>cases hd
   | succ d =>
    unfold deepT at hd;rw[hu]at hd;split at hd
    ·cases hd;rfl
    ·cases hd;rfl
    ·cases hd;rfl
    ·rename_i fs hfs;cases hfs;cases ha
    ·cases hd
  obtain⟨v,rfl⟩:∃v,xa=[v]:=by
   match xa,hx with
   | [v],_=>exact⟨v,rfl⟩
   | [],hx=>simp at hx;omega
   | _::_::_,hx=>simp at hx;omega
  obtain⟨w,hw,hvw⟩:=hv.at (d:=0) (v:=v) rfl;have hw':l.toArray[n]?=some w:=by
   rw[Mi];have:(l.drop n)[0]?=l[n]?:=by rw[Agl,Abb]
   rw[<-this];exact hw
  simp only[hw'];exact h w (.inr ⟨dsc,hu,ha,v,rfl,hvw⟩)
theorem Azr:∀(d:Nat) (t:TypeId) (ks:List CK),deepT P d t=some ks->∀(e:Nat),d<=e->∀(xs ys:List CV) (r:Bool) (x y:Value),eqD ks xs ys=some r->Bqy P R t xs x->Bqy P R t ys y ->
  ∀(Z:Own) (Q:Bool->Own->Prop),Q r Z->wpS P Y (Op.equalIn e t x y) Z Q
 | 0,t,ks,h,_,_,_,_,_,_,_,_,_,_,_,_,_=>by cases h
 | d+1,t,ks,h,0,he,_,_,_,_,_,_,_,_,_,_,_=>by omega
 | d+1,t,ks,h,e+1,he,xs,ys,r,x,y,hr,hx,hy,Z,Q,hq=>by
  have one:∀{k:CK} {dsc},P.underlying t=some dsc->Qv dsc=false->ks=[k]->∃a b,V1 R a x/\V1 R b y/\eqC k a b=some r:=by
   intro k dsc hu ha hks;subst hks;obtain⟨a,x',b,y',p,q,rfl,rfl,c,D,E⟩:=Awr hr;obtain⟨rfl,rfl,rfl⟩:=Bdp D;rcases hx with⟨F,g,j,_⟩|⟨F,g,j,v,H,hv⟩
   ·rw[hu]at g;cases g;rw[ha]at j;cases j
   ·rcases hy with⟨G,i,u,_⟩|⟨G,i,u,w,J,hw⟩
    ·rw[hu]at i;cases i;rw[ha]at u;cases u
    ·cases H;cases J;exact⟨_,_,hv,hw,by rw[E,Bool.and_true];exact c⟩
  unfold deepT at h;cases hu:P.underlying t with
  | none=>rw[hu]at h;cases h
  | some dsc =>
   rw[hu]at h;show wpS P Y ((underlying t).bind _) Z Q;rw[Ad];refine Az hu ?_;cases dsc with
   | int k =>
    obtain⟨a,b,ha,hb,hc⟩:=one hu rfl (by simpa using h.symm);unfold eqC at hc;split at hc
    ·rename_i k0 k1 a0 k2 b0 hk0;cases hk0;split at hc
     ·rename_i B C;cases hc;have B:=Ml B;have C:=Ml C;subst B C;rw[Oc ha,Oc hb];simp only[if_true];rw[Aay]at hq;exact hq
     ·cases hc
    ·rename_i hk0;cases hk0
    ·rename_i hk0;cases hk0
    ·cases hc
   | string =>
    obtain⟨a,b,ha,hb,hc⟩:=one hu rfl (by simpa using h.symm);unfold eqC at hc;split at hc
    ·rename_i hk0;cases hk0
    ·cases hc;rw[Ze ha,Ze hb];rw[Xl,<-Bux]at hq;exact hq
    ·rename_i hk0;cases hk0
    ·cases hc
   | bool =>
    obtain⟨a,b,ha,hb,hc⟩:=one hu rfl (by simpa using h.symm);unfold eqC at hc;split at hc
    ·rename_i hk0;cases hk0
    ·rename_i hk0;cases hk0
    ·cases hc;rw[Aoi ha,Aoi hb];exact hq
    ·cases hc
   | struct fs =>
    simp only at h;split at h
    ·rename_i hst;rcases hx with⟨F,g,j,l,rfl,hl⟩|⟨F,g,j,_⟩
     ·rcases hy with⟨G,i,u,m,rfl,hm⟩|⟨G,i,u,_⟩
      ·show wpS P Y (Sem.bind program _) Z Q;rw[Ad];show wpS P Y (if P.stoodInHeld t then _ else _) Z Q;rw[if_neg (by simp[hst])];have key:∀(gs:List Field) (n:Nat) (ks:List CK) (xs ys:List CV) (r:Bool) (K:(Option Bool×Unit)->Own->Prop),deepF P (deepT P d) n gs=some ks->eqD ks xs ys=some r->VR R xs (l.drop n)->VR R ys (m.drop n) ->
         K (if r=true then none else some false,()) Z->wpS P Y (forIn gs ((none,()):Option Bool×Unit) fun (f:Field) (__s:Option Bool×Unit) =>
          if f.name ≠ "_" then do
           let __do_lift <-part f.type l.toArray f.offset
           let __do_lift_1 <-part f.type m.toArray f.offset
           let __do_lift <-Op.equalIn e f.type __do_lift __do_lift_1
           if (!__do_lift)=true then pure (ForInStep.done (some false,())) else pure (ForInStep.yield (none,()))
          else pure (ForInStep.yield (none,()))) Z K:=by
        intro gs;induction gs with
        | nil =>
         intro n ks xs ys r K c D E I hK;cases c;obtain⟨_,_,rfl⟩:=Bdp D;exact hK
        | cons f gs ih =>
         intro n ks xs ys r K c D E I hK;unfold deepF at c;split at c
         ·rename_i a z B C g3 g4;split at c
          ·rename_i g5;unfold xCatO at c;split at c
           ·rename_i a' ks2 H g6;cases H;cases c;obtain⟨xa,xr,ya,yr,p,q,rfl,rfl,M,N,O,T,rfl⟩:=Bdo D;have hlz:=lZ8 g5;have L:=lZ8 C;rw[Beo];show wpS P Y (Sem.bind _ _) Z K;rw[Ad,if_pos (by simpa using B)];show wpS P Y ((part f.type l.toArray f.offset).bind _) Z _;rw[Ad,L];refine Asp g3 g4 hlz M E fun v hv=>?_;show wpS P Y ((part f.type m.toArray n).bind _) Z _;rw[Ad];refine Asp g3 g4 hlz N I fun w hw=>?_;show wpS P Y ((Op.equalIn e f.type v w).bind _) Z _;rw[Ad];refine Azr d f.type a g3 e (by omega) xa ya p v w O hv hw Z _ ?_;cases p with
            | false=>exact hK
            | true =>
             refine ih (n+z) ks2 xr yr q K g6 T ?_ ?_ ?_
             ·have:=E.drop z;rw[List.drop_left' (by omega),Apg]at this;exact this
             ·have:=I.drop z;rw[List.drop_left' (by omega),Apg]at this;exact this
             ·simpa using hK
           ·cases c
          ·cases c
         ·cases c
       have hfs:fs=fs.toList.toArray:=by simp
       rw[hfs];simp only[Beh];show wpS P Y (Sem.bind _ _) Z Q;rw[Ad];refine key fs.toList 0 ks xs ys r _ h hr hl hm ?_;cases r with
       | true=>exact hq
       | false=>exact hq
      ·rw[hu]at i;cases i;cases u
     ·rw[hu]at g;cases g;cases j
    ·cases h
   | _=>cases h
end
end
section
section
variable{P:Program}{R:XR}{e:Tr CV}{e':Env}{m m':Mem}{x:CV}
theorem Azk{v k off}(h:V1 R (.p k off) v):∃b c,R k=some (b,c)/\v = .pointer (some ⟨b,off,none⟩):=by cases h with|p h1 _=>exact⟨_,_,h1,rfl⟩
theorem Aez{v l}(h:V1 R (.g l) v):∃l',VR R l l'/\v = .agg l'.toArray:=by cases h with|g h1 _=>exact⟨_,h1,rfl⟩
theorem Ccl{v l}(h:V1 R (.t l) v):∃l',VR R l l'/\v = .tuple l'.toArray:=by cases h with|t h1 _=>exact⟨_,h1,rfl⟩
theorem Bzy{v k}(h:V1 R (.m k) v):∃b c,R k=some (b,c)/\v = .map (some b):=by cases h with|m h1 _=>exact⟨_,_,h1,rfl⟩
theorem Bjg{v k}(h:V1 R (.c k) v):∃b c,R k=some (b,c)/\v = .chan (some b):=by cases h with|c h1 _=>exact⟨_,_,h1,rfl⟩
def Yf(kn:Bool)(c d:Nat):Nat:=match kn with
 | true=>c
 | false=>d-c
theorem Zf{v k off ln c kn}(h:V1 R (.sl k off ln kn c) v):∃b d,R k=some (b,d)/\v = .slice (some ⟨b,off,none⟩) ln (Yf kn c d):=by
 cases h with
 | slK h1 _=>exact⟨_,_,h1,rfl⟩
 | slU h1 _=>exact⟨_,_,h1,rfl⟩
def Ji(P:Program)(o:Op):Prop:=∀R e e' m x m',EnvR R e e'->Pe R->(opK P o).run e m = .v x m'->(m'=m/\To P o R e' x)∨Bge P o R e' m x m'
theorem Hx{x y m m'}(h:OR.v x m = .v y m'):x=y/\m=m':=by cases h;exact⟨rfl,rfl⟩
theorem Bhn(a:Operand):Ji P (.move a):=fun R e e' m x m' he hg h=>by
 obtain⟨rfl,rfl⟩:=Hx h;exact .inl ⟨rfl,_,Dz he hg a,fun Y Z dd ty pos af g=>⟨rfl,rfl⟩⟩
theorem Aww(a:Operand):Ji P (.assign a):=fun R e e' m x m' he hg h=>by
 obtain⟨rfl,rfl⟩:=Hx h;exact .inl ⟨rfl,_,Dz he hg a,fun Y Z dd ty pos af g=>⟨rfl,rfl⟩⟩
theorem Bho(c a b:Operand):Ji P (.pick c a b):=fun R e e' m x m' he hg h=>by
 have hc:=Dz he hg c;have h':(match (rdK c).run e with | .b true=>OR.v ((rdK a).run e) m | .b false=>.v ((rdK b).run e) m|_=>.bad) = .v x m':=h;split at h'
 ·rename_i hb;rw[hb]at hc;obtain⟨rfl,rfl⟩:=Hx h';refine .inl ⟨rfl,_,Dz he hg a,fun Y Z dd ty pos af g=>?_⟩;show wpS P Y (do pure (Next.value (if <-asBool (Af e' c) then Af e' a else Af e' b)):Sem Next) Z _;rw[Aoi hc];exact⟨rfl,rfl⟩
 ·rename_i hb;rw[hb]at hc;obtain⟨rfl,rfl⟩:=Hx h';refine .inl ⟨rfl,_,Dz he hg b,fun Y Z dd ty pos af g=>?_⟩;show wpS P Y (do pure (Next.value (if <-asBool (Af e' c) then Af e' a else Af e' b)):Sem Next) Z _;rw[Aoi hc];exact⟨rfl,rfl⟩
 ·cases h'
theorem Bmc(t:TypeId)(a:Operand):Ji P (.unOp .not t a):=fun R e e' m x m' he hg h=>by
 have ha:=Dz he hg a;have h':(match (rdK a).run e with | .b v=>OR.v (.b !v) m|_=>.bad) = .v x m':=h;split at h'
 ·rename_i v hb;rw[hb]at ha;obtain⟨rfl,rfl⟩:=Hx h';exact .inl ⟨rfl,Jl (Op.unary .not (Af e' a)) (fun _ _ _ _ _=>rfl) (.b _ .nil) fun Y Z=>by rw[Aoi ha];exact⟨rfl,rfl⟩⟩
 ·cases h'
theorem Bmb(t:TypeId)(a:Operand):Ji P (.unOp .neg t a):=fun R e e' m x m' he hg h=>by
 have ha:=Dz he hg a;have h':(match (rdK a).run e with | .i k v=>OR.v (.i k (k.wrap (0-v))) m|_=>.bad) = .v x m':=h;split at h'
 ·rename_i k v hb;rw[hb]at ha;obtain⟨rfl,rfl⟩:=Hx h';exact .inl ⟨rfl,Jl (Op.unary .neg (Af e' a)) (fun _ _ _ _ _=>rfl) (.i _ _ .nil) fun Y Z=>by rw[Oc ha];exact⟨rfl,rfl⟩⟩
 ·cases h'
theorem Apb(a:Operand):Ji P (.nilCheck a):=fun R e e' m x m' he hg h=>by
 have ha:=Dz he hg a;have h':(match (rdK a).run e with | .p k off=>OR.v (.p k off) m|_=>.bad) = .v x m':=h;split at h'
 ·rename_i k off hb;rw[hb]at ha;obtain⟨rfl,rfl⟩:=Hx h';obtain⟨b,c,d,f⟩:=Azk ha;refine .inl ⟨rfl,_,.p d .nil,fun Y Z dd ty pos af g=>?_⟩;unfold execOp;simp only[f];exact⟨rfl,rfl⟩
 ·cases h'
theorem Aem(he:EnvR R e e')(hg:Pe R)(xs:Array Operand):∃vs:List Value,VR R ((rdsK xs.toList).run e) vs/\xs.map (Af e')=vs.toArray:=by refine⟨_,Aaj he hg xs.toList,?_⟩;rw[<-List.map_toArray,Ads]
theorem Apa(f:FuncId)(xs ys:Array Operand):Ji P (.makeFunc (.func f) xs ys):=fun R e e' m x m' he hg h=>by
 obtain⟨rfl,rfl⟩:=Hx h;obtain⟨vs,a,b⟩:=Aem he hg xs;obtain⟨ws,c,d⟩:=Aem he hg ys;refine .inl ⟨rfl,_,.f f a c .nil,fun Y Z dd ty pos af g=>?_⟩;show wpS P Y ((Instr.makeFunc (.func f) (xs.map (Af e')) (ys.map (Af e'))).bind fun v=>Sem.pure (Next.value v)) Z _;rw[b,d];exact⟨rfl,rfl⟩
theorem Att(a:Operand)(i:Nat):Ji P (.extract a i):=fun R e e' m x m' he hg h=>by
 have ha:=Dz he hg a;have h':(match (rdK a).run e with | .t l=>xVOf m (xNth i l)|_=>.bad) = .v x m':=h;split at h'
 ·rename_i l hb;rw[hb]at ha;rw[Afb]at h';cases hi:l[i]? with
  | none=>rw[hi]at h';cases h'
  | some w =>
   rw[hi]at h';obtain⟨rfl,rfl⟩:=Hx h';obtain⟨l',b,c⟩:=Ccl ha;obtain⟨v,d,f⟩:=b.at hi;exact .inl ⟨rfl,Jl (Instr.extract (Af e' a) i) (fun _ _ _ _ _=>rfl) f fun Y Z=>by rw[c];simp only[Instr.extract,Mi,d];exact⟨rfl,rfl⟩⟩
 ·cases h'
theorem Brb{op t k a b w}(h:binN op k a b=some w):∃v,V1 R w v/\binOp op t (.int k a) (.int k b)=pure v:=by
 cases op<;>simp only[binN,Option.some.injEq]at h<;>first|(cases h;done)|skip
 case quo =>
  split at h
  ·cases h
  ·rename_i hb;have c:b≠0:=fun c=>by subst c;cases hb
   cases h;exact⟨_,.i _ _ .nil,by simp only[binOp,ne_eq,not_true,if_false];unfold Op.intDiv;rw[if_neg c]⟩
 case rem =>
  split at h
  ·cases h
  ·rename_i hb;have c:b≠0:=fun c=>by subst c;cases hb
   cases h;exact⟨_,.i _ _ .nil,by simp only[binOp,ne_eq,not_true,if_false];unfold Op.intDiv;rw[if_neg c]⟩
 all_goals subst h
 all_goals first
  | exact⟨_,.i _ _ .nil,by simp only[binOp,ne_eq,not_true,if_false];rfl⟩
  | exact⟨_,.b _ .nil,by rw[Aay];simp only[binOp,ne_eq,not_true,if_false];rfl⟩
  | exact⟨_,.b _ .nil,by rw[Ajc];simp only[binOp,ne_eq,not_true,if_false];rfl⟩
  | exact⟨_,.b _ .nil,by rw[Ajc,not_lt];simp only[binOp,ne_eq,not_true,if_false];rfl⟩
theorem Bgn(op:BinOp)(k:IntKind)(a b:Int)(w:CV)(h:(binKN op).run k a b=some w):binN op k a b=some w:=by cases op<;>first|exact h|cases h
theorem Afj{op t t' a b w v u z}(ha:Af e' a=u)(hb:Af e' b=z)(hg:eqGuard op t a b u z=pure ())(hv:V1 R w v)(h:binOp op t u z=pure v):To P (.binOp op t a b t') R e' w :=
 Jl (do eqGuard op t a b (Af e' a) (Af e' b);binOp op t (Af e' a) (Af e' b)) (fun _ _ _ _ _=>rfl) hv fun Y Z=>by rw[ha,hb,hg,h];exact⟨rfl,rfl⟩
theorem Aty{d:Option TypeDesc}(h:xIsSl d=true):∃el,d=some (.slice el):=by
 unfold xIsSl at h;split at h
 ·exact⟨_,rfl⟩
 ·cases h
theorem Atx{d:Option TypeDesc}(h:xIsFn d=true):∃x y z,d=some (.func x y z):=by
 unfold xIsFn at h;split at h
 ·exact⟨_,_,_,rfl⟩
 ·cases h
theorem eq_of{t t':TypeId}{a b:Operand}{r:Bool}{u z:Value}(ha:Af e' a=u)(hb:Af e' b=z)(hg:∀op,eqGuard op t a b u z=pure ())
    (h1:binOp .eql t u z=(Op.equal t u z).bind fun r=>Sem.pure (.bool r)) (h2:binOp .neq t u z=(Op.equal t u z).bind fun r=>Sem.pure (.bool (!r)))
    (hw:∀Y Z (Q:Bool->Own->Prop),Q r Z->wpS P Y (Op.equal t u z) Z Q):To P (.binOp .eql t a b t') R e' (.b r)/\To P (.binOp .neq t a b t') R e' (.b !r) :=
  ⟨Jl (do eqGuard .eql t a b (Af e' a) (Af e' b);binOp .eql t (Af e' a) (Af e' b)) (fun _ _ _ _ _=>rfl) (.b _ .nil) fun Y Z=>by
      rw[ha,hb,hg,h1];show wpS P Y ((Op.equal t u z).bind _) Z _;rw[Ad];exact hw Y Z _ ⟨rfl, rfl⟩,
   Jl (do eqGuard .neq t a b (Af e' a) (Af e' b);binOp .neq t (Af e' a) (Af e' b)) (fun _ _ _ _ _ => rfl) (.b _ .nil) fun Y Z => by
      rw[ha,hb,hg,h2];show wpS P Y ((Op.equal t u z).bind _) Z _;rw[Ad];exact hw Y Z _ ⟨rfl,rfl⟩⟩
theorem Bga{t t':TypeId}{a b:Operand}{u z:CV}{v w:Value}{r:Bool}(h:xEqW (xIsSl (P.underlying t)) (xIsFn (P.underlying t)) u z=some r)(hv:V1 R u v)(hw:V1 R z w)(ha:Af e' a=v)(hb:Af e' b=w) :
  To P (.binOp .eql t a b t') R e' (.b r)/\To P (.binOp .neq t a b t') R e' (.b !r):=by
 have sl:∀{el:TypeId} {x y:Option Addr} {f d g e:Nat} {r:Bool},P.underlying t=some (.slice el)->(x=none/\r=y.isNone∨y=none/\r=x.isNone)->Af e' a = .slice x f d->Af e' b = .slice y g e ->
   To P (.binOp .eql t a b t') R e' (.b r)/\To P (.binOp .neq t a b t') R e' (.b !r):=by
  intro el x y f d g e r hu hx ha hb;refine eq_of ha hb (fun op=>by cases op<;>rfl) rfl rfl fun Y Z Q hq=>?_
  show wpS P Y ((underlying t).bind _) Z Q;rw[Ad];refine Az hu ?_;rcases hx with⟨rfl,rfl⟩|⟨rfl,rfl⟩
  ·exact hq
  ·cases x with
   | none=>exact hq
   | some x=>exact hq
 unfold xEqW at h;split at h
 ·cases h;rw[Ze hv]at ha;rw[Ze hw]at hb;refine⟨Afj ha hb Si (.b _ .nil) ?_,Afj ha hb Si (.b _ .nil) ?_⟩
  ·rw[Xl];simp only[binOp,Op.stringOp,ByteArray.toList_eq]
  ·rw[Xl];simp only[binOp,Op.stringOp,ByteArray.toList_eq]
 ·split at h
  ·rename_i hs;cases h;obtain⟨el,hu⟩:=Aty hs;cases hv;cases hw;exact sl hu (.inl ⟨rfl,rfl⟩) ha hb
  ·cases h
 ·split at h
  ·rename_i hs;cases h;obtain⟨el,hu⟩:=Aty hs;obtain⟨i,j,_,c⟩:=Zf hv;cases hw;subst c;exact sl hu (.inr ⟨rfl,rfl⟩) ha hb
  ·cases h
 ·split at h
  ·rename_i hs;cases h;obtain⟨el,hu⟩:=Aty hs;obtain⟨i,j,_,c⟩:=Zf hw;cases hv;subst c;exact sl hu (.inl ⟨rfl,rfl⟩) ha hb
  ·cases h
 ·split at h
  ·rename_i hs;cases h;obtain⟨_,_,_,hu⟩:=Atx hs;cases hv;cases hw;refine eq_of ha hb (fun op=>by cases op<;>rfl) rfl rfl fun Y Z Q hq=>?_
   show wpS P Y ((underlying t).bind _) Z Q;rw[Ad];exact Az hu hq
  ·cases h
 ·split at h
  ·rename_i hs;cases h;obtain⟨_,_,_,hu⟩:=Atx hs;cases hv;cases hw;refine eq_of ha hb (fun op=>by cases op<;>rfl) rfl rfl fun Y Z Q hq=>?_
   show wpS P Y ((underlying t).bind _) Z Q;rw[Ad];exact Az hu hq
  ·cases h
 ·split at h
  ·rename_i hs;cases h;obtain⟨_,_,_,hu⟩:=Atx hs;cases hv;cases hw;refine eq_of ha hb (fun op=>by cases op<;>rfl) rfl rfl fun Y Z Q hq=>?_
   show wpS P Y ((underlying t).bind _) Z Q;rw[Ad];exact Az hu hq
  ·cases h
 ·cases h
theorem Adm{t ks}(h:flatT P t=some ks):∃fs:Array Field,P.underlying t=some (.struct fs)/\P.stoodInHeld t=false/\P.eqGuardType P.depth t=false/\flatK P 0 fs.toList=some ks:=by
 unfold flatT at h;split at h
 ·rename_i fs h1 h2 h3;exact⟨fs,h3,h1,h2,h⟩
 ·cases h
theorem Baw{n f fs ks}(h:flatK P n (f::fs)=some ks):∃k l,ks=k::l/\f.name ≠ "_"/\f.offset=n/\P.underlying f.type=some (.int k)/\flatK P (n+1) fs=some l:=by
 unfold flatK at h;split at h
 ·rename_i k l h1 h2 h3 h4;cases h;exact⟨k,l,rfl,by simpa using h1,lZ8 h2,h3,h4⟩
 ·cases h
theorem Akv{k ks x y r}(h:eqF (k::ks) x y=some r):∃a x' b y' r',x = .i k a::x'/\y = .i k b::y'/\eqF ks x' y'=some r'/\r=(a==b&&r'):=by
 replace h:eqF1 k (eqF ks) x y=some r:=h;unfold eqF1 at h;split at h
 ·split at h
  ·rename_i k1 a x' k2 b y' _ _ h1 h2;cases hr:eqF ks x' y' with
   | none=>rw[hr]at h;cases h
   | some r' =>
    rw[hr]at h;simp only[Option.some.injEq]at h;rw[<-Ml h1,<-Ml h2];exact⟨a,x',b,y',r',rfl,rfl,hr,by rw[<-h,Aay];cases (a==b)<;>rfl⟩
  ·cases h
 ·cases h
theorem Akw:∀(fs:List Field) (n:Nat) (ks:List IntKind) (x y:List CV) (xs ys:List Value) (r:Bool),flatK P n fs=some ks->eqF ks x y=some r->VR R x (xs.drop n)->VR R y (ys.drop n)->∃ps qs,EqF P xs.toArray ys.toArray fs ps qs/\r=decide (ps=qs)
 | [],n,ks,x,y,xs,ys,r,h1,h2,h3,h4=>by
  cases h1;replace h2:eqF0 x y=some r:=h2;unfold eqF0 at h2;split at h2
  ·cases h2;exact⟨[],[],trivial,rfl⟩
  ·cases h2
 | f::fs,n,ks,x,y,xs,ys,r,h1,h2,h3,h4=>by
  obtain⟨k,l,rfl,hn,ho,hk,v⟩:=Baw h1;obtain⟨a,x',b,y',r',rfl,rfl,B,C⟩:=Akv h2;have hd:∀{z:List CV} {zs:List Value} {c:Int},VR R (.i k c::z) (zs.drop n)->zs[n]?=some (.int k c)/\VR R z (zs.drop (n+1)):=fun {z zs c} h=>by
   cases hz:zs.drop n with
   | nil=>rw[hz]at h;cases h
   | cons w ws =>
    rw[hz]at h;obtain⟨d,e⟩:=VR.cons_iff.1 h;have g:=Oc d;subst g;have j:zs[n]?=some (.int k c):=by
     have:=congrArg List.head? hz;simpa using this
    have m:zs.drop (n+1)=ws:=by
     have:=congrArg List.tail hz;simpa using this
    exact⟨j,by rw[m];exact e⟩
  obtain⟨d,e⟩:=hd h3;obtain⟨p,q⟩:=hd h4;obtain⟨ps,qs,t,u⟩:=Akw fs (n+1) l x' y' xs ys r' v B e q;refine⟨a::ps,b::qs,⟨⟨hn,k,hk,by rw[ho];simpa using d,by rw[ho];simpa using p⟩,t⟩,?_⟩;rw[C,u];by_cases hab:a=b
  ·subst hab;simp
  ·have:(a==b)=false:=by simpa using hab
   rw[this];simp[hab]
theorem Cdx{t t':TypeId}{a b:Operand}{ks:List CK}{op:BinOp}{p q:List CV}{v:CV}{u z:Value}(hd:deepG P t=some ks)(hr:(binKG op).run ks p q=some v)(hu:V1 R (.g p) u)(hz:V1 R (.g q) z)(ha:Af e' a=u)(hb:Af e' b=z) :
  To P (.binOp op t a b t') R e' v:=by
 obtain⟨p',c,d⟩:=Aez hu;obtain⟨q',e,f⟩:=Aez hz;rw[d]at ha;rw[f]at hb;unfold deepG at hd;split at hd
 ·rename_i fs h1 h2;have ag:∀{xs:List CV} {l:List Value},VR R xs l->Bqy P R t xs (.agg l.toArray):=fun h=>.inl ⟨_,h2,rfl,_,rfl,h⟩;have key:∀{r:Bool} {Z:Own} {Y:Ro} {Q:Bool->Own->Prop},eqD ks p q=some r->Q r Z->wpS P Y (Op.equal t (.agg p'.toArray) (.agg q'.toArray)) Z Q:=fun {r Z Y Q} hr hq =>
   Azr 100 t ks hd 10000 (by decide) p q r _ _ hr (ag c) (ag e) Z Q hq
  cases op<;>first|(cases hr;done)|skip
  ·have hr':(match eqD ks p q with|some r=>some (CV.b r)|none=>none)=some v:=hr;cases h3:eqD ks p q with
   | none=>rw[h3]at hr';cases hr'
   | some r =>
    rw[h3]at hr';cases hr';exact Jl (do eqGuard .eql t a b (Af e' a) (Af e' b);binOp .eql t (Af e' a) (Af e' b)) (fun _ _ _ _ _=>rfl) (.b _ .nil) fun Y Z=>by
     rw[ha,hb];show wpS P Y (Sem.bind (eqGuard .eql t a b (.agg p'.toArray) (.agg q'.toArray)) _) Z _;rw[Ad];show wpS P Y (if (!P.eqGuardType P.depth t)=true then _ else _) Z _;rw[if_pos (by simp[h1])];show wpS P Y ((Op.equal t (.agg p'.toArray) (.agg q'.toArray)).bind _) Z _;rw[Ad];exact key h3 ⟨rfl,rfl⟩
  ·have hr':(match eqD ks p q with|some r=>some (CV.b !r)|none=>none)=some v:=hr;cases h3:eqD ks p q with
   | none=>rw[h3]at hr';cases hr'
   | some r =>
    rw[h3]at hr';cases hr';exact Jl (do eqGuard .neq t a b (Af e' a) (Af e' b);binOp .neq t (Af e' a) (Af e' b)) (fun _ _ _ _ _=>rfl) (.b _ .nil) fun Y Z=>by
     rw[ha,hb];show wpS P Y (Sem.bind (eqGuard .neq t a b (.agg p'.toArray) (.agg q'.toArray)) _) Z _;rw[Ad];show wpS P Y (if (!P.eqGuardType P.depth t)=true then _ else _) Z _;rw[if_pos (by simp[h1])];show wpS P Y ((Op.equal t (.agg p'.toArray) (.agg q'.toArray)).bind _) Z _;rw[Ad];exact key h3 ⟨rfl,rfl⟩
 ·cases hd
theorem Cdy{t t':TypeId}{a b:Operand}{op:BinOp}{u z:CV}{v:CV}{v1 v2:Value}(hr:(binKW (xIsSl (P.underlying t)) (xIsFn (P.underlying t)) op).run u z=some v)(hu:V1 R u v1)(hz:V1 R z v2)(ha:Af e' a=v1)(hb:Af e' b=v2) :
  To P (.binOp op t a b t') R e' v:=by
 cases op<;>first|(cases hr;done)|skip
 ·have hr':catW u z=some v:=hr;unfold catW at hr';split at hr'
  ·rename_i a0 b0;split at hr'
   ·rename_i hl;cases hr';rw[Ze hu]at ha;rw[Ze hz]at hb;have hl:=lZ7 hl;rw[Iv,Iv]at hl;replace hl:a0.length+b0.length<=1000000:=hl;refine Afj ha hb Si (v:=.string ⟨(xApp a0 b0).toArray⟩) (.s _ .nil) ?_;rw[Mf];simp only[binOp,Op.stringOp];rw[if_neg (by
     have c:(⟨a0.toArray⟩:ByteArray).size=a0.length:=rfl;have d:(⟨b0.toArray⟩:ByteArray).size=b0.length:=rfl;have e:IntKind.i64.max=9223372036854775807:=rfl;rw[c,d,e];omega)]
    congr 2
   ·cases hr'
  ·cases hr'
 ·have hr':(match xEqW (xIsSl (P.underlying t)) (xIsFn (P.underlying t)) u z with|some r=>some (CV.b r)|none=>none)=some v:=hr;cases h3:xEqW (xIsSl (P.underlying t)) (xIsFn (P.underlying t)) u z with
  | none=>rw[h3]at hr';cases hr'
  | some r=>rw[h3]at hr';cases hr';exact(Bga h3 hu hz ha hb).1
 ·have hr':(match xEqW (xIsSl (P.underlying t)) (xIsFn (P.underlying t)) u z with|some r=>some (CV.b !r)|none=>none)=some v:=hr;cases h3:xEqW (xIsSl (P.underlying t)) (xIsFn (P.underlying t)) u z with
  | none=>rw[h3]at hr';cases hr'
  | some r=>rw[h3]at hr';cases hr';exact(Bga h3 hu hz ha hb).2
theorem Brc{op : BinOp}{t t' : TypeId}{a b : Operand}(he : EnvR R e e')(hg : Pe R)(h : (match (rdK a).run e, (rdK b).run e with
        | .i k a,.i k' b=>match xKind k k' with
          | true=>match (binKN op).run k a b with|some v=>OR.v v m|none=>.bad
          | false=>.bad
        | .g a,.g b=>match deepG P t with
          | some ks=>match (binKG op).run ks a b with|some v=>.v v m|none=>.bad
          | none=>.bad
        | u,z=>match (binKW (xIsSl (P.underlying t)) (xIsFn (P.underlying t)) op).run u z with|some v=>.v v m|none=>.bad) = .v x m'):m'=m/\To P (.binOp op t a b t') R e' x:=by
  have ha:=Dz he hg a;have hb:=Dz he hg b;revert ha hb h;generalize (rdK a).run e=u,(rdK b).run e=z;intro h ha hb;split at h
  · rename_i k u k' z
    split at h
    · rename_i hk
      have hk:=Ml hk;subst hk;cases hw:(binKN op).run k u z with
      | none=>rw[hw]at h;cases h
      | some w =>
        rw[hw]at h;obtain⟨rfl,rfl⟩:=Hx h;obtain⟨v,c,d⟩:=Brb (R:=R) (t:=t) (Bgn _ _ _ _ _ hw);exact⟨rfl,Afj (Oc ha) (Oc hb) Dh c d⟩
    · cases h
  · rename_i p q
    cases hd:deepG P t with
    | none=>rw[hd]at h;cases h
    | some ks =>
      rw[hd]at h;cases hw:(binKG op).run ks p q with
      | none=>simp only[hw]at h;cases h
      | some w =>
        simp only[hw]at h;obtain⟨rfl,rfl⟩:=Hx h;exact⟨rfl,Cdx hd hw ha hb rfl rfl⟩
  · cases hw:(binKW (xIsSl (P.underlying t)) (xIsFn (P.underlying t)) op).run u z with
    | none=>rw[hw]at h;cases h
    | some w =>
      rw[hw]at h;obtain⟨rfl,rfl⟩:=Hx h;exact⟨rfl,Cdy hw ha hb rfl rfl⟩
theorem Bly(op:BinOp)(t:TypeId)(a b:Operand)(t':TypeId):Ji P (.binOp op t a b t'):=fun R e e' m x m' he hg h=>by
 have ha:=Dz he hg a;have hb:=Dz he hg b;unfold opK at h;simp only at h;split at h
 ·split at h
  ·have h':(match (rdK a).run e,(rdK b).run e with | .i k u,.i _ (.ofNat n)=>OR.v (.i k (k.wrap (u*2^(min n k.bits)))) m|_,_=>.bad) = .v x m':=h;split at h'
   ·rename_i k u k' n hu hz;obtain⟨rfl,rfl⟩:=Hx h';rw[hu]at ha;rw[hz]at hb;refine .inl ⟨rfl,Afj (Oc ha) (Oc hb) Dh (.i _ _ .nil) ?_⟩;show Op.shift .shl k u k' (Int.ofNat n)=_;unfold Op.shift;rw[if_neg (show ¬(Int.ofNat n<0) from Int.not_lt.2 (Aub n))];rfl
   ·cases h'
  ·have h':(match (rdK a).run e,(rdK b).run e with | .i k u,.i _ (.ofNat n)=>OR.v (.i k (u.fdiv (2^(min n k.bits)))) m|_,_=>.bad) = .v x m':=h;split at h'
   ·rename_i k u k' n hu hz;obtain⟨rfl,rfl⟩:=Hx h';rw[hu]at ha;rw[hz]at hb;refine .inl ⟨rfl,Afj (Oc ha) (Oc hb) Dh (.i _ _ .nil) ?_⟩;show Op.shift .shr k u k' (Int.ofNat n)=_;unfold Op.shift;rw[if_neg (show ¬(Int.ofNat n<0) from Int.not_lt.2 (Aub n))];rfl
   ·cases h'
  ·have h':(match (rdK a).run e,(rdK b).run e with
    | .i k a,.i k' b=>match xKind k k' with
     | true=>match (binKN op).run k a b with|some v=>OR.v v m|none=>.bad
     | false=>.bad
    | .g a,.g b=>match deepG P t with
     | some ks=>match (binKG op).run ks a b with|some v=>.v v m|none=>.bad
     | none=>.bad
    | u,z=>match (binKW (xIsSl (P.underlying t)) (xIsFn (P.underlying t)) op).run u z with|some v=>.v v m|none=>.bad) = .v x m':=h
   exact .inl (Brc he hg h')
 ·rename_i ks hf;obtain⟨fs,C,D,E,F⟩:=Adm hf;split at h
  ·have h':(match (rdK a).run e,(rdK b).run e with | .g p,.g q=>(match eqF ks p q with|some r=>OR.v (.b r) m|none=>.bad)|_,_=>.bad) = .v x m':=h;split at h'
   ·rename_i p q hu hz;rw[hu]at ha;rw[hz]at hb;cases hr:eqF ks p q with
    | none=>rw[hr]at h';cases h'
    | some r =>
     rw[hr]at h';obtain⟨rfl,rfl⟩:=Hx h';obtain⟨p',c,d⟩:=Aez ha;obtain⟨q',f,j⟩:=Aez hb;obtain⟨ps,qs,w,B⟩:=Akw fs.toList 0 ks p q p' q' r F hr c f;refine .inl ⟨rfl,_,.b _ .nil,fun Y Z dd ty pos af g=>?_⟩;have:=Acg (P:=P) (Y:=Y) (e:=e') (ty:=ty) (t':=t') (x:=a) (y:=b) (fs:=fs.toList) (by rw[Ads];exact C) D E d j w;rw[B];exact this Y Z dd pos af g fun _ _ h=>h
   ·cases h'
  ·have h':(match (rdK a).run e,(rdK b).run e with | .g p,.g q=>(match eqF ks p q with|some r=>OR.v (.b !r) m|none=>.bad)|_,_=>.bad) = .v x m':=h;split at h'
   ·rename_i p q hu hz;rw[hu]at ha;rw[hz]at hb;cases hr:eqF ks p q with
    | none=>rw[hr]at h';cases h'
    | some r =>
     rw[hr]at h';obtain⟨rfl,rfl⟩:=Hx h';obtain⟨p',c,d⟩:=Aez ha;obtain⟨q',f,j⟩:=Aez hb;obtain⟨ps,qs,w,B⟩:=Akw fs.toList 0 ks p q p' q' r F hr c f;refine .inl ⟨rfl,_,.b _ .nil,fun Y Z dd ty pos af g=>?_⟩;have:=Aci (P:=P) (Y:=Y) (e:=e') (ty:=ty) (t':=t') (x:=a) (y:=b) (fs:=fs.toList) (by rw[Ads];exact C) D E d j w;rw[B];exact this Y Z dd pos af g fun _ _ h=>h
   ·cases h'
  ·cases h
end
end
section
section
variable{P:Program}{R:XR}{e:Tr CV}{e':Env}{m m':Mem}{x:CV}
theorem Wh{o}{Y:Ro}{v}(hv:V1 R x v)(h:∀Y ty,Yld P Y e' o ty v):To P o R e' x:=⟨v,hv,fun Y Z dd ty pos af g=>h Y ty Y Z dd pos af g fun _ _ h=>h⟩
theorem Blu{fs i o n}(h:fldAt P fs i=some (o,n)):∃f,fs[i]?=some f/\f.offset=o/\∃t,P.info? f.type=some t/\t.size=n:=by
 unfold fldAt at h;cases hf:fs[i]? with
 | none=>rw[hf]at h;cases h
 | some f =>
  rw[hf]at h;simp only at h;cases hn:xSzT P f.type with
  | none=>rw[hn]at h;cases h
  | some n'=>rw[hn]at h;cases h;exact⟨f,rfl,rfl,Ob hn⟩
theorem Alg(t:TypeId)(a:Operand)(i:Nat):Ji P (.fieldAddr t a i):=fun R e e' m x m' he hg h=>by
 have ha:=Dz he hg a;unfold opK at h;simp only at h;split at h
 ·rename_i fs hT;split at h
  ·rename_i o n hf;split at h
   ·rename_i hn;have h':(match (rdK a).run e with | .p k off=>OR.v (.p k (Nat.add off o)) m|_=>.bad) = .v x m':=h;split at h'
    ·rename_i k off hu;obtain⟨rfl,rfl⟩:=Hx h';rw[hu]at ha;obtain⟨b,c,d,g⟩:=Azk ha;obtain⟨f,j,q,u⟩:=Blu hf;refine .inl ⟨rfl,Wh (Y:=fun _=>none) (.p d .nil) fun Y ty=>?_⟩;exact Ajt hT (by rw[<-Bht];exact j) q u (by have:=lZ7 hn;omega) g rfl
    ·cases h'
   ·cases h
  ·cases h
 ·cases h
theorem Ali(t:TypeId)(a b:Operand):Ji P (.indexAddr t a b):=fun R e e' m x m' he hg h=>by
 have ha:=Dz he hg a;have hb:=Dz he hg b;unfold opK at h;simp only at h;split at h
 ·rename_i el hT;split at h
  ·rename_i n hn;have h':(match (rdK a).run e,(rdK b).run e with
    | .sl k off ln _ _,.i _ (.ofNat i)=>match Nat.ble (Nat.succ i) ln with|true=>OR.v (.p k (Nat.add off (Nat.mul i n))) m|false=>.bad
    | _,_=>.bad) = .v x m':=h
   split at h'
   ·rename_i k off ln kn c ik i hu hz;split at h'
    ·rename_i hlt;obtain⟨rfl,rfl⟩:=Hx h';rw[hu]at ha;rw[hz]at hb;obtain⟨bl,d,f,g⟩:=Zf ha;refine .inl ⟨rfl,Wh (Y:=fun _=>none) (.p f .nil) fun Y ty=>?_⟩;exact Ajv i hT (Ob hn) g (Oc hb) rfl (lZ7 hlt) rfl
    ·cases h'
   ·cases h'
  ·cases h
 ·rename_i ln el hT;split at h
  ·rename_i n hn;have h':(match (rdK a).run e,(rdK b).run e with
    | .p k off,.i _ (.ofNat i)=>match Nat.ble (Nat.succ i) ln with|true=>OR.v (.p k (Nat.add off (Nat.mul i n))) m|false=>.bad
    | _,_=>.bad) = .v x m':=h
   split at h'
   ·rename_i k off ik i hu hz;split at h'
    ·rename_i hlt;obtain⟨rfl,rfl⟩:=Hx h';rw[hu]at ha;rw[hz]at hb;obtain⟨bl,d,f,g⟩:=Azk ha;refine .inl ⟨rfl,Wh (Y:=fun _=>none) (.p f .nil) fun Y ty=>?_⟩;exact Aju i hT (Ob hn) g (Oc hb) rfl (lZ7 hlt) rfl
    ·cases h'
   ·cases h'
  ·cases h
 ·cases h
theorem Bkh(l:List UInt8)(i:Nat):(⟨l.toArray⟩:ByteArray)[i]?=l[i]?:=by
 by_cases h:i<l.length
 ·rw[Pw h,getElem?_pos (⟨l.toArray⟩:ByteArray) i (by show i<l.toArray.size;simpa using h)];rfl
 ·rw[Tp (by omega),getElem?_neg (⟨l.toArray⟩:ByteArray) i (by show ¬i<l.toArray.size;simpa using h)]
theorem Aso{Y:Ro}{Z:Own}{l:List Value}{n off:Nat}{Q:Value->Own->Prop}{t:TypeId}(ha:∃d,P.underlying t=some d/\Qv d=true)(hn:∃i,P.info? t=some i/\i.size=n)(h:Q (.agg ((l.drop off).take n).toArray) Z):wpS P Y (part t l.toArray off) Z Q:=by
 show wpS P Y ((isAgg t).bind _) Z Q;rw[Ad];refine Hi ha ?_;simp only[if_true];show wpS P Y ((sizeOf t).bind _) Z Q;rw[Ad];refine Dx hn ?_;have a:l.toArray.extract off (off+n)=((l.drop off).take n).toArray:=by simp[Bmj]
 rw[a];exact h
theorem Bbg(t:TypeId)(a b:Operand):Ji P (.index t a b):=fun R e e' m x m' he hg h=>by
 have ha:=Dz he hg a;have hb:=Dz he hg b;unfold opK at h;simp only at h;split at h
 ·rename_i ln el hT;split at h
  ·rename_i n hn hagg;have h':(match (rdK a).run e,(rdK b).run e with
    | .g l,.i _ (.ofNat i)=>match Nat.ble (Nat.succ i) ln,xNth (Nat.mul i n) l with|true,some v=>OR.v v m|_,_=>.bad
    | _,_=>.bad) = .v x m':=h
   split at h'
   ·rename_i l ik i hu hz;split at h'
    ·rename_i w hlt hw;obtain⟨rfl,rfl⟩:=Hx h';rw[hu]at ha;rw[hz]at hb;obtain⟨l',d,f⟩:=Aez ha;rw[Afb]at hw;obtain⟨v,j,k⟩:=d.at hw;refine .inl ⟨rfl,Jl (Instr.index t (Af e' a) (Af e' b)) (fun _ _ _ _ _=>rfl) k fun Y Z=>?_⟩;rw[f,Oc hb];show wpS P Y ((underlying t).bind _) Z _;rw[Ad];refine Az hT ?_;simp only[];have hlt:=lZ7 hlt;rw[if_pos ⟨Aub i,by show (i:Int)<(ln:Int);omega⟩];show wpS P Y ((sizeOf el).bind _) Z _;rw[Ad];refine Dx (Ob hn) ?_;refine Qr (Zm hagg) ?_ ⟨rfl,rfl⟩;rw[Mi];exact j
    ·cases h'
   ·cases h'
  ·rename_i n hn hagg;have h':(match (rdK a).run e,(rdK b).run e with
    | .g l,.i _ (.ofNat i)=>match Nat.ble (Nat.succ i) ln,xTkn n (xDrp (Nat.mul i n) l) with|true,some r=>OR.v (.g r) m|_,_=>.bad
    | _,_=>.bad) = .v x m':=h
   split at h'
   ·rename_i l ik i hu hz;split at h'
    ·rename_i r hlt hw;obtain⟨rfl,rfl⟩:=Hx h';rw[hu]at ha;rw[hz]at hb;obtain⟨l',d,f⟩:=Aez ha;rw[Aax]at hw;refine .inl ⟨rfl,Jl (v:=.agg ((l'.drop (i*n)).take n).toArray) (Instr.index t (Af e' a) (Af e' b)) (fun _ _ _ _ _=>rfl) (.g ?_ .nil) fun Y Z=>?_⟩
     ·obtain⟨_,rfl⟩:=Aaz _ _ _ hw;exact(d.drop _).take _
     rw[f,Oc hb];show wpS P Y ((underlying t).bind _) Z _;rw[Ad];refine Az hT ?_;simp only[];have hlt:=lZ7 hlt;rw[if_pos ⟨Aub i,by show (i:Int)<(ln:Int);omega⟩];show wpS P Y ((sizeOf el).bind _) Z _;rw[Ad];refine Dx (Ob hn) ?_;exact Aso (Zm hagg) (Ob hn) ⟨rfl,rfl⟩
    ·cases h'
   ·cases h'
  ·cases h
 ·rename_i hT;have h':(match (rdK a).run e,(rdK b).run e with
    | .s l,.i _ (.ofNat i)=>match xNth i l with|some b=>OR.v (.i .u8 (.ofNat b.toNat)) m|none=>.bad
    | _,_=>.bad) = .v x m':=h
  split at h'
  ·rename_i l ik i hu hz;rw[Afb]at h';cases hc:l[i]? with
   | none=>rw[hc]at h';cases h'
   | some c =>
    rw[hc]at h';obtain⟨rfl,rfl⟩:=Hx h';rw[hu]at ha;rw[hz]at hb;refine .inl ⟨rfl,Wh (Y:=fun _=>none) (.i _ _ .nil) fun Y ty=>?_⟩;exact Ace i c hT (Ze ha) (Oc hb) rfl (by rw[Bkh];exact hc)
  ·cases h'
 ·cases h
theorem Azl{v}(h:V1 R .sn v):v = .slice none 0 0:=by cases h;rfl
theorem Bbd(s d:TypeId)(a:Operand):Ji P (.convert s d a):=fun R e e' m x m' he hg h=>by
 have ha:=Dz he hg a;unfold opK at h;simp only at h;split at h
 ·rename_i k0 k hS hD;have h':(match (rdK a).run e with | .i _ v=>OR.v (.i k (k.wrap v)) m|_=>.bad) = .v x m':=h;split at h'
  ·rename_i k1 v hu;obtain⟨rfl,rfl⟩:=Hx h';rw[hu]at ha;exact .inl ⟨rfl,Wh (Y:=fun _=>none) (.i _ _ .nil) fun Y ty=>Acf hS hD (Oc ha) rfl⟩
  ·cases h'
 ·rename_i el hS hD;split at h
  ·rename_i hE;have h':(match (rdK a).run e with
    | .s v=>OR.v (.sl m.nx 0 (xLen v) false 0) (m.add (.grow 1 (xBytesC v)))
    | _=>.bad) = .v x m':=h
   split at h'
   ·rename_i v hu;obtain⟨rfl,rfl⟩:=Hx h';rw[hu]at ha;refine .inr ⟨.add _ _,fun _=>Auc _,fun Y Z Z9 dd ty pos af g hm=>?_⟩;obtain⟨L,G,hm⟩:=hm;show wpS P Y ((convert s d (Af e' a)).bind fun v=>Sem.pure (Next.value v)) Z _;rw[Ad,Ze ha];show wpS P Y ((underlying s).bind _) Z _;rw[Ad];refine Az hS ?_;show wpS P Y ((underlying d).bind _) Z _;rw[Ad];refine Az hD ?_;show wpS P Y ((underlying el).bind _) Z _;rw[Ad];refine Az hE ?_;show wpS P Y ((choose (.appendCap v.toArray.size 0 el)).bind _) Z _;rw[Ad];show (if (Question.appendCap v.toArray.size 0 el).forced then _ else ∀tt,_);rw[if_neg (by simp[Question.forced])];intro tt;have j:v.length<=(Question.appendCap v.toArray.size 0 el).cut tt:=by simp[Question.cut]
    generalize (Question.appendCap v.toArray.size 0 el).cut tt=nc at j;show wpS P Y ((newRow el ((v.toArray.map fun b=>Value.int .u8 b.toNat)++Array.replicate (nc-v.toArray.size) (.int .u8 0))).bind _) Z _;rw[Ad];refine Ik fun r=>?_;have f:((v.toArray.map fun (b:UInt8)=>Value.int .u8 (b.toNat:Int))++Array.replicate (nc-v.toArray.size) (Value.int .u8 0))=((v.map fun (c:UInt8)=>Value.int .u8 (c.toNat:Int))++List.replicate (nc-v.length) (Value.int .u8 0)).toArray:=by
     apply Array.ext';simp
    rw[f];show wpS P Y ((markStringish ⟨r,0,none⟩).bind _) _ _;rw[Ad];show wpS P Y ((shape r).bind _) _ _;rw[Ad];refine⟨_,.inr mC,?_⟩;refine .inr ⟨by simp,0,_,_,0,0,rfl,?_⟩;have hb:∀(R:XR) (l:List UInt8),VR R (xBytesC l) (l.map fun (c:UInt8)=>Value.int .u8 (c.toNat:Int)):=fun R l=>by
     induction l with
     | nil=>exact .nil
     | cons c l ih=>exact .i _ _ ih
    have n:xLen v=v.toArray.size:=by rw[Iv];simp
    refine⟨R.add m.nx (r,nc),_,hm.fresh _,.inl rfl,?_,?_⟩
    ·rw[n];exact .slU XR.add_same .nil
    ·refine hm.add (.grow (hb _ v) (by simp;omega) Nat.one_pos fun i hi=>?_);simp only[Xx,Axw]at hi;simp;omega
   ·cases h'
  ·cases h
 ·cases h
theorem Wr{b az ts dd ty pos af g}(f:Operand->Value):∃cs,execOp f ⟨dd,.call ⟨.builtin b,az,ts⟩,ty,pos,af,g⟩=builtin b ts ty cs (az.map f):=⟨_,rfl⟩
theorem Na{b c}{vs:List Value}{v}(hc:c.callee = .builtin b)(hv:c.args.map (Af e')=vs.toArray)(hx:V1 R x v)(h:∀ty cs Y Z,wpS P Y (builtin b c.argTypes ty cs vs.toArray) Z (fun nx Z'=>nx = .value v/\Z'=Z)):To P (.call c) R e' x:=⟨v,hx,fun Y Z dd ty pos af g=>by
 obtain⟨cl,az,ts⟩:=c;simp only at hc;subst hc;obtain⟨cs,a⟩:=Wr (b:=b) (az:=az) (ts:=ts) (dd:=dd) (ty:=ty) (pos:=pos) (af:=af) (g:=g) (Af e');simp only at hv h;rw[a,hv];exact h ty cs Y Z⟩
end
end
section
section
variable{P:Program}{R:XR}{e:Tr CV}{e':Env}{m m':Mem}{x:CV}
theorem Aop(o:Option Nat)(d:Nat):xOr o d=o.getD d:=by cases o<;>rfl
def BV(v:Option Value)(n:Option Nat):Prop:=(v=none/\n=none)∨∃k q,v=some (.int k (q:Nat))/\n=some q
theorem Bad(he:EnvR R e e')(hg:Pe R)(o:Option Operand){r:Option Nat}(h:(xBnd o).run e=some r):BV (o.map (Af e')) r:=by
 cases o with
 | none=>cases h;exact .inl ⟨rfl,rfl⟩
 | some a =>
  have ha:=Dz he hg a;have h':(match (rdK a).run e with | .i _ (.ofNat n)=>some (some n)|_=>none)=some r:=h;split at h'
  ·rename_i k n hu;cases h';rw[hu]at ha;exact .inr ⟨k,n,by rw[Amh,Oc ha];rfl,rfl⟩
  ·cases h'
theorem Qx{k:IntKind}{q y:Nat}{code:BoundsCode}(h:q<=y):Instr.sliceBound (.int k (q:Nat)) y code=pure q:=by show (if 0<=(q:Int)/\(q:Int)<=y then pure (q:Int).toNat else _)=_;rw[if_pos (by omega)];simp
theorem Afm{b:Bool}{ln cp:Nat}{lo hi mx:Option Value}{l h q:Option Nat}(hlo:BV lo l)(hhi:BV hi h)(hmx:BV mx q)(hq:q.isSome=true->h.isSome=true)(h1:l.getD 0<=h.getD ln)(h2:h.getD ln<=q.getD cp)(h3:q.getD cp<=cp) :
  Instr.sliceBounds b ln cp lo hi mx=pure (l.getD 0,h.getD ln,q.getD cp):=by
 rcases hlo with⟨rfl,rfl⟩|⟨a,c,rfl,rfl⟩<;>rcases hhi with⟨rfl,rfl⟩|⟨k2,q2,rfl,rfl⟩<;>rcases hmx with⟨rfl,rfl⟩|⟨k3,q3,rfl,rfl⟩ <;>
  simp only[Ame,Option.getD_none,Bna,Axm,Agh,imp_false,not_true]at h1 h2 h3 hq ⊢<;>unfold Instr.sliceBounds<;>simp only[Bna,Axm]
 ·rfl
 ·simp only[pure_bind,Qx h2]
 ·simp only[pure_bind,Qx h3,Qx h2]
 ·simp only[pure_bind,Qx h1]
 ·simp only[pure_bind,Qx h2,Qx h1]
 ·simp only[pure_bind,Qx h3,Qx h2,Qx h1]
def Avh(P:Program)(o:Op):Prop:=∀R e e' m x k,EnvR R e e'->Pe R->(opK P o).run e m = .rd x k ->
 ∀R9 m8 Y Z Z9,MemX R9 m8 Y Z Z9->m8.obj k=m.obj k->R9 k=R k->∃v,V1 R9 x v/\∀dd ty pos af g,wpS P Y (execOp (Af e') ⟨dd,o,ty,pos,af,g⟩) Z (fun nx Z'=>nx = .value v/\Z'=Z)
theorem Aeh{x y k j}(h:OR.rd x k = .rd y j):x=y/\k=j:=by cases h;exact⟨rfl,rfl⟩
theorem MemR.roomC{Y:Ro}{Z Z9:Own}{L:List (Nat×Nat×Res)}{G:Own}{m8:Mem}(hm:MemR R m8 Y Z Z9 L G){n k c q b d:Nat}{kn:Bool}(h:xRoomC m n k kn c q=true)(hk:m8.obj k=m.obj k)(hR:R k=some (b,d)):q<=Yf kn c d:=by
 unfold xRoomC at h;cases kn with
 | true=>exact lZ7 h
 | false =>
  simp only at h;split at h
  ·rename_i n' l ho;rw[<-hk]at ho;split at h
   ·rename_i hn;have hn:=lZ8 hn;subst hn;have h:=lZ7 h;rw[Iv]at h;replace h:(c+q)*n<=l.length:=h;have key:∀{o:Res},ObjR R d (.grow n l) o->l.length<=d*n/\0<n:=fun {o} ho=>by
     cases ho with
     | grow h1 g j h4=>have:=h1.len;exact⟨by omega,j⟩
    have g:l.length<=d*n/\0<n:=by
     unfold Mem.obj at ho;split at ho
     ·rename_i o hg;cases ho;obtain⟨p,t,r,i,a,u,e,v⟩:=hm.at hg (by simp);rw[hR]at a;cases a;exact key e
     ·rename_i o hg;cases ho;obtain⟨p,t,y,a,u,f,e⟩:=hm.ro k _ hg;rw[hR]at a;cases a;exact key e
     ·cases ho
    have j:c+q<=d:=Nat.le_of_mul_le_mul_right (Tk h g.1) g.2;show q<=d-c;omega
   ·cases h
  ·cases h
theorem Bwn{a b:Nat}(h:a≠b):Nat.beq a b=false:=by
 cases hx:Nat.beq a b with
 | false=>rfl
 | true=>exact absurd (lZ8 hx) h
def SlP(R:XR)(n k off ln:Nat)(kn:Bool)(c l:Nat)(h q:Option Nat)(x:CV)(b d:Nat):Prop :=
 h.getD ln<=q.getD (Yf kn c d)/\q.getD (Yf kn c d)<=Yf kn c d /\
  V1 R x (.slice (some (if q.getD (Yf kn c d)=l then ⟨b,off,none⟩ else ⟨b,off+l*n,none⟩)) (h.getD ln-l) (q.getD (Yf kn c d)-l))
theorem Ash{n k off ln c l:Nat}{kn:Bool}{h q:Option Nat}{y:OR}(hx:xSliceM n k off ln kn c l h q m=y)(hy:y ≠ .bad):(q.isSome=true->h.isSome=true)/\l<=h.getD ln /\
    ((∃x, y = .v x m /\ ∀{R : XR} {b d}, R k=some (b, d) -> SlP R n k off ln kn c l h q x b d) ∨
     (∃x, y = .rd x k /\ ∀{R : XR} {m8 : Mem} {Y Z Z9 L G b d}, MemR R m8 Y Z Z9 L G -> m8.obj k=m.obj k -> R k=some (b, d) -> SlP R n k off ln kn c l h q x b d)) := by
  unfold xSliceM at hx;have val:∀{R:XR} {q b d:Nat} {h':Nat},R k=some (b,d)->V1 R (.sl k (match Nat.beq q l with|true=>off|false=>Nat.add off (Nat.mul l n)) (Nat.sub h' l) true (Nat.sub q l)) (.slice (some (if q=l then ⟨b,off,none⟩ else ⟨b,off+l*n,none⟩)) (h'-l) (q-l)):=fun {R q b d h'} hR=>by
    by_cases hq:q=l
    · subst hq
      rw[if_pos rfl];have:Nat.beq q q=true:=by simp
      rw[this];exact .slK hR .nil
    · rw[if_neg hq,Bwn hq]
      exact .slK hR .nil
  cases q with
  | some q =>
    cases h with
    | none=>exact absurd hx.symm hy
    | some h =>
      simp only at hx;split at hx
      · rename_i a e f
        have a:=lZ7 a;have e:=lZ7 e;refine⟨fun _=>rfl,a,?_⟩;split at hx
        · refine .inl ⟨_,hx.symm,fun {R b d} hR=>⟨e,lZ7 f,val hR⟩⟩
        · refine .inr ⟨_,hx.symm,fun {R m8 Y Z Z9 L G b d} hm hk hR=>⟨e,hm.roomC f hk hR,val hR⟩⟩
      · exact absurd hx.symm hy
  | none =>
    simp only[Aop]at hx;split at hx
    · exact absurd hx.symm hy
    · rename_i a
      have a:=lZ7 a;split at hx
      · rename_i e
        have e:=lZ7 e;exact⟨fun h=>(by cases h),a,.inl ⟨_,hx.symm,fun {R b d} hR=>⟨e,Ig _,val hR⟩⟩⟩
      · exact absurd hx.symm hy
    · rename_i a
      have a:=lZ7 a;split at hx
      · rename_i e _
        refine⟨fun h=>(by cases h),a,.inr ⟨_,hx.symm,fun {R m8 Y Z Z9 L G b d} hm hk hR=>⟨hm.roomC e hk hR,Ig _,?_⟩⟩⟩;show V1 R _ (.slice (some (if d-c=0 then ⟨b,off,none⟩ else ⟨b,off+0*n,none⟩)) (h.getD ln-0) (d-c-0));rw[Axt,Abb,ite_self];exact .slU hR .nil
      · rename_i l0 e _
        split at hx
        · rename_i f
          refine⟨fun h=>(by cases h),a,.inr ⟨_,hx.symm,fun {R m8 Y Z Z9 L G b d} hm hk hR=>⟨hm.roomC e hk hR,Ig _,?_⟩⟩⟩;have f:l0+2<=d-c:=hm.roomC f hk hR;show V1 R _ (.slice (some (if d-c=l0+1 then ⟨b,off,none⟩ else ⟨b,off+(l0+1)*n,none⟩)) (h.getD ln-(l0+1)) (d-c-(l0+1)));rw[if_neg (by omega)];have:d-c-(l0+1)=d-(c+(l0+1)):=by omega
          rw[this];exact .slU hR .nil
        · exact absurd hx.symm hy
      · exact absurd hx.symm hy
theorem Ahb{n k c q:Nat}(h:xRoomC m n k false c q=true):∃ob,m.obj k=some ob/\ob ≠ .dead:=by
 unfold xRoomC at h;simp only at h;split at h
 ·rename_i ho;exact⟨_,ho,by simp⟩
 ·cases h
theorem Bck{n k off ln c l j:Nat}{kn:Bool}{h q:Option Nat}{x:CV}(hx:xSliceM n k off ln kn c l h q m = .rd x j):∃ob,m.obj j=some ob/\ob ≠ .dead:=by
 unfold xSliceM at hx;cases q with
 | some q =>
  cases h with
  | none=>cases hx
  | some h =>
   simp only at hx;split at hx
   ·rename_i h3;split at hx
    ·cases hx
    ·cases hx;exact Ahb h3
   ·cases hx
 | none =>
  simp only at hx;split at hx
  ·cases hx
  ·split at hx<;>cases hx
  ·split at hx
   ·rename_i h3 _;cases hx;exact Ahb h3
   ·rename_i h3 _;split at hx
    ·cases hx;exact Ahb h3
    ·cases hx
   ·cases hx
theorem Asq{t el:TypeId}{n k off ln c l0:Nat}{kn:Bool}{lo hi mx:Option Value}{l h q:Option Nat}{x:CV}{b d:Nat}{Y:Ro}{Z:Own}{Q:Value->Own->Prop}(hT:P.underlying t=some (.slice el))(hn:xSzT P el=some n)
  (hlo:BV lo l) (hhi:BV hi h) (hmx:BV mx q) (hq:q.isSome=true->h.isSome=true) (h1:l.getD 0<=h.getD ln) (hl:l0=l.getD 0) (hs:SlP R n k off ln kn c l0 h q x b d) (hQ:Q (.slice (some (if q.getD (Yf kn c d)=l0 then ⟨b,off,none⟩ else ⟨b,off+l0*n,none⟩)) (h.getD ln-l0) (q.getD (Yf kn c d)-l0)) Z) :
  wpS P Y (Instr.sliceAt t (.slice (some ⟨b,off,none⟩) ln (Yf kn c d)) lo hi mx) Z Q:=by
 subst hl;obtain⟨e,f,g⟩:=hs;show wpS _ Y ((underlying t).bind _) Z _;rw[Ad];refine Az hT ?_;show wpS _ Y ((underlying t).bind _) Z _;rw[Ad];refine Az hT ?_;simp only[];rw[Afm hlo hhi hmx hq h1 e f];show wpS _ Y ((sizeOf el).bind _) Z _;rw[Ad];refine Dx (Ob hn) ?_;have a:(if q.getD (Yf kn c d)=l.getD 0 then some (⟨b,off,none⟩:Addr) else (some (⟨b,off,none⟩:Addr)).map (·.add (l.getD 0*n)))=some (if q.getD (Yf kn c d)=l.getD 0 then ⟨b,off,none⟩ else ⟨b,off+l.getD 0*n,none⟩):=by
  by_cases hq:q.getD (Yf kn c d)=l.getD 0
  ·rw[if_pos hq,if_pos hq]
  ·rw[if_neg hq,if_neg hq,Amh,Ld]
 rw[a];exact hQ
theorem Xc{t:TypeId}{a:Operand}{lo hi mx:Option Operand}:∀dd ty pos af g,execOp (Af e') ⟨dd,.slice t a lo hi mx,ty,pos,af,g⟩=(Instr.sliceAt t (Af e' a) (lo.map (Af e')) (hi.map (Af e')) (mx.map (Af e'))).bind fun v=>Sem.pure (Next.value v):=fun _ _ _ _ _=>rfl
theorem Ahq{t:TypeId}{a:Operand}{lo hi mx:Option Operand}{y:OR}(he:EnvR R e e')(hg:Pe R)(h:(opK P (.slice t a lo hi mx)).run e m=y)(hy:y ≠ .bad) :
  (∃el n k off ln kn c l0 l h q,P.underlying t=some (.slice el)/\xSzT P el=some n/\V1 R (.sl k off ln kn c) (Af e' a)/\BV (lo.map (Af e')) l/\BV (hi.map (Af e')) h/\BV (mx.map (Af e')) q/\l0=l.getD 0/\xSliceM n k off ln kn c l0 h q m=y)∨∃x,y = .v x m/\To P (.slice t a lo hi mx) R e' x:=by
 have ha:=Dz he hg a;have hlo:=fun {r}=>Bad he hg lo (r:=r);have hhi:=fun {r}=>Bad he hg hi (r:=r);have hmx:=fun {r}=>Bad he hg mx (r:=r);unfold opK at h;simp only at h;split at h
 ·rename_i el hT;split at h
  ·rename_i n lo1 hi1 mx1 hn e1 e2 e3;rw[e1]at hlo;rw[e2]at hhi;rw[e3]at hmx;have h':(match (rdK a).run e with
    | .sl k off ln kn c=>match lo1 e,hi1 e,mx1 e with
     | some l,some h,some q=>xSliceM n k off ln kn c (xOr l 0) h q m
     | _,_,_=>.bad
    | .sn=>match lo1 e,hi1 e,mx1 e with
     | some l,some h,some q=>match Nat.beq (xOr l 0) 0,Nat.beq (xOr h 0) 0,Nat.beq (xOr q 0) 0,xMxOk h q with
      | true,true,true,true=>OR.v .sn m
      | _,_,_,_=>.bad
     | _,_,_=>.bad
    | _=>.bad)=y:=h
   split at h'
   ·rename_i k off ln kn c hu;split at h'
    ·rename_i l h0 q g1 g2 g3;rw[hu]at ha;exact .inl ⟨el,n,k,off,ln,kn,c,_,l,h0,q,hT,hn,ha,hlo g1,hhi g2,hmx g3,Aop ..,h'⟩
    ·exact absurd h'.symm hy
   ·rename_i hu;split at h'
    ·rename_i l h0 q g1 g2 g3;split at h'
     ·rename_i d f g q4;refine .inr ⟨_,h'.symm,?_⟩;rw[hu]at ha;have g:=lZ8 g;rw[Aop]at g;have i:q.isSome=true->h0.isSome=true:=fun hq=>by
       cases q with
       | none=>cases hq
       | some q =>
        cases h0 with
        | none=>cases q4
        | some h=>rfl
      have d:=lZ8 d;have f:=lZ8 f;rw[Aop]at d f;refine Jl _ Xc (.sn .nil) fun Y Z=>?_;rw[Azl ha];show wpS _ Y ((underlying t).bind _) Z _;rw[Ad];refine Az hT ?_;show wpS _ Y ((underlying t).bind _) Z _;rw[Ad];refine Az hT ?_;simp only[];rw[Afm (hlo g1) (hhi g2) (hmx g3) i (by rw[d];exact Hz _) (by rw[f];exact Hz _) (by rw[g];exact Ig _)];show wpS _ Y ((sizeOf el).bind _) Z _;rw[Ad];refine Dx (Ob hn) ?_;rw[d,f,g];exact⟨rfl,rfl⟩
     ·exact absurd h'.symm hy
    ·exact absurd h'.symm hy
   ·exact absurd h'.symm hy
  ·exact absurd h.symm hy
 ·rename_i hT;split at h
  ·rename_i lo1 hi1 e1 e2;rw[e1]at hlo;rw[e2]at hhi;have h':(match (rdK a).run e,lo1 e,hi1 e with
    | .s b,some l,some h=>match xOr h (xLen b),xOr l 0 with
     | h,l=>match Nat.ble h (xLen b),Nat.ble l h with
      | true,true=>match xTkn (Nat.sub h l) (xDrp l b) with|some r=>OR.v (.s r) m|none=>.bad
      | _,_=>.bad
    | _,_,_=>.bad)=y:=h
   split at h'
   ·rename_i b l h0 hu g1 g2;simp only[Aop,Iv,Aax]at h';split at h'
    ·rename_i d f;have d:=lZ7 d;have f:=lZ7 f;split at h'
     ·rename_i r hr;refine .inr ⟨_,h'.symm,?_⟩;obtain⟨_,rfl⟩:=Aaz _ _ _ hr;rw[hu]at ha;refine Jl _ Xc (.s _ .nil) fun Y Z=>?_;rw[Ze ha];show wpS _ Y ((underlying t).bind _) Z _;rw[Ad];refine Az hT ?_;show wpS _ Y ((underlying t).bind _) Z _;rw[Ad];refine Az hT ?_;have hsz:(⟨b.toArray⟩:ByteArray).size=b.length:=rfl;simp only[hsz,Option.map_none,Axm,Agh,if_false];rw[Afm (q:=none) (hlo g1) (hhi g2) (.inl ⟨rfl,rfl⟩) (fun h=>(by cases h)) f d (Ig _)];refine⟨?_,rfl⟩;show Value.string ((⟨b.toArray⟩:ByteArray).extract (l.getD 0) (h0.getD b.length))=_;congr 1;apply ByteArray.ext;rw[ByteArray.data_extract];simp[Bmj]
     ·exact absurd h'.symm hy
    ·exact absurd h'.symm hy
   ·exact absurd h'.symm hy
  ·exact absurd h.symm hy
 ·exact absurd h.symm hy
theorem Bbi(t:TypeId)(a:Operand)(lo hi mx:Option Operand):Ji P (.slice t a lo hi mx):=fun R e e' m x m' he hg h=>by
 rcases Ahq he hg h (by simp) with⟨el,n,k,off,ln,kn,c,D,l,C,q,hT,hn,ha,p,u,v,w,y⟩|⟨x',f,i⟩
 ·obtain⟨z,B,j⟩:=Ash y (by simp);rcases j with⟨x',b,j⟩|⟨x',b,_⟩
  ·obtain⟨rfl,rfl⟩:=Hx b;obtain⟨bl,d,f,i⟩:=Zf ha;have hs:=j f;refine .inl ⟨rfl,_,hs.2.2,fun Y Z dd ty pos af g=>?_⟩;rw[Xc,Ad,i];subst w;exact Asq hT hn p u v z B rfl hs ⟨rfl,rfl⟩
  ·cases b
 ·obtain⟨rfl,rfl⟩:=Hx f;exact .inl ⟨rfl,i⟩
theorem Awz(t:TypeId)(a:Operand)(lo hi mx:Option Operand):Avh P (.slice t a lo hi mx):=fun R e e' m x k he hg h R9 m8 Y Z Z9 hm ho z=>by
 rcases Ahq he hg h (by simp) with⟨el,n,k',off,ln,kn,c,E,l,D,q,hT,hn,ha,p,u,v,w,y⟩|⟨x',f,j⟩
 ·obtain⟨B,C,i⟩:=Ash y (by simp);rcases i with⟨x',b,_⟩|⟨x',b,i⟩
  ·cases b
  ·obtain⟨rfl,rfl⟩:=Aeh b;obtain⟨bl,d,f,j⟩:=Zf ha;obtain⟨L,G,hm⟩:=hm;have hs:=i hm ho (z.trans f);refine⟨_,hs.2.2,fun dd ty pos af g=>?_⟩;rw[Xc,Ad,j];subst w;exact Asq hT hn p u v B C rfl hs ⟨rfl,rfl⟩
 ·cases f
theorem Bin{t:TypeId}{l:List CV}{v:CV}(h:(partK P t).run l=some v):(∃n r,xAggT P t=some true/\xSzT P t=some n/\xTkn n l=some r/\v = .g r)∨(xAggT P t=some false/\∃r,l=v::r):=by
 unfold partK at h;split at h
 ·rename_i ha;split at h
  ·rename_i n hn;simp only at h;split at h
   ·rename_i r hr;cases h;exact .inl ⟨n,r,ha,hn,hr,rfl⟩
   ·cases h
  ·cases h
 ·rename_i ha;simp only at h;split at h
  ·cases h;exact .inr ⟨ha,_,rfl⟩
  ·cases h
 ·cases h
theorem Bbf(t:TypeId)(a:Operand)(i:Nat):Ji P (.field t a i):=fun R e e' m x m' he hg h=>by
 have ha:=Dz he hg a;unfold opK at h;simp only at h;split at h
 ·rename_i fs hT;split at h
  ·rename_i f hf;have h':(match (rdK a).run e with
    | .g l=>match (partK P f.type).run (xDrp f.offset l) with|some v=>OR.v v m|none=>.bad
    | _=>.bad) = .v x m':=h
   split at h'
   ·rename_i l hu;cases hp:(partK P f.type).run (xDrp f.offset l) with
    | none=>rw[hp]at h';cases h'
    | some v =>
     rw[hp]at h';obtain⟨rfl,rfl⟩:=Hx h';rw[hu]at ha;obtain⟨l',j,k⟩:=Aez ha;rw[Aax]at hp;have hf':fs[i]?=some f:=by rw[<-Bht];exact hf
     have exe:∀dd ty pos af g,execOp (Af e') ⟨dd,.field t a i,ty,pos,af,g⟩=(Instr.field t (Af e' a) i).bind fun v=>Sem.pure (Next.value v):=fun _ _ _ _ _=>rfl;rcases Bin hp with⟨n,r,b,c,q,rfl⟩|⟨b,r,c⟩
     ·refine .inl ⟨rfl,Jl (v:=.agg ((l'.drop f.offset).take n).toArray) _ exe (.g ?_ .nil) fun Y Z=>?_⟩
      ·obtain⟨_,rfl⟩:=Aaz _ _ _ q;exact(j.drop _).take _
      rw[k];show wpS _ Y ((underlying t).bind _) Z _;rw[Ad];refine Az hT ?_;simp only[hf'];show wpS _ Y (part f.type l'.toArray f.offset) Z _;exact Aso (Zm b) (Ob c) ⟨rfl,rfl⟩
     ·obtain⟨w,p,u⟩:=(j.drop f.offset).at (d:=0) (v:=v) (by rw[c];rfl);refine .inl ⟨rfl,Jl (v:=w) _ exe u fun Y Z=>?_⟩;rw[k];show wpS _ Y ((underlying t).bind _) Z _;rw[Ad];refine Az hT ?_;simp only[hf'];show wpS _ Y (part f.type l'.toArray f.offset) Z _;refine Qr (Zm b) ?_ ⟨rfl,rfl⟩;rw[Mi];rw[Agl,Abb]at p;exact p
   ·cases h'
  ·cases h
 ·cases h
end
end
section
section
variable{P:Program}{R:XR}{e:Tr CV}{e':Env}{m m':Mem}{x:CV}
theorem VR.set{l l2 c o vs ws}(h:VR R l c)(hs:xSetL o vs l=some l2)(hv:VR R vs ws):o+ws.length<=c.length/\VR R l2 (over c o ws):=by obtain⟨a,b⟩:=Aoq o vs l l2 hs;have hl:=h.len;have hw:=hv.len;rw[hw,hl]at a;refine⟨a,?_⟩;rw[Qe ws c o a,b,hw];exact(h.take o).app (hv.app (h.drop _))
theorem Adg(he:EnvR R e e')(hg:Pe R){off place:Nat->Option (Nat×Nat)}(hp:∀i o z,off i=some (o,z)->place i=some (o,z)):∀(ps:List (Nat×Operand)) (l l2:List CV) (c:List Value),(fillK off ps).run l e=some l2->VR R l c ->
  ∃c2,Instr.fill place c.toArray (ps.map fun p=>(p.1,Af e' p.2))=some c2.toArray/\VR R l2 c2
 | [],l,l2,c,h,hv=>by cases h;exact⟨c,rfl,hv⟩
 | (i,a)::ps,l,l2,c,h,hv=>by
  unfold fillK at h;split at h
  ·cases h
  ·rename_i o z ho;simp only at h;split at h
   ·cases h
   ·rename_i vs hc;split at h
    ·cases h
    ·rename_i hz;split at h
     ·rename_i l3 hs;have hz:=lZ8 hz;rw[Iv]at hz;have b:=(Dz he hg a).cells hc;obtain⟨d,f⟩:=hv.set hs b;have k:=b.len;obtain⟨c2,g,j⟩:=Adg he hg hp ps l3 l2 _ h f;refine⟨c2,?_,j⟩;rw[Jg,Be (cs:=(Af e' a).cells.toList) (by simp) (by rw[hp i o z ho,<-k,hz]) d];exact g
     ·cases h
def sizesL(P:Program):List Field->List Nat
 | []=>[]
 | f::fs=>((xSzT P f.type).getD 0)::sizesL P fs
theorem Avn:∀{fs:List Field},allSz P fs=true->Wu P fs (sizesL P fs)
 | [],_=>trivial
 | f::fs,h=>by
  unfold allSz at h;split at h
  ·rename_i n hn;refine⟨?_,Avn h⟩;rw[hn];exact Ob hn
  ·cases h
theorem Bfl:∀(fs:List Field) (i o z:Nat),fldAt P fs i=some (o,z)->(Gs fs (sizesL P fs))[i]?=some (o,z)
 | [],i,o,z,h=>by simp[fldAt]at h
 | f::fs,0,o,z,h=>by
  unfold fldAt at h;simp only[Bhr]at h;simp only[sizesL,Gs,Bhr];cases hn:xSzT P f.type with
  | none=>rw[hn]at h;cases h
  | some n=>rw[hn]at h;cases h;rfl
 | f::fs,i+1,o,z,h=>by
  simp only[sizesL,Gs,Xr];refine Bfl fs i o z ?_;unfold fldAt at h ⊢;rw[Xr]at h;exact h
theorem Bbc(t:TypeId)(ps:Array (Nat×Operand)):Ji P (.build t ps):=fun R e e' m x m' he hg h=>by
 have hps:ps=ps.toList.toArray:=by simp
 unfold opK at h;simp only at h;split at h
 ·rename_i z fs hz hT;split at h
  ·rename_i c hsz hc;have h':(match (fillK (fldAt P fs.toList) ps.toList).run c e with|some l=>OR.v (.g l) m|none=>.bad) = .v x m':=h;split at h'
   ·rename_i l hf;obtain⟨rfl,rfl⟩:=Hx h';obtain⟨v,hv,rfl⟩:=Ri hz;have hvc:=(vOf R v).cells hc;obtain⟨d,a,b⟩:=Adg he hg (place:=((Gs fs.toList (sizesL P fs.toList))[·]?)) (Bfl fs.toList) ps.toList c l _ hf hvc;refine .inl ⟨rfl,Wh (Y:=fun _=>none) (.g b .nil) fun Y ty=>?_⟩;rw[hps];exact Dn (fs:=fs.toList) (zc:=v.cells.toList) (by rw[Ads];exact hT) hv (by simp) (Avn hsz) rfl a
   ·cases h'
  ·cases h
 ·rename_i z ln el hz hT;split at h
  ·rename_i n c hn hc;have h':(match (fillK (fun i=>some (Nat.mul i n,n)) ps.toList).run c e with|some l=>OR.v (.g l) m|none=>.bad) = .v x m':=h;split at h'
   ·rename_i l hf;obtain⟨rfl,rfl⟩:=Hx h';obtain⟨v,hv,rfl⟩:=Ri hz;have hvc:=(vOf R v).cells hc;obtain⟨d,a,b⟩:=Adg he hg (place:=fun i=>some (i*n,n)) (fun i o z h=>h) ps.toList c l _ hf hvc;refine .inl ⟨rfl,Jl (Instr.build t (ps.map fun (p:Nat×Operand)=>(p.1,Af e' p.2))) (fun _ _ _ _ _=>rfl) (.g b .nil) fun Y Z=>?_⟩;unfold Instr.build;show wpS P Y ((zeroValue t).bind _) Z _;rw[Ad];refine Jz hv ?_;show wpS P Y ((underlying t).bind _) Z _;rw[Ad];refine Az hT ?_;dsimp only;show wpS P Y ((sizeOf el).bind _) Z _;rw[Ad];refine Dx (Ob hn) ?_;have f:(ps.map fun (p:Nat×Operand)=>(p.1,Af e' p.2)).toList=ps.toList.map fun p=>(p.1,Af e' p.2):=by simp
    have j:v.cells=v.cells.toList.toArray:=by simp
    rw[f,j,a];exact⟨rfl,rfl⟩
   ·cases h'
  ·cases h
 ·cases h
theorem Aox(n:Nat):Bgg n (0,0):=fun i _=>by simp
theorem Asv{o el l vs}(s:Sem Value)(mk:Nat->Value)(hs:∀dd ty pos af g,execOp (Af e') ⟨dd,o,ty,pos,af,g⟩=s.bind fun v=>Sem.pure (Next.value v))(h:∀Y Z Q,(∀r,Q (mk r) ((r,.obj (.cells vs.toArray el (0,0)))::Z))->wpS P Y s Z Q)(hv:VR R l vs)(hx:∀R' r,R' m.nx=some (r,0)->V1 R' x (mk r)):Bge P o R e' m x (m.add (.cells l)) :=
 Avk (c:=0) s mk hs h (fun R' hR=>.cells (hv.mono hR) (Aox _)) hx
theorem Bbb(t:TypeId):Ji P (.alloc t):=fun R e e' m x m' he hg h=>by
 unfold opK at h;simp only at h;split at h
 ·rename_i z hz;split at h
  ·rename_i c hc;obtain⟨rfl,rfl⟩:=Hx h;obtain⟨v,hv,rfl⟩:=Ri hz;refine .inr (Asv (vs:=v.cells.toList) (el:=t) (Instr.alloc t true (.tuple #[])) (fun r=>.pointer (some ⟨r,0,none⟩)) (fun _ _ _ _ _=>rfl) (fun Y Z Q hq=>?_) ((vOf R v).cells hc) fun R' r hr=>.p hr .nil);show wpS P Y ((zeroValue t).bind _) Z _;rw[Ad];refine Jz hv ?_;show wpS P Y ((newVar t v).bind _) Z _;rw[Ad];refine Ik fun r=>?_;have:=hq r;rw[Ads]at this;exact this
  ·cases h
 ·cases h
theorem Blz(t:TypeId)(a:Operand):Ji P (.box t a):=fun R e e' m x m' he hg h=>by
 have ha:=Dz he hg a;have h':(match ((rdK a).run e).cells with|some c=>OR.v (.p m.nx 0) (m.add (.cells c))|none=>.bad) = .v x m':=h;split at h'
 ·rename_i c hc;obtain⟨rfl,rfl⟩:=Hx h';refine .inr (Asv (vs:=(Af e' a).cells.toList) (el:=t) (Instr.box t (Af e' a)) (fun r=>.pointer (some ⟨r,0,none⟩)) (fun _ _ _ _ _=>rfl) (fun Y Z Q hq=>?_) (ha.cells hc) fun R' r hr=>.p hr .nil);show wpS P Y ((newVar t (Af e' a)).bind _) Z _;rw[Ad];refine Ik fun r=>?_;have:=hq r;rw[Ads]at this;exact this
 ·cases h'
theorem Atu(t:TypeId):Ji P (.makeMap t none):=fun R e e' m x m' he hg h=>by
 obtain⟨rfl,rfl⟩:=Hx h;refine .inr (Avk (c:=0) (ob:=.map ([]:List MapEntry).toArray 0) (Instr.makeMap t none) (fun r=>.map (some r)) (fun _ _ _ _ _=>rfl) (fun Y Z Q hq=>?_) (fun R' hR=>.map .nil .nil ⟨fun i e h=>(by cases h),rfl⟩) fun R' r hr=>.m hr .nil);show wpS P Y ((newObj (.map #[] 0)).bind _) Z _;rw[Ad];exact .inl ⟨rfl,fun r=>hq r⟩
theorem Aoz(t:TypeId)(s:Operand):Ji P (.makeChan t s):=fun R e e' m x m' he hg h=>by
 have hs:=Dz he hg s;unfold opK at h;simp only at h;split at h
 ·rename_i dir el hT;split at h
  ·rename_i ti hi;have h':(match (rdK s).run e with
    | .i _ (.ofNat 0)=>OR.v (.c m.nx) (m.add .chan)
    | .i _ (.ofNat (n+1))=>match Nat.ble ti.bytes 4096,Nat.ble (n+1) 1000 with|true,true=>.v (.c m.nx) (m.add (.crowd (n+1) []))|_,_=>.bad
    | _=>.bad) = .v x m':=h
   split at h'
   ·rename_i k hu;obtain⟨rfl,rfl⟩:=Hx h';rw[hu]at hs;refine .inr ⟨.add m .chan,fun _=>Auc _,fun Y Z Z9 dd ty pos af g hm=>?_⟩;obtain⟨L,G,hm⟩:=hm;show wpS P Y ((Instr.makeChan t (Af e' s)).bind fun v=>Sem.pure (Next.value v)) Z _;rw[Ad,Oc hs];show wpS P Y ((underlying t).bind _) Z _;rw[Ad];refine Az hT ?_;show wpS P Y ((typeInfo el).bind _) Z _;rw[Ad];refine Gj hi ?_;have hmx:¬((0:Int)<0∨(0:Int)>IntKind.i64.max∨(ti.bytes:Int)*0>2^48-112):=by
     have:IntKind.i64.max=9223372036854775807:=by simp[IntKind.max,IntKind.signed,IntKind.bits]
     omega
    show wpS P Y (if ((0:Int)<0∨(0:Int)>IntKind.i64.max∨(ti.bytes:Int)*0>2^48-112) then _ else _) Z _;rw[if_neg hmx];show wpS P Y ((newObj (.chan 0 #[] false 0 0 false)).bind _) Z _;rw[Ad];refine .inr (.inl ⟨rfl,fun r=>?_⟩);exact⟨R.add m.nx (r,0),_,hm.fresh _,.inl rfl,.c XR.add_same .nil,hm.add .chan⟩
   ·rename_i k n hu;split at h'
    ·rename_i a b;have a:=lZ7 a;have b:=lZ7 b;obtain⟨rfl,rfl⟩:=Hx h';rw[hu]at hs;refine .inr ⟨.add m _,fun _=>Auc _,fun Y Z Z9 dd ty pos af g hm=>?_⟩;obtain⟨L,G,hm⟩:=hm;show wpS P Y ((Instr.makeChan t (Af e' s)).bind fun v=>Sem.pure (Next.value v)) Z _;rw[Ad,Oc hs];show wpS P Y ((underlying t).bind _) Z _;rw[Ad];refine Az hT ?_;show wpS P Y ((typeInfo el).bind _) Z _;rw[Ad];refine Gj hi ?_;have hmx:¬(((n+1:Nat):Int)<0∨((n+1:Nat):Int)>IntKind.i64.max∨(ti.bytes:Int)*((n+1:Nat):Int)>2^48-112):=by
      have d:IntKind.i64.max=9223372036854775807:=by simp[IntKind.max,IntKind.signed,IntKind.bits]
      have j:ti.bytes*(n+1)<=4096*1000:=Amj a b;have f:(ti.bytes:Int)*((n+1:Nat):Int)=((ti.bytes*(n+1):Nat):Int):=by push_cast;rfl
      rw[d,f];omega
     show wpS P Y (if (((n+1:Nat):Int)<0∨((n+1:Nat):Int)>IntKind.i64.max∨(ti.bytes:Int)*((n+1:Nat):Int)>2^48-112) then _ else _) Z _;rw[if_neg hmx];show wpS P Y ((newObj (.chan (n+1) #[] false 0 0 false)).bind _) Z _;rw[Ad];refine .inr (.inr ⟨n+1,rfl,fun r=>?_⟩);exact⟨R.add m.nx (r,0),_,hm.fresh _,.inl rfl,.c XR.add_same .nil,hm.add (.crowd (Rs:=[]) trivial)⟩
    ·cases h'
   ·cases h'
  ·cases h
 ·cases h
end
end
end
end Go.Proofs.YtfeahfjambednaaGreatDoor
