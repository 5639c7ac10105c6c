/- Part 5 of what all laws of layer 8 need: a logic of programs that start goroutines, and what the functions yield. -/
import Derived.Test.YtfeahfjambednaaGreatDoorN4
import Derived.KernelRfl
set_option linter.unusedVariables false
set_option linter.unusedSimpArgs false
set_option maxRecDepth 100000
set_option maxHeartbeats 4000000
namespace Go.Proofs.YtfeahfjambednaaGreatDoor
open Go
noncomputable section
section
section
variable{P:Program}{R:XR}{e:Tr CV}{e':Env}{m m':Mem}{x:CV}{Y:Ro}{Z Z9:Own}{L:List (Nat×Nat×Res)}{G:Own}{t:TypeId}
theorem Aey{n}(h:xZeroC P t=some n):∃i v,P.info? t=some i/\i.zero=some v/\v.cells.size=n:=by
 unfold xZeroC at h;cases hi:P.info? t with
 | none=>rw[hi]at h;cases h
 | some i =>
  rw[hi]at h;simp only at h;cases hz:i.zero with
  | none=>rw[hz]at h;cases h
  | some v=>rw[hz]at h;cases h;exact⟨i,v,rfl,hz,rfl⟩
theorem Aja(R:XR){c:List CV}{z:List Value}(h:VR R c z):∀(ln:Nat),VR R (xRepL c ln) ((List.replicate ln z).flatten)
 | 0=>.nil
 | n+1=>by
  rw[Bml,Bdy];show VR R (xApp c (xRepL c n)) _;rw[Lu];exact h.app (Aja R h n)
theorem Aae(z:Array Value)(n:Nat)(hn:z.size=n)(h0:0<n):∀(ln:Nat),(List.range (ln*n)).map (fun i=>z[i%z.size]!)=(List.replicate ln z.toList).flatten
 | 0=>by simp
 | k+1=>by
  have e0:(k+1)*n=n+k*n:=by rw[Xw,Aly,Alu]
  rw[e0,List.range_add,Lo,Bml,Bdy,<-Aae z n hn h0 k,Beh];congr 1
  ·apply Atr;intro i;rw[Oz];by_cases hi:i<n
   ·rw[Awo hi];simp only[Aoq,hn,Bea hi];rw[Bhn,getElem!_pos z i (by omega),Blv (by omega)]
   ·rw[Sa (by simpa using hi),Bhn,Bhm (by omega)];rfl
  ·apply Aqa;intro i _;simp only[Function.comp,hn,Nat.add_mod_left]
theorem Avy{t u n el el' ti z c}(hc:c.callee = .builtin .append)(hts:c.argTypes = #[t,u])(hT:P.underlying t=some (.slice el))(hU:P.underlying u=some (.slice el'))(hi:P.info? el=some ti)(hn:ti.size=n)(hn1:1<=n)(hb:ti.bytes<=4096)(hz:ti.zero=some z)(hzn:z.cells.size=n){args vs}(hv:VR R args vs)(ha:c.args.map (Af e')=vs.toArray)(h:(appendK n).run args m = .v x m'):Bfv P (.call c) R e' m x m':=by
 obtain⟨cl,az,ts⟩:=c;simp only at hc hts ha;subst hc hts;have exe:∀dd ty pos af g,execOp (Af e') ⟨dd,.call ⟨.builtin .append,az,#[t,u]⟩,ty,pos,af,g⟩=((Builtin.append_ #[t,u] ty vs.toArray).bind fun v=>Sem.pure (Next.value v)):=fun dd ty pos af g=>by
  obtain⟨cs,y⟩:=Wr (b:=.append) (az:=az) (ts:=#[t,u]) (dd:=dd) (ty:=ty) (pos:=pos) (af:=af) (g:=g) (Af e');rw[y,ha];rfl
 unfold appendK at h;simp only at h;split at h
 ·rename_i s k2 off2 lx kn2 c2;split at h
  ·cases h
  ·rename_i cx hcx;split at h
   ·rename_i hlx0 hall;have hlx:lx≠0:=fun e=>by subst e;simp at hlx0
    obtain⟨sv,xv,rfl⟩:∃sv xv,vs=[sv,xv]:=by
     have:=hv.len
     match vs,this with
     | [a,b],_=>exact⟨a,b,rfl⟩
    obtain⟨hs,hx'⟩:=VR.cons_iff.1 hv;obtain⟨l2,aa,a2,a0⟩:=Bfh hcx;have U:∀(Y:Ro) (Z Z9:Own) (ty:TypeId) (N:Option Addr) (f p:Nat) (ls:List CV) (hm:MemX R m Y Z Z9) (hsv:sv = .slice N f p) (hsz:f+lx<=1000000)
      (K:∃ovs:List Value,VR R ls ovs/\ovs.length=f*n/\∀Q:Array Value->Own->Prop,Q ovs.toArray Z->wpS P Y (Builtin.firstCells n f sv) Z Q) (Q:Value->Own->Prop)
      (a4:f+lx<=p->∀cvs:List Value,VR R cx cvs->cvs.length=lx*n->(∀v∈cvs,single v=true)->wpS P Y (Sem.bind (match N with|some a=>storeCells (a.add (f*n)) cvs|none=>pure ()) fun _=>pure (.slice N (f+lx) p)) Z Q)
      (ZQ:¬f+lx<=p->∀r nc (all rest:List Value),VR R (ls++cx) all->all.length=(f+lx)*n->all.length+rest.length=nc*n->f+lx<=nc->Q (.slice (some ⟨r,0,none⟩) (f+lx) nc) ((r,.obj (.cells (all++rest).toArray el (0,0)))::Z)),
      wpS P Y (Builtin.append_ #[t,u] ty [sv,xv].toArray) Z Q:=by
     intro Y Z Z9 ty N f p ls hm hsv hsz K Q a4 ZQ;obtain⟨L,G,hm⟩:=hm;obtain⟨xb,xd,hxR,hxv⟩:=Za hx';obtain⟨b2,ac,cvs,y,F,J,O,_⟩:=hm.cells (P:=P) aa a2 a0;rw[hxR]at y;cases y;replace J:cvs.length=lx*n:=J;obtain⟨ovs,a8,a9,a3⟩:=K;have a1:∀Q:Array Value->Own->Prop,Q cvs.toArray Z->wpS P Y (Builtin.firstCells n lx xv) Z Q:=fun Q hq=>by rw[hxv];exact O Q hq
     have hsg:=F.singles hall;have ab:Builtin.lenOf xv=pure lx:=by rw[hxv];rfl
     rw[show [sv,xv].toArray = #[sv,xv] from rfl];unfold Builtin.append_;show wpS P Y ((underlying t).bind _) _ _;rw[Ad];refine Az hT ?_;simp only[hsv];show wpS P Y ((sizeOf el).bind _) _ _;rw[Ad];refine Dx ⟨ti,hi,hn⟩ ?_;show wpS P Y ((underlying u).bind _) _ _;rw[Ad];refine Az hU ?_;show wpS P Y ((Builtin.lenOf xv).bind _) _ _;rw[ab];show wpS P Y (if f+lx<=p then (Builtin.firstCells n lx xv).bind _ else (typeInfo el).bind _) _ _;by_cases B:f+lx<=p
     ·rw[if_pos B,Ad];refine a1 _ ?_;have:=a4 B cvs F J hsg;cases N with
      | none=>exact this
      | some a=>exact this
     ·rw[if_neg B,Ad];refine Gj hi ?_;have a5:¬(((f+lx:Nat):Int)>IntKind.i64.max/\((false=true)∨ti.bytes=0)):=by
       intro⟨y,_⟩;have:IntKind.i64.max=9223372036854775807:=by simp[IntKind.max,IntKind.signed,IntKind.bits]
       omega
      show wpS P Y (if ((f+lx:Nat):Int)>IntKind.i64.max/\((false=true)∨ti.bytes=0) then _ else (typeInfo el).bind _) _ _;rw[if_neg a5,Ad];refine Gj hi ?_;have a6:¬(Builtin.nextslicecap (f+lx) p*ti.bytes>2^48):=by
       have y:=Alk (need:=f+lx) (cap:=p) (by omega);have F:Builtin.nextslicecap (f+lx) p*ti.bytes<=(2*(f+lx)+1000)*4096:=Ame y hb;omega
      show wpS P Y (if Builtin.nextslicecap (f+lx) p*ti.bytes>2^48 then _ else (choose (.appendCap (f+lx) p el)).bind _) _ _;rw[if_neg a6,Ad];show (if (Question.appendCap (f+lx) p el).forced then _ else ∀tt,_);rw[if_neg (by simp[Question.forced])];intro tt;have hnc:f+lx<=(Question.appendCap (f+lx) p el).cut tt:=by simp[Question.cut]
      generalize (Question.appendCap (f+lx) p el).cut tt=nc at hnc;show wpS P Y ((typeInfo el).bind _) _ _;rw[Ad];refine Gj hi ?_;show wpS P Y ((askRoom (nc*ti.bytes)).bind _) _ _;rw[Ad];have X:∀{Q:Unit->Own->Prop} {Z':Own},Q () Z'->wpS P Y (askRoom (nc*ti.bytes)) Z' Q:=fun hq=>by
       unfold askRoom;split
       ·exact⟨rfl,hq⟩
       ·exact hq
      refine X ?_;show wpS P Y ((Builtin.firstCells n f (.slice N f p)).bind _) _ _;rw[Ad];rw[hsv]at a3;refine a3 _ ?_;show wpS P Y ((Builtin.firstCells n lx xv).bind _) _ _;rw[Ad];refine a1 _ ?_;show wpS P Y ((zeroValue el).bind _) _ _;rw[Ad];refine Jz ⟨ti,hi,hz⟩ ?_;show wpS P Y ((newRow el (ovs.toArray++cvs.toArray++Builtin.zeroCells z.cells (nc-(f+lx)))).bind _) _ _;rw[Ad];refine Ik fun r=>?_;have e4:(ovs.toArray++cvs.toArray++Builtin.zeroCells z.cells (nc-(f+lx)))=((ovs++cvs)++(Builtin.zeroCells z.cells (nc-(f+lx))).toList).toArray:=by
       apply Array.ext';simp
      rw[e4];have e5:(Builtin.zeroCells z.cells (nc-(f+lx))).toList.length=(nc-(f+lx))*n:=by
       simp[Builtin.zeroCells,hzn]
      have e6:(ovs++cvs).length=(f+lx)*n:=by rw[lZ3,a9,J,<-Xw]
      exact ZQ B r nc (ovs++cvs) _ (a8.app F) e6 (by rw[e6,e5,<-Xw];congr 1;omega) hnc
    split at h
    ·split at h
     ·rename_i hle;have hle:=lZ6 hle;obtain⟨rfl,rfl⟩:=Hz h;have hsv:=Azc hs;refine⟨.add _ _,fun _=>Ats _,fun Y Z Z9 dd ty pos af g hm=>?_⟩;rw[exe,Ad];refine U Y Z Z9 ty none 0 0 [] hm hsv (by omega) ⟨[],.nil,by simp,fun Q hq=>by rw[hsv];exact hq⟩ _ (fun B=>absurd B (by omega)) fun _ r nc all rest j w q C=>?_;obtain⟨L,G,hm⟩:=hm;refine⟨R.add m.nx (r,nc),_,hm.fresh _,.inl rfl,?_,hm.add (.grow (j.mono (hm.fresh _)) q hn1 (Aog _))⟩;rw[Te];exact .slU XR.add_same .nil
     ·cases h
    ·rename_i k off ls c1;split at h
     ·rename_i n' l hget;split at h
      ·rename_i H D M I E;have H:=lZ8 H;have D:=lZ8 D;have M:=lZ8 M;have I:=lZ8 I;have E:=lZ6 E;subst H D M;rw[Ig]at I;replace I:l.length=ls*n:=I;replace E:ls+lx<=1000000:=E;obtain⟨rfl,rfl⟩:=Hz h;rw[Lu];obtain⟨sb,sd,hsR,hsv⟩:=Za hs;simp only[Yb,Bej]at hsv;refine⟨(LogOk.put _ _ _).trans (.add _ _),fun _=>Ats _,fun Y Z Z9 dd ty pos af g hm=>?_⟩;rw[exe,Ad];have T:=hm;obtain⟨L,G,hm⟩:=hm;obtain⟨b,d,rs,i,y,F,J,O⟩:=hm.at hget (by simp);rw[hsR]at y;cases y;have YQ:m.row k=some l:=by unfold Mem.row;rw[hget];rfl
       have K:∃ovs:List Value,VR R l ovs/\ovs.length=ls*n/\∀Q:Array Value->Own->Prop,Q ovs.toArray Z->wpS P Y (Builtin.firstCells n ls sv) Z Q:=by
        obtain⟨b3,c3,ovs,j,w,q,C,_⟩:=hm.cells (P:=P) (off:=0) (n:=ls*n) YQ (by rw[Amc,I];exact Ii _) rfl;rw[hsR]at j;cases j;rw[Amc,Aom (by rw[I];exact Ii _)]at w;exact⟨ovs,w,q,fun Q hq=>by rw[hsv];exact C Q hq⟩
       refine U Y Z Z9 ty (some ⟨sb,0,none⟩) ls sd l T hsv E K _ (fun B cvs j w q=>?_) fun _ r nc all rest j w q C=>?_
       ·cases J with
        | @grow _ _ l' rest t1 fz o1 o2 o3 o4 =>
         have hl':=o1.len;show wpS P Y (Sem.bind (storeCells ((⟨sb,0,none⟩:Addr).add (ls*n)) cvs) _) Z _;rw[Ad,Ld,Te];have W:ls*n+cvs.length<=(l'++rest).length:=by
          rw[w,lZ3,o2,<-Xw];exact Awn _ B
         refine Acn cvs ⟨sb,ls*n,none⟩ 0 (l'++rest) Z rfl rfl q F (by simpa using W) (by rw[lZ3];exact o4) ?_;simp only[Abw];have V:over (l'++rest) (ls*n) cvs=(l'++cvs)++rest.drop cvs.length:=by
          rw[Qe _ _ _ W,<-I,hl',Aqh,Gv];congr 2;rw[List.drop_append,Awi (by omega)];simp
         rw[V];have ag:cvs.length<=rest.length:=by
          rw[lZ3,<-hl',I]at W;omega
         refine⟨R.add m.nx (sb,sd),_,hm.fresh _,.inl rfl,?_,hm.move O F (.grow ((o1.app j).mono (hm.fresh _)) ?_ o3 ?_)⟩
         ·exact .slU XR.add_same .nil
         ·rw[lZ3,Qk];omega
         ·rw[lZ3,Qk,show l'.length+cvs.length+(rest.length-cvs.length)=l'.length+rest.length by omega];exact o4
       ·have hob:∃ob,rs = .obj ob:=by cases J with|grow=>exact⟨_,rfl⟩
        obtain⟨ob,rfl⟩:=hob;obtain⟨L',G',hm'⟩:=hm.kill O;have hfr:=hm'.fresh (r,nc);refine⟨R.add m.nx (r,nc),_,hm.fresh _,.inl rfl,.slU XR.add_same .nil,?_⟩;exact hm'.add (.grow (j.mono hfr) q hn1 (Aog _))
      ·rename_i H D M I E;have H:=lZ8 H;have D:=lZ8 D;have M:=lZ8 M;have E:=lZ6 E;subst H D M;replace E:ls+lx<=1000000:=E;split at h
       ·rename_i l2 hset;replace hset:xSetL (ls*n) cx l=some l2:=hset;obtain⟨rfl,rfl⟩:=Hz h;obtain⟨sb,sd,hsR,hsv⟩:=Za hs;simp only[Yb,Bej]at hsv;refine⟨.put _ _ _,fun h=>(by cases h),fun Y Z Z9 dd ty pos af g hm=>?_⟩;rw[exe,Ad];have T:=hm;obtain⟨L,G,hm⟩:=hm;obtain⟨b,d,rs,i,y,F,J,O⟩:=hm.at hget (by simp);rw[hsR]at y;cases y;obtain⟨ae,_⟩:=Aoa _ _ _ _ hset;have ad:cx.length=lx*n:=by
         rw[a0,Jb];exact Als a2
        have YQ:m.row k=some l:=by unfold Mem.row;rw[hget];rfl
        have K:∃ovs:List Value,VR R (l.take (ls*n)) ovs/\ovs.length=ls*n/\∀Q:Array Value->Own->Prop,Q ovs.toArray Z->wpS P Y (Builtin.firstCells n ls sv) Z Q:=by
         obtain⟨b3,c3,ovs,j,w,q,C,_⟩:=hm.cells (P:=P) (off:=0) (n:=ls*n) YQ (by rw[Amc];omega) rfl;rw[hsR]at j;cases j;rw[Amc]at w;exact⟨ovs,w,q,fun Q hq=>by rw[hsv];exact C Q hq⟩
        cases J with
        | @grow _ _ l' rest t1 fz o1 o2 o3 o4 =>
         have hl':=o1.len;have X:ls+lx<=sd:=by
          have:(ls+lx)*n<=sd*n:=by rw[Xw];omega
          exact Nat.le_of_mul_le_mul_right this o3
         refine U Y Z Z9 ty (some ⟨sb,0,none⟩) ls sd (l.take (ls*n)) T hsv E K _ (fun B cvs j w q=>?_) fun B=>absurd X B;show wpS P Y (Sem.bind (storeCells ((⟨sb,0,none⟩:Addr).add (ls*n)) cvs) _) Z _;rw[Ad,Ld,Te];obtain⟨C,g5⟩:=o1.set hset j;refine Acn cvs ⟨sb,ls*n,none⟩ 0 (l'++rest) Z rfl rfl q F (by rw[lZ3];simpa using To C (Bmw _ _)) (by rw[lZ3];exact o4) ?_;simp only[Abw];have V:over (l'++rest) (ls*n) cvs=over l' (ls*n) cvs++rest:=by
          rw[Qe _ _ _ (by rw[lZ3];omega),Qe _ _ _ C,Bvb (by omega),Bdl C];simp
         rw[V];exact⟨R,_,.refl,.inl rfl,.slU hsR .nil,hm.put O hsR F (.grow g5 (by rw[Pr];exact o2) o3 (by rw[Pr];exact o4))⟩
       ·cases h
      ·cases h
     ·cases h
    ·rename_i k off ls c1;split at h
     ·rename_i co hco;split at h
      ·rename_i H D M;have H:c1<ls+lx:=lZ6 H;have D:ls+lx<=1000000:=lZ6 D;obtain⟨rfl,rfl⟩:=Hz h;rw[Lu];obtain⟨sb,sd,hsR,hsv⟩:=Za hs;simp only[Yb]at hsv;obtain⟨l,hr,hn,a7⟩:=Bfh hco;refine⟨.add _ _,fun _=>Ats _,fun Y Z Z9 dd ty pos af g hm=>?_⟩;rw[exe,Ad];have T:=hm;obtain⟨L,G,hm⟩:=hm;have K:∃ovs:List Value,VR R co ovs/\ovs.length=ls*n/\∀Q:Array Value->Own->Prop,Q ovs.toArray Z->wpS P Y (Builtin.firstCells n ls sv) Z Q:=by
        obtain⟨b3,c3,ovs,j,w,q,C,_⟩:=hm.cells (P:=P) hr hn a7;rw[hsR]at j;cases j;exact⟨ovs,w,q,fun Q hq=>by rw[hsv];exact C Q hq⟩
       refine U Y Z Z9 ty (some ⟨sb,off,none⟩) ls c1 co T hsv D K _ (fun B=>absurd B (by omega)) fun _ r nc all rest j w q C=>?_;exact⟨R.add m.nx (r,nc),_,hm.fresh _,.inl rfl,.slU XR.add_same .nil,hm.add (.grow (j.mono (hm.fresh _)) q hn1 (Aog _))⟩
      ·cases h
     ·cases h
    ·cases h
   ·cases h
 ·cases h
theorem Ath{t u:TypeId}{n:Nat}{el:TypeId}{ik:IntKind}{ti:TypeInfo}{z:Value}{cz:List CV}{c:Call}(hc:c.callee = .builtin .append)(hts:c.argTypes = #[t,u])(hT:P.underlying t=some (.slice el))(hU:P.underlying u=some (.int ik))
  (hi:P.info? el=some ti) (hn:ti.size=n) (hn1:1<=n) (hb:ti.bytes<=4096) (hz:ti.zero=some z) (hzn:z.cells.size=n) (hcz:VR R cz z.cells.toList)
  {args:List CV} {vs:List Value} (hv:VR R args vs) (ha:c.args.map (Af e')=vs.toArray) (h:(appendZ n cz).run args m = .v x m'):Bfv P (.call c) R e' m x m':=by
 obtain⟨cl,az,ts⟩:=c;simp only at hc hts ha;subst hc hts;have exe:∀dd ty pos af g,execOp (Af e') ⟨dd,.call ⟨.builtin .append,az,#[t,u]⟩,ty,pos,af,g⟩=((Builtin.append_ #[t,u] ty vs.toArray).bind fun v=>Sem.pure (Next.value v)):=fun dd ty pos af g=>by
  obtain⟨cs,d⟩:=Wr (b:=.append) (az:=az) (ts:=#[t,u]) (dd:=dd) (ty:=ty) (pos:=pos) (af:=af) (g:=g) (Af e');rw[d,ha];rfl
 unfold appendZ at h;simp only at h;split at h
 ·rename_i k lx;split at h
  ·rename_i e f;have e:=lZ6 e;have f:=lZ6 f;obtain⟨rfl,rfl⟩:=Hz h;obtain⟨sv,xv,rfl⟩:∃sv xv,vs=[sv,xv]:=by
    have:=hv.len
    match vs,this with
    | [a,b],_=>exact⟨a,b,rfl⟩
   obtain⟨hs,hx'⟩:=VR.cons_iff.1 hv;have hxv:=Nz (VR.cons_iff.1 hx').1;have hsv:=Azc hs;subst hxv hsv;refine⟨.add _ _,fun _=>Ats _,fun Y Z Z9 dd ty pos af g hm=>?_⟩;obtain⟨L,G,hm⟩:=hm;rw[exe,Ad];rw[show [Value.slice none 0 0,Value.int k (Int.ofNat lx)].toArray = #[Value.slice none 0 0,Value.int k (Int.ofNat lx)] from rfl];unfold Builtin.append_;show wpS P Y ((underlying t).bind _) _ _;rw[Ad];refine Az hT ?_;show wpS P Y ((sizeOf el).bind _) _ _;rw[Ad];refine Dx ⟨ti,hi,hn⟩ ?_;show wpS P Y ((underlying u).bind _) _ _;rw[Ad];refine Az hU ?_;have hw:IntKind.i64.wrap (Int.ofNat lx)=(lx:Int):=Bo (z':=(lx:Int)) rfl (by omega) (by omega);show wpS P Y (if IntKind.i64.wrap (Int.ofNat lx)<0 then _ else (typeInfo el).bind _) _ _;rw[hw,if_neg (by omega),Ad];refine Gj hi ?_;have C:¬((lx:Int)*(ti.bytes:Int)>2^48):=by
    have q:lx*ti.bytes<=1000000*4096:=Ame f hb;have w:(lx:Int)*(ti.bytes:Int)=((lx*ti.bytes:Nat):Int):=by push_cast;rfl
    rw[w];omega
   show wpS P Y (if (lx:Int)*(ti.bytes:Int)>2^48 then _ else _) _ _;rw[if_neg C];simp only[Afr];show wpS P Y (if 0+lx<=0 then _ else (typeInfo el).bind _) _ _;rw[if_neg (by omega),Ad];refine Gj hi ?_;have y:¬(((0+lx:Nat):Int)>IntKind.i64.max/\(True∨ti.bytes=0)):=by
    intro⟨d,_⟩;have:IntKind.i64.max=9223372036854775807:=by simp[IntKind.max,IntKind.signed,IntKind.bits]
    omega
   rw[if_neg y];show wpS P Y ((typeInfo el).bind _) _ _;rw[Ad];refine Gj hi ?_;have B:¬(Builtin.nextslicecap (0+lx) 0*ti.bytes>2^48):=by
    have d:=Alk (need:=0+lx) (cap:=0) (by omega);have q:Builtin.nextslicecap (0+lx) 0*ti.bytes<=(2*(0+lx)+1000)*4096:=Ame d hb;omega
   show wpS P Y (if Builtin.nextslicecap (0+lx) 0*ti.bytes>2^48 then _ else (choose (.appendCap (0+lx) 0 el)).bind _) _ _;rw[if_neg B,Ad];show (if (Question.appendCap (0+lx) 0 el).forced then _ else ∀tt,_);rw[if_neg (by simp[Question.forced])];intro tt;have hnc:0+lx<=(Question.appendCap (0+lx) 0 el).cut tt:=by simp[Question.cut]
   generalize (Question.appendCap (0+lx) 0 el).cut tt=nc at hnc;show wpS P Y ((typeInfo el).bind _) _ _;rw[Ad];refine Gj hi ?_;show wpS P Y ((askRoom (nc*ti.bytes)).bind _) _ _;rw[Ad];have E:∀{Q:Unit->Own->Prop} {Z':Own},Q () Z'->wpS P Y (askRoom (nc*ti.bytes)) Z' Q:=fun hq=>by
    unfold askRoom;split
    ·exact⟨rfl,hq⟩
    ·exact hq
   refine E ?_;show wpS P Y ((Builtin.firstCells n 0 (.slice none 0 0)).bind _) _ _;have hf:∀Q:Array Value->Own->Prop,Q #[] Z->wpS P Y (Builtin.firstCells n 0 (.slice none 0 0)) Z Q:=fun Q hq=>hq;rw[Ad];refine hf _ ?_;have F:1<=lx*n:=Ame e hn1;simp only[Bool.not_true,Aii,if_false];rw[if_neg (by omega)];show wpS P Y (((zeroValue el).bind _).bind _) _ _;rw[Ad,Ad];refine Jz ⟨ti,hi,hz⟩ ?_;show wpS P Y ((zeroValue el).bind _) _ _;rw[Ad];refine Jz ⟨ti,hi,hz⟩ ?_;show wpS P Y ((newRow el (#[]++Builtin.zeroCells z.cells lx++Builtin.zeroCells z.cells (nc-(0+lx)))).bind _) _ _;rw[Ad];refine Ik fun r=>?_;have i:(#[]++Builtin.zeroCells z.cells lx++Builtin.zeroCells z.cells (nc-(0+lx)))=((List.replicate lx z.cells.toList).flatten++(Builtin.zeroCells z.cells (nc-(0+lx))).toList).toArray:=by
    apply Array.ext';simp only[Builtin.zeroCells,Array.toList_append,Abs,Bmt,Array.toList_range];rw[Aae z.cells z.cells.size rfl (by omega) lx]
   rw[i];have j:(Builtin.zeroCells z.cells (nc-(0+lx))).toList.length=(nc-(0+lx))*n:=by
    simp[Builtin.zeroCells,hzn]
   have D:=Aja R hcz lx;have p:((List.replicate lx z.cells.toList).flatten).length=lx*n:=by
    simp[hzn]
   refine⟨R.add m.nx (r,nc),_,hm.fresh _,.inl rfl,?_,hm.add (.grow (D.mono (hm.fresh _)) ?_ hn1 (Aog _))⟩
   ·rw[Te];exact .slU XR.add_same .nil
   ·rw[p,j,<-Xw];congr 1;omega
  ·cases h
 ·cases h
theorem Ati(c:Call)(b:Builtin)(hc:c.callee = .builtin b):Jc P (.call c):=fun R e e' m x m' he hg h=>by
 obtain⟨vs,hv,ha⟩:=Aeh (R:=R) he hg c.args;have a:(builtinK P b c.argTypes.toList).run ((rdsK c.args.toList).run e) m = .v x m':=by
  unfold opK at h;simp only[hc]at h;exact h
 generalize (rdsK c.args.toList).run e=args at a hv;have hts:c.argTypes=c.argTypes.toList.toArray:=by simp
 unfold builtinK at a;split at a
 ·split at a
  ·rename_i t hl;split at a
   ·rename_i el hT;have h':(match args with
     | [.sn]=>OR.v (.i .i64 0) m
     | [.sl _ _ n _ _]=>.v (.i .i64 (.ofNat n)) m
     | _=>.bad) = .v x m':=a
    split at h'
    ·obtain⟨rfl,rfl⟩:=Hz h';cases vs with
     | nil=>cases hv
     | cons w ws =>
      obtain⟨hw,hws⟩:=VR.cons_iff.1 hv;cases hws;have:=Azc hw;subst this;refine .inl ⟨rfl,Mw hc ha (.i _ _ .nil) fun ty cs Y Z=>?_⟩;rw[hts,hl];show wpS P Y ((Builtin.len_ #[t] ty #[.slice none 0 0]).bind fun v=>Sem.pure (Next.value v)) Z _;rw[Ad];show wpS P Y ((underlying t).bind _) Z _;rw[Ad];exact Az hT ⟨rfl,rfl⟩
    ·rename_i k off n kn c1;obtain⟨rfl,rfl⟩:=Hz h';cases vs with
     | nil=>cases hv
     | cons w ws =>
      obtain⟨hw,hws⟩:=VR.cons_iff.1 hv;cases hws;obtain⟨bl,d,_,hw⟩:=Za hw;subst hw;refine .inl ⟨rfl,Mw hc ha (.i _ _ .nil) fun ty cs Y Z=>?_⟩;rw[hts,hl];show wpS P Y ((Builtin.len_ #[t] ty #[.slice (some ⟨bl,off,none⟩) n _]).bind fun v=>Sem.pure (Next.value v)) Z _;rw[Ad];show wpS P Y ((underlying t).bind _) Z _;rw[Ad];exact Az hT ⟨rfl,rfl⟩
    ·cases h'
   ·rename_i hT;have h':(match args with|[.s z]=>OR.v (.i .i64 (.ofNat (xLen z))) m|_=>.bad) = .v x m':=a;split at h'
    ·rename_i z;obtain⟨rfl,rfl⟩:=Hz h';cases vs with
     | nil=>cases hv
     | cons w ws =>
      obtain⟨hw,hws⟩:=VR.cons_iff.1 hv;cases hws;have:=Yz hw;subst this;refine .inl ⟨rfl,Mw hc ha (.i _ _ .nil) fun ty cs Y Z=>?_⟩;rw[hts,hl];show wpS P Y ((Builtin.len_ #[t] ty #[.string ⟨z.toArray⟩]).bind fun v=>Sem.pure (Next.value v)) Z _;rw[Ad];show wpS P Y ((underlying t).bind _) Z _;rw[Ad];refine Az hT ⟨?_,rfl⟩;show Next.value (goInt ((z.toArray.size:Nat):Int))=_;rw[Ig,Aik];rfl
    ·cases h'
   ·cases a
  ·cases a
 ·have h':(match args with
   | [.i k p,.i k' q]=>match xKind k k' with|true=>OR.v (.i k (match xLtI q p with|true=>q|false=>p)) m|false=>.bad
   | _=>.bad) = .v x m':=a
  split at h'
  ·rename_i k p k' q;split at h'
   ·rename_i hk;have hk:=Mg hk;subst hk;obtain⟨rfl,rfl⟩:=Hz h'
    match vs,hv with
    | [w,w'],hv =>
     obtain⟨hw,hw'⟩:=VR.cons_iff.1 hv;have f:=Nz hw;have B:=Nz hw';subst f B;refine .inl ⟨rfl,Mw hc ha (.i _ _ .nil) fun ty cs Y Z=>?_⟩;show wpS P Y ((Builtin.min_ c.argTypes ty #[.int k p,.int k q]).bind fun v=>Sem.pure (Next.value v)) Z _;rw[Ad];have f:Builtin.min_ c.argTypes ty #[.int k p,.int k q]=pure (.int k (if q<p then q else p)):=by
      simp only[Builtin.min_,Aqd,List.foldlM_nil,Builtin.min2];rfl
     rw[f];refine⟨?_,rfl⟩;rw[Ajd];by_cases hlt:q<p
     ·rw[if_pos hlt,Qn hlt]
     ·rw[if_neg hlt,Px hlt]
   ·cases h'
  ·cases h'
 ·have h':(match args with
   | [.i k p,.i k' q]=>match xKind k k' with|true=>OR.v (.i k (match xLtI p q with|true=>q|false=>p)) m|false=>.bad
   | _=>.bad) = .v x m':=a
  split at h'
  ·rename_i k p k' q;split at h'
   ·rename_i hk;have hk:=Mg hk;subst hk;obtain⟨rfl,rfl⟩:=Hz h'
    match vs,hv with
    | [w,w'],hv =>
     obtain⟨hw,hw'⟩:=VR.cons_iff.1 hv;have f:=Nz hw;have B:=Nz hw';subst f B;refine .inl ⟨rfl,Mw hc ha (.i _ _ .nil) fun ty cs Y Z=>?_⟩;show wpS P Y ((Builtin.max_ c.argTypes ty #[.int k p,.int k q]).bind fun v=>Sem.pure (Next.value v)) Z _;rw[Ad];have f:Builtin.max_ c.argTypes ty #[.int k p,.int k q]=pure (.int k (if q>p then q else p)):=by
      simp only[Builtin.max_,Aqd,List.foldlM_nil,Builtin.max2];rfl
     rw[f];refine⟨?_,rfl⟩;rw[Ajd];by_cases hlt:p<q
     ·rw[if_pos hlt,Qn hlt]
     ·rw[if_neg hlt,Px hlt]
   ·cases h'
  ·cases h'
 ·split at a
  ·rename_i t u hl;split at a
   ·rename_i el el' hT hU;split at a
    ·rename_i ti zc hi hz;split at a
     ·rename_i q1 q2 g;obtain⟨G,F,j,y,C⟩:=Aey hz;rw[hi]at j;cases j;have g:=lZ8 g;exact .inr (Avy hc (by rw[hts,hl]) hT hU hi rfl (lZ6 q1) (lZ6 q2) y (by rw[C,g]) hv ha a)
     ·cases a
    ·cases a
   ·rename_i el ik hT hU;split at a
    ·rename_i ti zc v0 hi hz hz0;split at a
     ·rename_i c0 q1 q2 g q4;obtain⟨G,F,j,y,C⟩:=Aey hz;rw[hi]at j;cases j;obtain⟨w,⟨H,D,E⟩,rfl⟩:=Qu hz0;rw[hi]at D;cases D;rw[y]at E;cases E;have g:=lZ8 g;exact .inr (Ath hc (by rw[hts,hl]) hT hU hi rfl (lZ6 q1) (lZ6 q2) y (by rw[C,g]) ((vOf R F).cells q4) hv ha a)
     ·cases a
    ·cases a
   ·cases a
  ·cases a
 ·split at a
  ·rename_i t hl;split at a
   ·rename_i el hT;have h':(match args with
     | [.sn]=>OR.v (.i .i64 0) m
     | [.sl _ _ _ true c]=>.v (.i .i64 (.ofNat c)) m
     | _=>.bad) = .v x m':=a
    split at h'
    ·obtain⟨rfl,rfl⟩:=Hz h';cases vs with
     | nil=>cases hv
     | cons w ws =>
      obtain⟨hw,hws⟩:=VR.cons_iff.1 hv;cases hws;have:=Azc hw;subst this;refine .inl ⟨rfl,Mw hc ha (.i _ _ .nil) fun ty cs Y Z=>?_⟩;rw[hts,hl];show wpS P Y ((Builtin.cap_ #[t] ty #[.slice none 0 0]).bind fun v=>Sem.pure (Next.value v)) Z _;rw[Ad];show wpS P Y ((underlying t).bind _) Z _;rw[Ad];exact Az hT ⟨rfl,rfl⟩
    ·rename_i k off n c1;obtain⟨rfl,rfl⟩:=Hz h';cases vs with
     | nil=>cases hv
     | cons w ws =>
      obtain⟨hw,hws⟩:=VR.cons_iff.1 hv;cases hws;obtain⟨bl,d,_,hw⟩:=Za hw;subst hw;refine .inl ⟨rfl,Mw hc ha (.i _ _ .nil) fun ty cs Y Z=>?_⟩;rw[hts,hl];show wpS P Y ((Builtin.cap_ #[t] ty #[.slice (some ⟨bl,off,none⟩) n _]).bind fun v=>Sem.pure (Next.value v)) Z _;rw[Ad];show wpS P Y ((underlying t).bind _) Z _;rw[Ad];exact Az hT ⟨rfl,rfl⟩
    ·cases h'
   ·cases a
  ·cases a
 ·cases a
theorem Apa{t el:TypeId}{ln n:Nat}{ps:Array (Nat×Operand)}(hT:P.underlying t=some (.slice el))(hn:xSzT P el=some n):∃zs:List Value,∀(R:XR) e e' m x m',EnvR R e e'->Om R->(opK P (.buildSlice t ln ps)).run e m = .v x m' ->
  ∃c c2,x = .sl m.nx 0 ln true ln/\m'=m.add (.cells c)/\VR R c c2/\Instr.fill (fun i=>some (i*n,n)) zs.toArray (ps.toList.map fun p=>(p.1,Af e' p.2))=some c2.toArray /\
   ∀Y Z (Q:Next->Own->Prop) dd ty pos af g,(∀r,Q (.value (.slice (some ⟨r,0,none⟩) ln ln)) ((r,.obj (.cells c2.toArray el (0,0)))::Z))->wpS P Y (execOp (Af e') ⟨dd,.buildSlice t ln ps,ty,pos,af,g⟩) Z Q:=by
 by_cases hzz:∃z zc v,xZeroT P el=some z/\xZeroC P el=some zc/\(∃i,P.info? el=some i/\i.zero=some v)/\z=xOfV v
 ·obtain⟨z,zc,v,hz,hzc,⟨iv,q,u⟩,hzv⟩:=hzz;subst hzv;have C:v.cells.size=zc:=by
   obtain⟨G,H,a,b,f⟩:=Aey hzc;rw[q]at a;cases a;rw[u]at b;cases b;exact f
  refine⟨(List.replicate ln v.cells.toList).flatten,fun R e e' m x m' he hg h=>?_⟩;have exe:∀dd ty pos af g,execOp (Af e') ⟨dd,.buildSlice t ln ps,ty,pos,af,g⟩=(Instr.buildSlice t ln (ps.map fun (p:Nat×Operand)=>(p.1,Af e' p.2))).bind fun v=>Sem.pure (Next.value v):=fun _ _ _ _ _=>rfl;have k:(ps.map fun (p:Nat×Operand)=>(p.1,Af e' p.2)).toList=ps.toList.map fun p=>(p.1,Af e' p.2):=by simp
  unfold opK at h;simp only[hT,hn,hz,hzc]at h;split at h
  ·rename_i c hc y B j;have y:ln*n<=1000000:=lZ6 y;have B:1<=ln*n:=lZ6 B;have j:=lZ8 j;have h':(match (fillK (fun i=>some (Nat.mul i n,n)) ps.toList).run (xRepL c ln) e with
    | some l=>OR.v (.sl m.nx 0 ln true ln) (m.add (.cells l))
    | none=>.bad) = .v x m':=h
   split at h'
   ·rename_i l hf;obtain⟨rfl,rfl⟩:=Hz h';have E:0<n:=by
     rcases Nat.eq_zero_or_pos n with h0|h0
     ·subst h0;omega
     ·exact h0
    have F:=Aja R ((vOf R v).cells hc) ln;obtain⟨c2,w,D⟩:=Adf he hg (place:=fun i=>some (i*n,n)) (fun i o z h=>h) ps.toList (xRepL c ln) l _ hf F;refine⟨l,c2,rfl,rfl,D,w,fun Y Z Q dd ty pos af g hq=>?_⟩;rw[exe,Ad];unfold Instr.buildSlice;show wpS P Y ((underlying t).bind _) Z _;rw[Ad];refine Az hT ?_;show wpS P Y ((sizeOf el).bind _) Z _;rw[Ad];refine Dx (Ny hn) ?_;dsimp only;rw[if_neg (by omega),if_neg (by omega)];show wpS P Y ((zeroValue el).bind _) Z _;rw[Ad];refine Jz ⟨_,q,u⟩ ?_;have d:((Array.range (ln*n)).map fun i=>v.cells[i%v.cells.size]!)=((List.replicate ln v.cells.toList).flatten).toArray:=by
     rw[<-Aae v.cells n (by rw[C,j]) E ln];apply Array.ext';simp
    simp only[pure_bind,k,d,w];show wpS P Y ((newRow el c2.toArray).bind _) Z _;rw[Ad];exact Ik fun r=>hq r
   ·cases h'
  ·split at h
   ·have hps:ps.toList=[]:=by assumption
    obtain⟨rfl,rfl⟩:=Hz h;refine⟨[],[],rfl,rfl,.nil,by rw[hps];rfl,fun Y Z Q dd ty pos af g hq=>?_⟩;rw[exe,Ad];unfold Instr.buildSlice;show wpS P Y ((underlying t).bind _) Z _;rw[Ad];refine Az hT ?_;show wpS P Y ((sizeOf el).bind _) Z _;rw[Ad];refine Dx (Ny hn) ?_;dsimp only;rw[Awz,if_neg (by omega),if_pos rfl];have d:Instr.fill (fun i=>some (i*n,n)) (Array.map (fun x=>(#[]:Array Value)[x%(#[]:Array Value).size]!) (Array.range 0)) []=some #[]:=by simp[Instr.fill]
    simp only[pure_bind,k,hps,List.map_nil,d];show wpS P Y ((newRow el #[]).bind _) Z _;rw[Ad];exact Ik fun r=>hq r
   ·cases h
 ·refine⟨[],fun R e e' m x m' he hg h=>?_⟩;exfalso;unfold opK at h;simp only[hT,hn]at h;split at h
  ·rename_i n' z zc _ hz hzc;obtain⟨v,⟨i,a,b⟩,f⟩:=Qu hz;exact hzz ⟨z,zc,v,hz,hzc,⟨i,a,b⟩,f⟩
  ·cases h
theorem Aie(t:TypeId)(ln:Nat)(ps:Array (Nat×Operand)):Jc P (.buildSlice t ln ps):=fun R e e' m x m' he hg h=>by
 have hk:∃el n,P.underlying t=some (.slice el)/\xSzT P el=some n:=by
  have a:=h;unfold opK at a;simp only at a;split at a
  ·rename_i el hT;split at a
   ·rename_i n _ _ hn _ _;exact⟨el,n,hT,hn⟩
   ·cases a
  ·cases a
 obtain⟨el,n,hT,hn⟩:=hk;obtain⟨zs,hzs⟩:=Apa (ln:=ln) (ps:=ps) hT hn;obtain⟨c,f,rfl,rfl,b,_,d⟩:=hzs R e e' m x m' he hg h;refine .inr ⟨.add _ _,fun _=>Ats _,fun Y Z Z9 dd ty pos af g hm=>?_⟩;obtain⟨L,G,hm⟩:=hm;refine d Y Z _ dd ty pos af g fun r=>?_;exact⟨R.add m.nx (r,0),_,hm.fresh _,.inl rfl,.slK XR.add_same .nil,hm.add (.cells (b.mono (hm.fresh _)) (Aog _))⟩
theorem Alg(t:TypeId)(a b:Operand):Jc P (.makeSlice t a b):=fun R e e' m x m' he hg h=>by
 have ha:=Ee he hg a;have hb:=Ee he hg b;unfold opK at h;simp only at h;split at h
 ·rename_i el hT;split at h
  ·rename_i n z zc ti hn hz hzc hi;split at h
   ·rename_i c hc d g j;have d:1<=n:=lZ6 d;have g:=lZ8 g;have j:=lZ6 j;have h':(match (rdK a).run e,(rdK b).run e with
     | .i _ (.ofNat ln),.i _ (.ofNat cp)=>match Nat.beq ln cp,Nat.ble 1 ln,Nat.ble (Nat.mul ln n) 1000000 with
      | true,true,true=>OR.v (.sl m.nx 0 ln true ln) (m.add (.cells (xRepL c ln)))
      | _,_,_=>.bad
     | _,_=>.bad) = .v x m':=h
    split at h'
    ·rename_i k1 ln k2 cp hu hz';split at h'
     ·rename_i k p q;have k:=lZ8 k;have p:=lZ6 p;have q:ln*n<=1000000:=lZ6 q;subst k;have hln:ln<=1000000:=To (Nat.le_mul_of_pos_right _ d) q;obtain⟨rfl,rfl⟩:=Hz h';rw[hu]at ha;rw[hz']at hb;obtain⟨v,hv,rfl⟩:=Qu hz;obtain⟨L,N,f,u,E⟩:=Aey hzc;obtain⟨M,w,y⟩:=hv;rw[f]at w;cases w;rw[u]at y;cases y;rw[hi]at f;cases f;have hvc:=(vOf R v).cells hc;have G:=Aja R hvc ln;refine .inr (Arr (vs:=(List.replicate ln v.cells.toList).flatten) (el:=el) (Instr.makeSlice t (Af e' a) (Af e' b)) (fun r=>.slice (some ⟨r,0,none⟩) ln ln) (fun _ _ _ _ _=>rfl) (fun Y Z Q hq=>?_) G fun R' r hr=>.slK hr .nil);rw[Nz ha,Nz hb];unfold Instr.makeSlice;show wpS P Y ((underlying t).bind _) Z _;rw[Ad];refine Az hT ?_;show wpS P Y ((typeInfo el).bind _) Z _;rw[Ad];refine Gj hi ?_;have hw:IntKind.i64.wrap (Int.ofNat ln)=(ln:Int):=Bo (z':=(ln:Int)) rfl (by omega) (by omega);have J:((ti.bytes:Int)*(ln:Int))<=4096*1000000:=by
       have I:ti.bytes*ln<=4096*1000000:=Ame j hln;have F:(ti.bytes:Int)*(ln:Int)=((ti.bytes*ln:Nat):Int):=by push_cast;rfl
       rw[F];omega
      dsimp only;rw[hw];have B:((decide ((ln:Int)<0)||decide ((ti.bytes:Int)*(ln:Int)>2^48))||decide ((ln:Int)<0)||decide ((ln:Int)>(ln:Int)))=false:=by
       simp only[Awl,decide_eq_false_iff_not];refine⟨⟨⟨by omega,by omega⟩,by omega⟩,by omega⟩
      rw[B];simp only[Aii,if_false];show wpS P Y ((askRoom (ln*ti.bytes)).bind _) _ _;rw[Ad];have H:∀{Q:Unit->Own->Prop} {Z':Own},Q () Z'->wpS P Y (askRoom (ln*ti.bytes)) Z' Q:=fun hq=>by
       unfold askRoom;split
       ·exact⟨rfl,hq⟩
       ·exact hq
      refine H ?_;show wpS P Y ((sizeOf el).bind _) Z _;rw[Ad];refine Dx (Ny hn) ?_;have K:1<=ln*n:=Ame p d;have C:¬((ln:Int).toNat*n=0):=by simp only[Afr];omega
      rw[if_neg C];show wpS P Y ((zeroValue el).bind _) Z _;rw[Ad];refine Jz ⟨_,hi,u⟩ ?_;have D:((Array.range ((ln:Int).toNat*n)).map fun i=>v.cells[i%v.cells.size]!)=((List.replicate ln v.cells.toList).flatten).toArray:=by
       rw[<-Aae v.cells n (by rw[E,g]) d ln];apply Array.ext';simp
      show wpS P Y ((newRow el ((Array.range ((ln:Int).toNat*n)).map fun i=>v.cells[i%v.cells.size]!)).bind _) Z _;rw[D,Ad];refine Ik fun r=>?_;simp only[Afr];exact hq r
     ·cases h'
    ·cases h'
   ·cases h
  ·cases h
 ·cases h
end
end
section
section
variable{P:Program}{R:XR}{e:Tr CV}{e':Env}{m m':Mem}{x:CV}{Y:Ro}{Z Z9:Own}{L:List (Nat×Nat×Res)}{G:Own}{t:TypeId}{mk:MK}
theorem Abk{k:CV}:∀{es:List (CV×CV)} {r:Option CV},findX mk k es=some r->(r=none/\∀p∈es,eqM mk k p.1=some false)∨∃j p,r=some p.2/\es[j]?=some p/\eqM mk k p.1=some true/\∀(i:Nat) q,i<j->es[i]?=some q->eqM mk k q.1=some false
 | [],r,h=>by cases h;exact .inl ⟨rfl,fun p hp=>by cases hp⟩
 | (a,v)::es,r,h=>by
  have h':(match eqM mk k a with|some true=>some (some v)|some false=>findX mk k es|none=>none)=some r:=h;split at h'
  ·rename_i ha;cases h';exact .inr ⟨0,(a,v),rfl,rfl,ha,fun i q hi=>absurd hi (Td _)⟩
  ·rename_i ha;rcases Abk h' with⟨b,c⟩|⟨j,p,b,c,d,e⟩
   ·refine .inl ⟨b,fun p hp=>?_⟩;rcases lZ7.1 hp with rfl|hp
    ·exact ha
    ·exact c p hp
   ·refine .inr ⟨j+1,p,b,by simpa using c,d,fun i q hi hq=>?_⟩;cases i with
    | zero=>cases hq;exact ha
    | succ i=>exact e i q (by omega) (by simpa using hq)
  ·cases h'
theorem Aqw{k v:CV}:∀{es r:List (CV×CV)},putX mk k v es=some r->(r=es++[(k,v)]/\∀p∈es,eqM mk k p.1=some false)∨∃j p,r=es.set j (k,v)/\es[j]?=some p/\eqM mk k p.1=some true/\∀(i:Nat) q,i<j->es[i]?=some q->eqM mk k q.1=some false
 | [],r,h=>by cases h;exact .inl ⟨rfl,fun p hp=>by cases hp⟩
 | (a,w)::es,r,h=>by
  have h':(match eqM mk k a with
   | some true=>some ((k,v)::es)
   | some false=>match putX mk k v es with|some r=>some ((a,w)::r)|none=>none
   | none=>none)=some r:=h
  split at h'
  ·rename_i ha;cases h';exact .inr ⟨0,(a,w),rfl,rfl,ha,fun i q hi=>absurd hi (Td _)⟩
  ·rename_i ha;cases hp:putX mk k v es with
   | none=>rw[hp]at h';cases h'
   | some r' =>
    rw[hp]at h';cases h';rcases Aqw hp with⟨b,c⟩|⟨j,p,b,c,d,e⟩
    ·refine .inl ⟨by rw[b];rfl,fun p hp=>?_⟩;rcases lZ7.1 hp with rfl|hp
     ·exact ha
     ·exact c p hp
    ·refine .inr ⟨j+1,p,by rw[b];rfl,by simpa using c,d,fun i q hi hq=>?_⟩;cases i with
     | zero=>cases hq;exact ha
     | succ i=>exact e i q (by omega) (by simpa using hq)
  ·cases h'
theorem Avu:∀{ks:List IntKind} {a b:List CV},eqF ks a b=some true->a=b
 | [],a,b,h=>by
  replace h:eqF0 a b=some true:=h;unfold eqF0 at h;split at h
  ·rfl
  ·cases h
 | k::ks,a,b,h=>by
  obtain⟨p,x,q,y,r',rfl,rfl,d,c⟩:=Aku h;have c:=c.symm;rw[Oc]at c;rw[c.2]at d;rw[Avu d,eq_of_beq c.1]
theorem Aph:∀{ks:List IntKind} {a b:List CV} {r:Bool} {v w:List Value},eqF ks a b=some r->VR R a v->VR R a w->v=w
 | [],a,b,r,v,w,h,h1,h2=>by
  replace h:eqF0 a b=some r:=h;unfold eqF0 at h;split at h
  ·cases h1;cases h2;rfl
  ·cases h
 | k::ks,a,b,r,v,w,h,h1,h2=>by
  obtain⟨p,x,q,y,r',rfl,rfl,g,i⟩:=Aku h
  match v,w,h1,h2 with
  | v0::v,w0::w,h1,h2 =>
   obtain⟨c,d⟩:=VR.cons_iff.1 h1;obtain⟨e,f⟩:=VR.cons_iff.1 h2;rw[Nz c,Nz e,Aph g d f]
theorem Bsf{s a b}(h:eqM .str (.s s) a=some b):∃q,a = .s q/\xEqS s q=b:=by cases a<;>first|exact⟨_,rfl,Option.some.inj h⟩|cases h
theorem Bkt{ks a c b}(h:eqM (.flat ks) (.g a) c=some b):∃q,c = .g q/\eqF ks a q=some b:=by cases c<;>first|exact⟨_,rfl,h⟩|cases h
theorem Bku{k a v w}(h:eqM mk k a=some true)(hv:V1 R k v)(hw:V1 R a w):w=v:=by
 unfold eqM at h;split at h
 ·rename_i p q;rw[Xj]at h;have:p=q:=by simpa using h
  subst this;rw[Yz hv,Yz hw]
 ·rename_i ks p q;have:=Avu h;subst this;obtain⟨v',d,e⟩:=Aem hv;obtain⟨w',f,g⟩:=Aem hw;rw[e,g,Aph h d f]
 ·split at h
  ·rename_i b c;have b:=Mg b;have c:=Mg c;rw[Aao]at h;have:=eq_of_beq (Option.some.inj h);rw[Nz hv,Nz hw,<-b,<-c,this]
  ·cases h
 ·cases h
theorem Bse{k k1:IntKind}{n:Int}{a:CV}{b:Bool}(h:eqM (.int k) (.i k1 n) a=some b):∃q,k1=k/\a = .i k q/\(n==q)=b:=by
 cases a with
 | i k2 q =>
  have h':(match xKind k k1,xKind k k2 with|true,true=>some (xEqI n q)|_,_=>none)=some b:=h;split at h'
  ·rename_i q1 q2;rw[Aao]at h';rw[<-Mg q2];exact⟨q,(Mg q1).symm,rfl,Option.some.inj h'⟩
  ·cases h'
 | _=>cases h
theorem Afn{k:CV}(h:keyOk .str k=true):∃s,k = .s s:=by
 cases k with
 | s s=>exact⟨s,rfl⟩
 | _=>cases h
theorem Afm{kk:IntKind}{k:CV}(h:keyOk (.int kk) k=true):∃n,k = .i kk n:=by
 cases k with
 | i k1 n =>
  have h':xKind kk k1=true:=h;rw[<-Mg h'];exact⟨n,rfl⟩
 | _=>cases h
theorem Abl{ks:List IntKind}{k:CV}(h:keyOk (.flat ks) k=true):∃a,k = .g a/\(eqF ks a a).isSome=true:=by
 cases k with
 | g a=>exact⟨a,rfl,h⟩
 | _=>cases h
def Before(mk:MK)(k:CV)(es:List (CV×CV))(j:Nat):Prop:=∀(i:Nat) q,i<j->es[i]?=some q->eqM mk k q.1=some false
theorem Arh{kd:TypeDesc}{k:CV}{kv:Value}(hstep:∀{a:CV} {w:Value} {b:Bool},V1 R a w->eqM mk k a=some b->Instr.sameNow kd kv w=some b):∀(es:List (CV×CV)) (en:List MapEntry) (i:Nat),VR R (es.map Prod.fst) (en.map MapEntry.key) ->
  ((∀p∈es,eqM mk k p.1=some false)->Instr.findNow kd kv en i=some none) /\
  (∀j p,es[j]?=some p->eqM mk k p.1=some true->Before mk k es j->∃e,en[j]?=some e/\Instr.findNow kd kv en i=some (some (i+j,e.val)))
 | [],[],i,_=>⟨fun _=>rfl,fun j p h=>by cases h⟩
 | (a,v)::es,e::en,i,h=>by
  rw[Je,Je]at h;obtain⟨h1,h2⟩:=VR.cons_iff.1 h;obtain⟨m,n⟩:=Arh hstep es en (i+1) h2;refine⟨fun c=>?_,fun j p hj ht hb=>?_⟩
  ·simp only[Instr.findNow,hstep h1 (c (a,v) mC)];exact m fun p hp=>c p (lZ0 _ hp)
  ·cases j with
   | zero =>
    cases hj;exact⟨e,rfl,by simp only[Instr.findNow,hstep h1 ht,Abw]⟩
   | succ j =>
    obtain⟨d,f,g⟩:=n j p (by simpa using hj) ht fun i' q hi hq=>hb (i'+1) q (by omega) (by simpa using hq);refine⟨d,by simpa using f,?_⟩;simp only[Instr.findNow,hstep h1 (hb 0 (a,v) (by omega) rfl)];rw[g];congr 3;omega
 | [],_::_,_,h=>absurd h.len (by simp)
 | _::_,[],_,h=>absurd h.len (by simp)
theorem Bpr{s:List UInt8}{a:CV}{w:Value}{b:Bool}(h1:V1 R a w)(hb:eqM .str (.s s) a=some b):Instr.sameNow .string (.string ⟨s.toArray⟩) w=some b:=by obtain⟨q,rfl,hq⟩:=Bsf hb;rw[Yz h1];simp only[Instr.sameNow];rw[Aec,ByteArray.toList_eq,ByteArray.toList_eq];rw[Xj]at hq;simpa using hq
theorem Bpq{k:IntKind}{n:Int}{a:CV}{w:Value}{b:Bool}(h1:V1 R a w)(hb:eqM (.int k) (.i k n) a=some b):Instr.sameNow (.int k) (.int k n) w=some b:=by obtain⟨q,_,rfl,hq⟩:=Bse hb;rw[Nz h1];simp only[Instr.sameNow,if_true,hq]
theorem Azh{kt:TypeId}{ks:List IntKind}(hf:flatT P kt=some ks){a:List CV}{av:List Value}(hav:VR R a av):∀(es:List (CV×CV)) (en:List MapEntry) (i:Nat) (Q:Option (Nat×Value)->Own->Prop),VR R (es.map Prod.fst) (en.map MapEntry.key) ->
  ((∀p∈es,eqM (.flat ks) (.g a) p.1=some false)->Q none Z->wpS P Y (Instr.findAsking kt (.agg av.toArray) en i) Z Q) /\
  (∀j p,es[j]?=some p->eqM (.flat ks) (.g a) p.1=some true->Before (.flat ks) (.g a) es j->∃e,en[j]?=some e/\(Q (some (i+j,e.val)) Z->wpS P Y (Instr.findAsking kt (.agg av.toArray) en i) Z Q))
 | [],[],i,Q,_=>⟨fun _ hq=>hq,fun j p h=>by cases h⟩
 | (b,v)::es,e::en,i,Q,h=>by
  rw[Je,Je]at h;obtain⟨h1,h2⟩:=VR.cons_iff.1 h;obtain⟨w,x⟩:=Azh hf hav es en (i+1) Q h2;obtain⟨fs,n,t,B,u⟩:=Adl hf;have c:∀{r:Bool},eqM (.flat ks) (.g a) b=some r->∀{Q':Bool->Own->Prop},Q' r Z->wpS P Y (Op.equal kt (.agg av.toArray) e.key) Z Q':=fun {r} hb {Q'} hq=>by
   obtain⟨q,rfl,hb⟩:=Bkt hb;obtain⟨bv,o1,f⟩:=Aem h1;rw[f];obtain⟨ps,qs,y,z⟩:=Akv fs.toList 0 ks a q av bv r u hb hav o1;refine Ms (d:=9998) (fs:=fs.toList) (by rw[Ads];exact n) t y ?_;rw[<-z];exact hq
  refine⟨fun k hq=>?_,fun j p hj ht hb=>?_⟩
  ·show wpS P Y ((Op.equal kt (.agg av.toArray) e.key).bind _) Z Q;rw[Ad];refine c (k (b,v) mC) ?_;exact w (fun p hp=>k p (lZ0 _ hp)) hq
  ·cases j with
   | zero =>
    cases hj;refine⟨e,rfl,fun hq=>?_⟩;show wpS P Y ((Op.equal kt (.agg av.toArray) e.key).bind _) Z Q;rw[Ad];exact c ht hq
   | succ j =>
    obtain⟨m,o1,f⟩:=x j p (by simpa using hj) ht fun i' q hi hq=>hb (i'+1) q (by omega) (by simpa using hq);refine⟨m,by simpa using o1,fun hq=>?_⟩;show wpS P Y ((Op.equal kt (.agg av.toArray) e.key).bind _) Z Q;rw[Ad];refine c (hb 0 (b,v) (by omega) rfl) ?_;refine f ?_;rw[show i+1+j=i+(j+1) by omega];exact hq
 | [],_::_,_,_,h=>absurd h.len (by simp)
 | _::_,[],_,_,h=>absurd h.len (by simp)
theorem Amk{kt}(h:mapKind P kt=some mk):(P.underlying kt=some .string/\mk = .str)∨(∃k,P.underlying kt=some (.int k)/\mk = .int k)∨∃ks,flatT P kt=some ks/\mk = .flat ks:=by
 unfold mapKind at h;split at h
 ·rename_i hk;cases h;exact .inl ⟨hk,rfl⟩
 ·rename_i k hk;cases h;exact .inr (.inl ⟨k,hk,rfl⟩)
 ·split at h
  ·rename_i ks hf;cases h;exact .inr (.inr ⟨ks,hf,rfl⟩)
  ·cases h
 ·cases h
theorem Aen{kt}(hk:mapKind P kt=some mk){k kv}(hkv:V1 R k kv)(hok:keyOk mk k=true){es en}(hes:VR R (es.map Prod.fst) (en.map MapEntry.key))(Q:Option (Nat×Value)->Own->Prop):
  ((∀p∈es,eqM mk k p.1=some false)->Q none Z->wpS P Y (Instr.findKey kt kv en) Z Q) /\
  (∀j p,es[j]?=some p->eqM mk k p.1=some true->Before mk k es j->∃e,en[j]?=some e/\(Q (some (j,e.val)) Z->wpS P Y (Instr.findKey kt kv en) Z Q)):=by
 have now:∀{kd:TypeDesc},P.underlying kt=some kd->(∀{a:CV} {w:Value} {b:Bool},V1 R a w->eqM mk k a=some b->Instr.sameNow kd kv w=some b) ->
   ((∀p∈es,eqM mk k p.1=some false)->Q none Z->wpS P Y (Instr.findKey kt kv en) Z Q) /\
   (∀j p,es[j]?=some p->eqM mk k p.1=some true->Before mk k es j->∃e,en[j]?=some e/\(Q (some (j,e.val)) Z->wpS P Y (Instr.findKey kt kv en) Z Q)):=fun {kd} c hstep=>by
  obtain⟨g,h⟩:=Arh hstep es en 0 hes;refine⟨fun i hq=>?_,fun j p hj ht hb=>?_⟩
  ·show wpS P Y ((underlying kt).bind _) Z Q;rw[Ad];refine Az c ?_;simp only[g i];exact hq
  ·obtain⟨f,o1,t⟩:=h j p hj ht hb;refine⟨f,o1,fun hq=>?_⟩;show wpS P Y ((underlying kt).bind _) Z Q;rw[Ad];refine Az c ?_;simp only[t,Te];exact hq
 rcases Amk hk with⟨c,rfl⟩|⟨kk,c,rfl⟩|⟨ks,c,rfl⟩
 ·obtain⟨s,rfl⟩:=Afn hok;have:=Yz hkv;subst this;exact now c Bpr
 ·obtain⟨n,rfl⟩:=Afm hok;have:=Nz hkv;subst this;exact now c Bpq
 ·obtain⟨a,rfl,hok⟩:=Abl hok;obtain⟨av,o1,rfl⟩:=Aem hkv;obtain⟨g,h⟩:=Azh (Y:=Y) (Z:=Z) c o1 es en 0 Q hes;obtain⟨fs,q,_⟩:=Adl c;have hne:∀d l,Instr.findNow (.struct fs) (.agg av.toArray) (d::l) 0=none:=fun d l=>rfl;have m:wpS P Y (Instr.findAsking kt (.agg av.toArray) en 0) Z Q->wpS P Y (Instr.findKey kt (.agg av.toArray) en) Z Q:=fun hq=>by
   show wpS P Y ((underlying kt).bind _) Z Q;rw[Ad];refine Az q ?_;cases en with
   | nil=>exact hq
   | cons d l=>simp only[hne];exact hq
  refine⟨fun i hq=>m (g i hq),fun j p hj ht hb=>?_⟩;obtain⟨f,u,v⟩:=h j p hj ht hb;refine⟨f,u,fun hq=>m (v (by rw[Te];exact hq))⟩
theorem Aba{xs ys:Array Value}{d:Nat}{em:Bool}{K:PUnit->Own->Prop}:∀(fs:List Field) (ps qs:List Int),EqF P xs ys fs ps qs->K PUnit.unit Z ->
  wpS P Y (forIn fs PUnit.unit fun (f:Field) (_:PUnit) =>
   if f.name ≠ "_" then do
    Instr.checkKey em (d+1) f.type (<-part f.type xs f.offset)
    pure (ForInStep.yield PUnit.unit)
   else pure (ForInStep.yield PUnit.unit)) Z K
 | [],[],[],_,h=>h
 | f::fs,p::ps,q::qs,⟨⟨hn,k,hT,hx,hy⟩,hr⟩,h=>by
  rw[Beb];show wpS P Y (Sem.bind _ _) Z K;rw[Ad,if_pos hn];show wpS P Y ((part f.type xs f.offset).bind _) Z _;rw[Ad];refine Qr ⟨_,hT,rfl⟩ hx ?_;show wpS P Y (Sem.bind (Instr.checkKey em (d+1) f.type (.int k p)) _) Z _;rw[Ad];show wpS P Y ((underlying f.type).bind _) Z _;rw[Ad];refine Az hT ?_;exact Aba fs ps qs hr h
 | [],[],_::_,h,_=>h.elim
 | [],_::_,_,h,_=>h.elim
 | _::_,[],_,h,_=>h.elim
 | _::_,_::_,[],h,_=>h.elim
theorem Arg{kt}(hk:mapKind P kt=some mk){k kv}(hkv:V1 R k kv)(hok:keyOk mk k=true){em Q}(h:Q () Z):wpS P Y (Instr.checkKey em 10000 kt kv) Z Q:=by
 rcases Amk hk with⟨b,rfl⟩|⟨kk,b,rfl⟩|⟨ks,b,rfl⟩
 ·obtain⟨s,rfl⟩:=Afn hok;have:=Yz hkv;subst this;exact Qo (m:=9999) b h
 ·obtain⟨n,rfl⟩:=Afm hok;have:=Nz hkv;subst this;show wpS P Y ((underlying kt).bind _) Z Q;rw[Ad];exact Az b h
 ·obtain⟨a,rfl,hok⟩:=Abl hok;obtain⟨av,o1,rfl⟩:=Aem hkv;obtain⟨fs,e,i,j,f⟩:=Adl b;obtain⟨r,hr⟩:=Bbf.1 hok;obtain⟨ps,qs,g,p⟩:=Akv fs.toList 0 ks a a av av r f hr o1 o1;show wpS P Y ((underlying kt).bind _) Z Q;rw[Ad];refine Az e ?_;have c:fs=fs.toList.toArray:=by simp
  rw[c];simp only[Bdt];show wpS P Y (Sem.bind (forIn fs.toList _ _) _) Z Q;rw[Ad];exact Aba (d:=9998) fs.toList ps qs g h
end
end
section
section
variable{P:Program}{R:XR}{e:Tr CV}{e':Env}{m m':Mem}{x:CV}{Y:Ro}{Z:Own}
theorem Akw{fn:Func}(h:fn.name = "internal/bytealg.IndexByteString"):Extern.find fn=some Extern.BytealgIndexByte.indexByte:=by
 have a:(Extern.allGenericRows.lookup "internal/bytealg.IndexByteString").isNone=true:=by kernel_rfl
 have b:(Extern.allTypedRows.lookup "internal/bytealg.IndexByteString").isNone=true:=by kernel_rfl
 have c:Extern.allRows.lookup "internal/bytealg.IndexByteString" = some Extern.BytealgIndexByte.indexByte:=by kernel_rfl
 rw[Option.isNone_iff_eq_none]at a b;unfold Extern.find;simp only[h,a,b,c];rfl
theorem Baj{fn:Func}(h:fn.name = "internal/bytealg.CountString"):Extern.find fn=some Extern.BytealgCount.count:=by
 have a:(Extern.allGenericRows.lookup "internal/bytealg.CountString").isNone=true:=by kernel_rfl
 have b:(Extern.allTypedRows.lookup "internal/bytealg.CountString").isNone=true:=by kernel_rfl
 have c:Extern.allRows.lookup "internal/bytealg.CountString" = some Extern.BytealgCount.count:=by kernel_rfl
 rw[Option.isNone_iff_eq_none]at a b;unfold Extern.find;simp only[h,a,b,c];rfl
theorem Bwp{g:Nat}{ex:EX}(h:xExt P g=some ex):∃fn,P.funcs[g]?=some fn/\(fn.name == "runtime.NumGoroutine")=false/\fn.body.isNone=true/\Extern.findNext fn=none/\xExtN fn.name=some ex:=by
 unfold xExt at h;split at h
 ·rename_i fn hf;split at h
  ·cases h
  ·rename_i hb;split at h
   ·rename_i hn hx;exact⟨fn,hf,hn,hb,by simpa using hx,h⟩
   ·cases h
 ·cases h
theorem Bdi{c:UInt8}:∀(l pre:List UInt8),xIdxB c.toNat l pre.length=(List.range' pre.length l.length).find? fun i=>(pre++l)[i]! == c
 | [],pre=>rfl
 | a::l,pre=>by
  have e1:xIdxB c.toNat (a::l) pre.length=(match Nat.beq a.toNat c.toNat with|true=>some pre.length|false=>xIdxB c.toNat l (pre.length+1)):=rfl;have b:(pre++a::l)[pre.length]! = a:=by simp
  rw[e1,lZ9,Abo,List.find?_cons,b];by_cases h:a=c
  ·subst h;have:Nat.beq a.toNat a.toNat=true:=by simp
   rw[this];simp
  ·have d:Nat.beq a.toNat c.toNat=false:=by
    cases hx:Nat.beq a.toNat c.toNat with
    | false=>rfl
    | true=>exact absurd (UInt8.toNat_inj.1 (lZ8 hx)) h
   have e:(a==c)=false:=by simpa using h
   rw[d,e];have:=Bdi (c:=c) l (pre++[a]);rw[lZ3,Vy,Gv]at this;exact this
theorem Asr{c:UInt8}:∀(l:List UInt8) (n:Int),l.foldl (fun n x=>if x==c then n+1 else n) n=n+(xCntB c.toNat l:Nat)
 | [],n=>(Beg n).symm
 | a::l,n=>by
  have e1:xCntB c.toNat (a::l)=(match Nat.beq a.toNat c.toNat with|true=>Nat.succ (xCntB c.toNat l)|false=>xCntB c.toNat l):=rfl;rw[Axe,e1];by_cases h:a=c
  ·subst h;have:Nat.beq a.toNat a.toNat=true:=by simp
   rw[this,Asr l];simp only[beq_self_eq_true,if_true];show n+1+_=n+((xCntB a.toNat l+1:Nat):Int);omega
  ·have b:Nat.beq a.toNat c.toNat=false:=by
    cases hx:Nat.beq a.toNat c.toNat with
    | false=>rfl
    | true=>exact absurd (UInt8.toNat_inj.1 (lZ8 hx)) h
   have d:(a==c)=false:=by simpa using h
   rw[b,d,Asr l];simp
theorem Ala{β:Type}(l:List UInt8)(f:β->UInt8->β)(h:l.length<=(⟨l.toArray⟩:ByteArray).size):∀(i j:Nat) (z:β),i+j=l.length->@ByteArray.foldlM.loop β _root_.Id _ (fun b a=>f b a) (⟨l.toArray⟩:ByteArray) l.length h i j z=(l.drop j).foldl f z
 | 0,j,z,hij=>by
  unfold ByteArray.foldlM.loop;rw[dif_neg (by omega),Awi (by omega)];rfl
 | i+1,j,z,hij=>by
  have hj:j<l.length:=by omega
  unfold ByteArray.foldlM.loop;rw[dif_pos hj,Aol hj,Axe];exact Ala l f h i (j+1) _ (by omega)
theorem Bzy{β:Type}(l:List UInt8)(f:β->UInt8->β)(z:β):(⟨l.toArray⟩:ByteArray).foldl f z=l.foldl f z:=by have:=Ala l f (Ii _) l.length 0 z (by omega);rw[Amc]at this;rw[<-this];unfold ByteArray.foldl ByteArray.foldlM;rw[dif_pos (Ii _)];rfl
theorem Bdd{n:String}{ex:EX}(h:xExtN n=some ex):(n = "internal/bytealg.IndexByteString"/\ex = .indexByte)∨(n = "internal/bytealg.CountString"/\ex = .count):=by
 unfold xExtN at h;split at h
 ·rename_i hn;cases h;exact .inl ⟨by simpa using hn,rfl⟩
 ·split at h
  ·rename_i hn;cases h;exact .inr ⟨by simpa using hn,rfl⟩
  ·cases h
theorem Bsi{fn:Func}{ex:EX}{args:List CV}{vs:List Value}{v:CV}(hx:xExtN fn.name=some ex)(hv:xExtV ex args=some v)(h:VR R args vs) :
  ∃w G,Extern.find fn=some G/\V1 R v w/\∀Y Z,wpS P Y (G vs.toArray) Z (fun a Z'=>a=w/\Z'=Z):=by
 have two:∀{l:List UInt8} {b:Nat},args=[.s l,.i .u8 (.ofNat b)]->vs=[.string ⟨l.toArray⟩,.int .u8 (b:Nat)]:=fun {l b} e=>by
  subst e
  match vs,h with
  | [p,q],h =>
   obtain⟨j,k⟩:=VR.cons_iff.1 h;have m:=VR.cons_iff.1 k;rw[Yz j,Nz m.1];rfl
 have f:∀{b:Nat},Nat.ble b 255=true->(b.toUInt8).toNat=b:=fun {b} h=>by
  have:=lZ6 h;simp;omega
 have get:∀(l:List UInt8) (i:Nat),(⟨l.toArray⟩:ByteArray)[i]! = l[i]!:=fun l i=>by
  by_cases h:i<l.length
  ·rw[getElem!_pos (⟨l.toArray⟩:ByteArray) i (by show i<l.toArray.size;simpa using h),getElem!_pos l i h];rfl
  ·rw[getElem!_neg (⟨l.toArray⟩:ByteArray) i (by show ¬i<l.toArray.size;simpa using h),getElem!_neg l i h]
 unfold xExtV at hv;split at hv
 ·rename_i l b;rcases Bdd hx with⟨hn,_⟩|⟨_,he⟩
  ·split at hv
   ·rename_i hb;have d:=two rfl;subst d;have g:=Bdi (c:=b.toUInt8) l [];rw[f hb,Abs,Nq,<-Bhp]at g;have run:∀{Y:Ro} {Z:Own} {Q:Value->Own->Prop},Q (match xIdxB b l 0 with|some i=>goInt i|none=>goInt (-1)) Z->wpS P Y (Extern.BytealgIndexByte.indexByte #[.string ⟨l.toArray⟩,.int .u8 (b:Nat)]) Z Q:=fun {Y Z Q} hq=>by
     show wpS P Y (match (List.range l.toArray.size).find? fun i=>(⟨l.toArray⟩:ByteArray)[i]! == b.toUInt8 with|some i=>pure (goInt i)|none=>pure (goInt (-1))) Z Q;simp only[get,Aik];rw[<-g];revert hq;cases xIdxB b l 0 with
     | none=>exact fun hq=>hq
     | some i=>exact fun hq=>hq
    split at hv
    ·rename_i i hi;cases hv;rw[hi]at run;exact⟨_,_,Akw hn,.i _ _ .nil,fun Y Z=>run ⟨rfl,rfl⟩⟩
    ·rename_i hi;cases hv;rw[hi]at run;exact⟨_,_,Akw hn,.i _ _ .nil,fun Y Z=>run ⟨rfl,rfl⟩⟩
   ·cases hv
  ·cases he
 ·rename_i l b;rcases Bdd hx with⟨_,he⟩|⟨hn,_⟩
  ·cases he
  ·split at hv
   ·rename_i hb;have d:=two rfl;subst d;cases hv;refine⟨_,_,Baj hn,.i _ _ .nil,fun Y Z=>?_⟩;show wpS P Y (pure (goInt ((⟨l.toArray⟩:ByteArray).foldl (fun n x=>if x==b.toUInt8 then n+1 else n) (0:Int)))) Z _;refine⟨?_,rfl⟩;rw[Bzy l _ 0,Asr,f hb,Int.zero_add];rfl
   ·cases hv
 ·cases hv
theorem Blk{c:Call}{g:Nat}{ex:EX}(hc:c.callee = .value (.func g))(hx:xExt P g=some ex)(he:EnvR R e e')(hg:Om R){v:CV}(hv:xExtV ex ((rdsK c.args.toList).run e)=some v):Tj P (.call c) R e' v:=by obtain⟨cl,az,ts⟩:=c;simp only at hc hv;subst hc;obtain⟨fn,hf,hn,hb,j,hxn⟩:=Bwp hx;obtain⟨vs,h,i⟩:=Aeh he hg az;obtain⟨w,G,b,d,f⟩:=Bsi (P:=P) hxn hv h;refine⟨w,d,fun Y Z dd ty pos af gd=>?_⟩;rw[Bkw e' i];exact Buo hf hn hb j b (Eu (by rintro a Z' ⟨rfl,rfl⟩;exact⟨rfl,rfl⟩) _ _ (f Y Z))
end
end
section
section
variable{P:Program}{R:XR}{e:Tr CV}{e':Env}{m m':Mem}{x:CV}{Y:Ro}{Z Z9:Own}{L:List (Nat×Nat×Res)}{G:Own}{t:TypeId}{mk:MK}
theorem Aub(m:Mem)(k:Nat):m.row k=(match m.obj k with|some o=>xRowO o|none=>none):=by
 unfold Mem.row Mem.obj;cases m.M.get k with
 | none=>rfl
 | some c=>cases c<;>rfl
theorem Biu{m3:Mem}{k}(h:m3.obj k=m.obj k):m3.row k=m.row k:=by rw[Aub,Aub,h]
theorem Awe{R9:XR}:∀{ks:List IntKind} {a b:List CV} {l:List Value},(eqF ks a b).isSome=true->VR R a l->VR R9 a l
 | [],a,b,l,h,hv=>by
  have h':(eqF0 a b).isSome=true:=h;unfold eqF0 at h';split at h'
  ·cases hv;exact .nil
  ·cases h'
 | k::ks,a,b,l,h,hv=>by
  have h':(eqF1 k (eqF ks) a b).isSome=true:=h;unfold eqF1 at h';split at h'
  ·split at h'
   ·split at h'
    ·rename_i hx;cases hv with
     | i k n hv=>exact .i _ _ (Awe (by rw[hx];rfl) hv)
    ·cases h'
   ·cases h'
  ·cases h'
theorem Bsu{R9 y v}(h:keyOk mk y=true)(hv:V1 R y v):V1 R9 y v:=by
 cases mk with
 | str =>
  obtain⟨s,rfl⟩:=Afn h;rw[Yz hv];exact .s _ .nil
 | int k =>
  obtain⟨n,rfl⟩:=Afm h;rw[Nz hv];exact .i _ _ .nil
 | flat ks =>
  obtain⟨a,rfl,h⟩:=Abl h;cases hv with
  | g h1 h2=>cases h2;exact .g (Awe h h1) .nil
def loadM(P:Program)(t:TypeId)(a:CV)(m:Mem):OR:=match a with
 | .p k off=>match m.row k with
  | some l=>match (partK P t).run (xDrp off l) with|some v=>.rd v k|none=>.bad
  | none=>.bad
 | _=>.bad
theorem Bhf(t:TypeId)(a:Operand):Aut P (.load t a):=fun R e e' m x k he hg h R9 m3 Y Z Z9 hm ho B=>by
 have ha:=Ee he hg a;have D:∀m,(opK P (.load t a)).run e m=loadM P t ((rdK a).run e) m:=fun m=>rfl;rw[D]at h;unfold loadM at h;split at h
 ·rename_i k1 off hu;split at h
  ·rename_i l hl;split at h
   ·rename_i w hw;obtain⟨rfl,rfl⟩:=Aee h;rw[hu]at ha;obtain⟨b,c,hR,hav⟩:=Azb ha;rw[<-B]at hR;rw[<-Biu ho]at hl;obtain⟨L,G,hm⟩:=hm;rw[Aan]at hw;unfold partK at hw;split at hw
    ·rename_i hagg;split at hw
     ·rename_i n hn;cases hr:xTkn n (l.drop off) with
      | none=>simp only[hr]at hw;cases hw
      | some r =>
       simp only[hr,Option.some.injEq]at hw;subst hw;obtain⟨y,z⟩:=Aau _ _ _ hr;obtain⟨j,p,vs,d,f,i,q,_⟩:=hm.cells (P:=P) hl y z;rw[hR]at d;cases d;refine⟨.agg vs.toArray,.g f .nil,fun dd ty pos af g=>?_⟩;show wpS P Y ((Instr.loadAt t (Af e' a)).bind fun v=>Sem.pure (Next.value v)) Z _;rw[Ad,hav];show wpS P Y ((isAgg t).bind _) Z _;rw[Ad];refine Hi (Ze hagg) ?_;show wpS P Y ((sizeOf t).bind fun n=>(loadCells ⟨b,off,none⟩ n).bind _) Z _;rw[Ad];refine Dx (Ny hn) ?_;rw[Ad];exact q _ ⟨rfl,rfl⟩
     ·cases hw
    ·rename_i hagg;have hw':(match l.drop off with|v::_=>some v|[]=>none)=some w:=hw;split at hw'
     ·rename_i v rest hd;cases hw';have C:[w]=(l.drop off).take 1:=by rw[hd];rfl
      obtain⟨j,p,vs,d,f,i,_,u⟩:=hm.cells (P:=P) (n:=1) hl (by rw[hd];simp) C;rw[hR]at d;cases d;obtain⟨v',rfl⟩:∃v',vs=[v']:=by
       match vs,i with
       | [v'],_=>exact⟨v',rfl⟩
      refine⟨v',f,fun dd ty pos af g=>?_⟩;show wpS P Y ((Instr.loadAt t (Af e' a)).bind fun v=>Sem.pure (Next.value v)) Z _;rw[Ad,hav];show wpS P Y ((isAgg t).bind _) Z _;rw[Ad];refine Hi (Ze hagg) ?_;exact u v' rfl _ ⟨rfl,rfl⟩
     ·cases hw'
    ·cases hw
   ·cases h
  ·cases h
 ·cases h
theorem MemR.map(hm:MemR R m Y Z Z9 L G){k es}(hk:m.obj k=some (.map es)):∃b c en ck,R k=some (b,c)/\Has Y Z b (.map (List.toArray en) ck)/\VR R (es.map Prod.fst) (en.map MapEntry.key)/\VR R (es.map Prod.snd) (en.map MapEntry.val)/\BornOk en ck:=by
 unfold Mem.obj at hk;cases hg:m.M.get k with
 | none=>rw[hg]at hk;cases hk
 | some c0 =>
  rw[hg]at hk;cases c0 with
  | own o =>
   cases hk;obtain⟨b,c,r,i,d,e,a,j⟩:=hm.at hg (by simp);cases a with
   | map g1 g2 g3=>exact⟨b,c,_,_,d,.inr (lZ5 e),g1,g2,g3⟩
  | ro o =>
   cases hk;obtain⟨b,c,x,d,e,f,a⟩:=hm.ro k _ hg;cases x with
   | cells cs t' f'=>exact absurd a (fun h=>by cases h)
   | map en ck =>
    have g:ObjR R c (.map es) (.obj (.map en ck)):=a;cases g with
    | map g1 g2 g3=>exact⟨b,c,_,_,d,.inl e,g1,g2,g3⟩
   | _=>exact absurd a (fun h=>by cases h)
def lookM(mk:MK)(z:CV)(ok:Bool)(a y:CV)(m:Mem):OR:=match a with
 | .m k=>match m.obj k,keyOk mk y with
  | some (.map es),true=>match findX mk y es with
   | some (some v)=>.rd (match ok with|true=>.t [v,.b true]|false=>v) k
   | some none=>.rd (match ok with|true=>.t [z,.b false]|false=>z) k
   | none=>.bad
  | _,_=>.bad
 | _=>.bad
theorem Awb(t:TypeId)(a y:Operand)(ok:Bool):Aut P (.lookup t a y ok):=fun R e e' m x k he hg h R9 m3 Y Z Z9 hm ho O=>by
 have ha:=Ee he hg a;have V:=Ee he hg y;have c:=h;unfold opK at h;simp only at h;split at h
 ·rename_i kt el hT;split at h
  ·rename_i mk z hk hz;have U:∀m,(opK P (.lookup t a y ok)).run e m=lookM mk z ok ((rdK a).run e) ((rdK y).run e) m:=fun m=>by
    unfold opK;simp only[hT,hk,hz];rfl
   rw[U]at c;clear h;unfold lookM at c;split at c
   ·rename_i k1 hu;split at c
    ·rename_i es hes hok;rw[hu]at ha;obtain⟨bb,cc,hR,hav⟩:=Byv ha;have T:k1=k:=by
      split at c
      ·exact(Aee c).2
      ·exact(Aee c).2
      ·cases c
     subst T;have hy:V1 R9 ((rdK y).run e) (Af e' y):=Bsu hok V;rw[<-O]at hR;rw[<-ho]at hes;obtain⟨L,G,hm⟩:=hm;obtain⟨X,YQ,en,ck,B,J,C,K,_⟩:=hm.map hes;rw[hR]at B;cases B;obtain⟨zv,hzv,rfl⟩:=Qu hz;have H:∀(v:Value) dd ty pos af g,(wpS P Y (Instr.findKey kt (Af e' y) en) Z fun r Z'=>Z'=Z/\(match r with|some (_,w)=>(if ok=true then Value.tuple #[w,.bool true] else w)=v|none=>(if ok=true then Value.tuple #[zv,.bool false] else zv)=v)) ->
       wpS P Y (execOp (Af e') ⟨dd,.lookup t a y ok,ty,pos,af,g⟩) Z (fun nx Z'=>nx = .value v/\Z'=Z):=fun v dd ty pos af g hf=>by
      show wpS P Y ((Instr.lookup t (Af e' a) (Af e' y) ok).bind fun v=>Sem.pure (Next.value v)) Z _;rw[Ad,hav];show wpS P Y ((underlying t).bind _) Z _;rw[Ad];refine Az hT ?_;show wpS P Y ((getObj bb).bind _) Z _;rw[Ad];refine⟨_,J,rfl,?_⟩;show wpS P Y ((Instr.checkKey en.toArray.isEmpty 10000 kt _).bind _) Z _;rw[Ad];refine Arg hk hy hok ?_;show wpS P Y ((Instr.findKey kt (Af e' y) en).bind _) Z _;rw[Ad];refine Eu ?_ _ _ hf;rintro r Z' ⟨rfl,hr⟩;cases r with
      | none =>
       show wpS P Y ((zeroValue el).bind _) _ _;rw[Ad];refine Jz hzv ?_;simp only at hr;rw[<-hr];exact⟨rfl,rfl⟩
      | some p =>
       simp only at hr;rw[<-hr];exact⟨rfl,rfl⟩
     split at c
     ·rename_i v hf;obtain⟨rfl,_⟩:=Aee c;rcases Abk hf with⟨d,_⟩|⟨j,p,d,D,M,N⟩
      ·cases d
      ·cases d;have o0:=fun (w:Value)=>(Aen (Y:=Y) (Z:=Z) hk hy hok C (fun r Z'=>Z'=Z/\(match r with|some (_,u)=>(if ok=true then Value.tuple #[u,.bool true] else u)=w|none=>(if ok=true then Value.tuple #[zv,.bool false] else zv)=w))).2 j p D M N;obtain⟨f,o1,_⟩:=o0 undef;have i:_:=(o0 (if ok=true then .tuple #[f.val,.bool true] else f.val));obtain⟨n,F,W⟩:=i;rw[o1]at F;cases F;have hv:V1 R9 p.2 f.val:=by
        have n:(es.map Prod.snd)[j]?=some p.2:=by rw[Oz,D];rfl
        obtain⟨v',q,I⟩:=K.at n;rw[Oz,o1]at q;cases q;exact I
       refine⟨if ok=true then .tuple #[f.val,.bool true] else f.val,?_,fun dd ty pos af g=>H _ dd ty pos af g (W ⟨rfl,rfl⟩)⟩;cases ok with
       | true=>exact .t (VR.cons_iff.2 ⟨hv,.b _ .nil⟩) .nil
       | false=>exact hv
     ·rename_i hf;obtain⟨rfl,_⟩:=Aee c;rcases Abk hf with⟨_,d⟩|⟨j,p,d,_⟩
      ·have i:=(Aen (Y:=Y) (Z:=Z) hk hy hok C (fun r Z'=>Z'=Z/\(match r with|some (_,w)=>(if ok=true then Value.tuple #[w,.bool true] else w)=(if ok=true then Value.tuple #[zv,.bool false] else zv)|none=>(if ok=true then Value.tuple #[zv,.bool false] else zv)=(if ok=true then Value.tuple #[zv,.bool false] else zv)))).1 d ⟨rfl,rfl⟩;refine⟨if ok=true then .tuple #[zv,.bool false] else zv,?_,fun dd ty pos af g=>H _ dd ty pos af g i⟩;have E:=vOf R9 zv;cases ok with
       | true=>exact .t (VR.cons_iff.2 ⟨E,.b _ .nil⟩) .nil
       | false=>exact E
      ·cases d
     ·cases c
    ·cases c
   ·cases c
  ·cases h
 ·cases h
theorem Ahl(o:Op)(t:TypeId)(a y z:Operand)(hmi:xMild o=false)(hrun:opK P o=opK P (.mapUpdate t a y z))
  (exe:∀(f:Operand->Value) dd ty pos af g,execOp f ⟨dd,o,ty,pos,af,g⟩=(Instr.mapUpdate t (f a) (f y) (f z)).bind fun _=>Sem.pure Next.skip):Jc P o:=fun R e e' m x m' he hg h=>by
 have ha:=Ee he hg a;have hy:=Ee he hg y;have hz:=Ee he hg z;rw[hrun]at h;unfold opK at h;simp only at h;split at h
 ·rename_i kt el hT;split at h
  ·rename_i mk hk;have h':(match (rdK a).run e with
    | .m k=>match m.M.get k,keyOk mk ((rdK y).run e) with
     | some (.own (.map es)),true=>match putX mk ((rdK y).run e) ((rdK z).run e) es with
      | some es=>OR.v .undef (m.put k (.map es))
      | none=>.bad
     | _,_=>.bad
    | _=>.bad) = .v x m':=h
   split at h'
   ·rename_i k hu;split at h'
    ·rename_i es hes hok;split at h'
     ·rename_i es2 hp;obtain⟨rfl,rfl⟩:=Hz h';rw[hu]at ha;obtain⟨bb,cc,hR,hav⟩:=Byv ha;refine .inr ⟨.put _ _ _,fun hx=>(by rw[hmi]at hx;cases hx),fun Y Z Z9 dd ty pos af g hm=>?_⟩;obtain⟨L,G,hm⟩:=hm;obtain⟨O,T,rs,i,w,d,I,B⟩:=hm.at hes (by simp);rw[hR]at w;cases w;cases I with
      | @map _ en ck g3 g4 g5 =>
       rw[exe,Ad,hav];show wpS P Y ((underlying t).bind _) Z _;rw[Ad];refine Az hT ?_;show wpS P Y ((getObj bb).bind _) Z _;rw[Ad];refine⟨_,.inr (lZ5 d),rfl,?_⟩;show wpS P Y ((Instr.checkKey false 10000 kt _).bind _) Z _;rw[Ad];refine Arg hk hy hok ?_;show wpS P Y ((Instr.findKey kt (Af e' y) en).bind _) Z _;rw[Ad];rcases Aqw hp with⟨rfl,q⟩|⟨j,p,rfl,q,C,N⟩
       ·refine(Aen hk hy hok g3 _).1 q ?_;refine⟨rfl,i,_,d,rfl,?_⟩;refine⟨R,undef,.refl,.inr ⟨rfl,rfl⟩,.t .nil .nil,hm.put B hR d ?_⟩;have b:(en.toArray.push ({key:=Af e' y,val:=Af e' z,born:=ck}:MapEntry))=(en++[({key:=Af e' y,val:=Af e' z,born:=ck}:MapEntry)]).toArray:=by simp
        rw[b];refine .map ?_ ?_ ⟨fun n z hn=>?_,by rw[g5.ck,lZ3];rfl⟩
        ·rw[Lo,Lo];exact g3.app hy
        ·rw[Lo,Lo];exact g4.app hz
        ·rw[List.getElem?_append]at hn;split at hn
         ·exact g5.at_ n z hn
         ·rename_i hlt;have hz:n-en.length=0:=by
           rcases Nat.eq_zero_or_pos (n-en.length) with h0|h0
           ·exact h0
           ·rw[Sa (by simp only[Vy];omega)]at hn;cases hn
          rw[hz]at hn;cases hn;show ck=n;rw[g5.ck];omega
       ·obtain⟨b,o1,K⟩:=(Aen (Y:=Y) (Z:=Z) hk hy hok g3 _).2 j p q C N;refine K ?_;have J:V1 R p.1 b.key:=by
         have E:(es.map Prod.fst)[j]?=some p.1:=by rw[Oz,q];rfl
         obtain⟨v',u,H⟩:=g3.at E;rw[Oz,o1]at u;cases u;exact H
        have hke:=Bku C hy J;have hgj:en.toArray[j]?=some b:=by rw[Me];exact o1
        show wpS P Y ((Instr.keyThatStays (((en.toArray[j]?).map (·.key)).getD _) _).bind _) Z _;rw[Ad,hgj];refine Xt hke ?_;refine⟨rfl,i,_,d,rfl,?_⟩;refine⟨R,undef,.refl,.inr ⟨rfl,rfl⟩,.t .nil .nil,hm.put B hR d ?_⟩;have F:(en.toArray.modify j fun e=>{e with key:=Af e' y,val:=Af e' z})=(en.set j {b with key:=Af e' y,val:=Af e' z}).toArray:=by
         apply Array.ext';rw[Bmi];apply Atr;intro n;rw[List.getElem?_modify,Vi];by_cases hn:j=n
         ·subst hn;have hj:=(lZ4.1 o1).2;simp[o1,(lZ4.1 o1).1,hj]
         ·simp[hn]
        rw[F];have D:∀{l:List CV} {l':List Value} {c:CV} {v:Value},VR R l l'->V1 R c v->VR R (l.set j c) (l'.set j v):=fun {l l' c v} hl hc=>by
         have g:=hl.len;by_cases hj:j<l.length
         ·rw[Bva,Bva,if_pos hj,if_pos (by omega)];exact(hl.take j).app (VR.cons_iff.2 ⟨hc,hl.drop (j+1)⟩)
         ·rw[Blx (by omega),Blx (by omega)];exact hl
        refine .map ?_ ?_ ⟨fun n z hn=>?_,by rw[Wb];exact g5.ck⟩
        ·rw[Aqk,Aqk];exact D g3 hy
        ·rw[Aqk,Aqk];exact D g4 hz
        ·rw[Vi]at hn;split at hn
         ·rename_i hjn;subst hjn;split at hn
          ·cases hn;exact g5.at_ j b o1
          ·cases hn
         ·exact g5.at_ n z hn
     ·cases h'
    ·cases h'
   ·cases h'
  ·cases h
 ·cases h
theorem Ali(t:TypeId)(a y z:Operand):Jc P (.mapUpdate t a y z):=Ahl _ t a y z rfl rfl fun _ _ _ _ _ _=>rfl
theorem Awa(t:TypeId)(a y z:Operand):Jc P (.insert t a y z):=Ahl _ t a y z rfl rfl fun _ _ _ _ _ _=>rfl
theorem Baz(t:TypeId)(a:Operand):Jc P (.range t a):=fun R e e' m x m' he hg h=>by
 have ha:=Ee he hg a;unfold opK at h;simp only at h;split at h
 ·rename_i kt et hT;have h':(match (rdK a).run e with
   | .m k=>match m.obj k with|some (.map es)=>OR.v (.p m.nx 0) (m.add (.iter k (xLen es) []))|_=>.bad
   | _=>.bad) = .v x m':=h
  split at h'
  ·rename_i k hu;split at h'
   ·rename_i es ho;obtain⟨rfl,rfl⟩:=Hz h';rw[hu]at ha;obtain⟨d,u,hR,hav⟩:=Byv ha;refine .inr ⟨.add _ _,fun hx=>(by cases hx),fun Y Z Z9 dd ty pos af g hm=>?_⟩;obtain⟨L,G,hm⟩:=hm;obtain⟨b,c,en,ck,f,i,j,w,n⟩:=hm.map ho;rw[hR]at f;cases f;have q:xLen es=ck:=by
     rw[Ig,n.ck];have:=j.len;simpa using this
    show wpS P Y ((Instr.range t (Af e' a)).bind fun v=>Sem.pure (Next.value v)) Z _;rw[Ad,hav];show wpS P Y ((underlying t).bind _) Z _;rw[Ad];refine Az hT ?_;show wpS P Y ((getObj d).bind _) Z _;rw[Ad];refine⟨_,i,rfl,?_⟩;show wpS P Y ((newObj (.mapIter (some d) ck #[] ck)).bind _) Z _;rw[Ad];refine .inl ⟨rfl,fun r=>?_⟩;refine⟨R.add m.nx (r,0),_,hm.fresh _,.inl rfl,.p XR.add_same .nil,hm.add ?_⟩;rw[q];exact .iter (sn:=[]) (hm.fresh _ _ _ hR)
   ·cases h'
  ·cases h'
 ·cases h
theorem Apn:∀(l:List MapEntry) (o:Nat),(∀i e,l[i]?=some e->e.born=o+i)->∀j e,l[j]?=some e->l.find? (·.born==o+j)=some e
 | [],o,h,j,e,hj=>by cases hj
 | a::l,o,h,j,e,hj=>by
  have ha:=h 0 a rfl;rw[Abw]at ha;rw[List.find?_cons];cases j with
  | zero =>
   cases hj;rw[ha,Abw];simp
  | succ j =>
   have:(a.born==o+(j+1))=false:=by rw[ha];simp
   rw[this];have:=Apn l (o+1) (fun i e he=>by rw[h (i+1) e (by simpa using he)];omega) j e (by simpa using hj);rw[show o+1+j=o+(j+1) by omega]at this;exact this
theorem Baw(a:Operand):Jc P (.entry a):=fun R e e' m x m' he hg h=>by
 have ha:=Ee he hg a;have h':(match (rdK a).run e with
   | .p k 0=>match m.M.get k with
    | some (.own (.iter mk n seen))=>match seen.getLast?,m.obj mk with
     | some j,some (.map es)=>match Nat.beq (xLen es) n,xNth j es with
      | true,some (a,v)=>OR.v (.t [a,v]) m
      | _,_=>.bad
     | _,_=>.bad
    | _=>.bad
   | _=>.bad) = .v x m':=h
 split at h'
 ·rename_i k hu;split at h'
  ·rename_i mk n seen hk;split at h'
   ·rename_i j es hj ho;split at h'
    ·rename_i ka va hn he2;obtain⟨rfl,rfl⟩:=Hz h';have hn:=lZ8 hn;rw[Ig]at hn;rw[Aep]at he2;rw[hu]at ha;obtain⟨z,K,hR,hav⟩:=Azb ha;refine .inr ⟨.refl _,fun hx=>(by cases hx),fun Y Z Z9 dd ty pos af g hm=>?_⟩;obtain⟨L,G,hm⟩:=hm;obtain⟨J,N,T,O,y,H,I,U⟩:=hm.at hk (by simp);rw[hR]at y;cases y;obtain⟨b,c,en,ck,D,E,u,F,w⟩:=hm.map ho;cases I with
     | iter hRm =>
      rw[D]at hRm;cases hRm;have hen:en.length=n:=by
       have:=u.len;simp only[Uu]at this;omega
      obtain⟨V,f,B⟩:=u.at (d:=j) (v:=ka) (by rw[Oz,he2];rfl);obtain⟨W,q,C⟩:=F.at (d:=j) (v:=va) (by rw[Oz,he2];rfl);rw[Oz]at f q;cases hej:en[j]? with
      | none=>rw[hej]at f;cases f
      | some ej =>
       rw[hej]at f q;cases f;cases q;show wpS P Y ((Instr.entry (Af e' a)).bind fun v=>Sem.pure (Next.value v)) Z _;rw[Ad,hav];show wpS P Y ((getObj z).bind _) Z _;rw[Ad];refine⟨_,.inr (lZ5 H),rfl,?_⟩;have hb:seen.toArray.back?=some j:=by rw[List.back?_toArray];exact hj
       simp only[wpS,hb];show wpS P Y ((getObj b).bind _) Z _;rw[Ad];refine⟨_,E,rfl,?_⟩;show wpS P Y (if (ck != n)=true then _ else _) Z _;rw[if_neg (by rw[w.ck,hen];simp)];have hf:en.toArray.find? (·.born==j)=some ej:=by
        rw[List.find?_toArray];have:=Apn en 0 (fun i e he=>by rw[Te];exact w.at_ i e he) j ej hej
        rwa[Te]at this
       simp only[hf];exact⟨R,_,.refl,.inl rfl,.t (VR.cons_iff.2 ⟨B,C⟩) .nil,L,G,hm⟩
    ·cases h'
   ·cases h'
  ·cases h'
 ·cases h'
def Bbp:OR->Prop
 | .v _ _=>False
 | _=>True
def Bxi:OR->Prop
 | .rd _ _=>False
 | _=>True
theorem Mb{o}(h:∀e m,Bbp ((opK P o).run e m)):Jc P o:=fun R e e' m x m' _ _ he=>by have:=h e m;rw[he]at this;exact this.elim
theorem Afk{o}(h:∀e m,Bxi ((opK P o).run e m)):Aut P o:=fun R e e' m x k _ _ he=>by have:=h e m;rw[he]at this;exact this.elim
theorem Bad(f:CV)(args:List CV):Bbp (callK P f args):=by
 unfold callK;split
 ·split<;>trivial
 ·trivial
 ·trivial
theorem Akp(f:CV)(args:List CV):Bxi (callK P f args):=by
 unfold callK;split
 ·split<;>trivial
 ·trivial
 ·trivial
theorem Oa{f:Operand}{az:Array Operand}{ts:Array TypeId}{y:OR}(h:(opK P (.call ⟨.value f,az,ts⟩)).run e m=y) :
  (∃g ex v,f = .func g/\xExt P g=some ex/\xExtV ex ((rdsK az.toList).run e)=some v/\y = .v v m)∨y = .bad∨callK P ((rdK f).run e) ((rdsK az.toList).run e)=y:=by
 cases f with
 | func g =>
  unfold opK at h;simp only at h;split at h
  ·rename_i ex hx;have h':(match xExtV ex ((rdsK az.toList).run e) with|some v=>OR.v v m|none=>.bad)=y:=h;cases hv:xExtV ex ((rdsK az.toList).run e) with
   | some v=>rw[hv]at h';exact .inl ⟨g,ex,v,rfl,hx,hv,h'.symm⟩
   | none=>rw[hv]at h';exact .inr (.inl h'.symm)
  ·exact .inr (.inr h)
 | tmp t=>exact .inr (.inr h)
 | const v=>exact .inr (.inr h)
 | global g=>exact .inr (.inr h)
theorem Bez(o:Op):Jc P o:=by
 cases o with
 | move a=>exact Bhg a
 | assign a=>exact Avz a
 | pick c a b=>exact Bhh c a b
 | alloc t=>exact Bat t
 | box t a=>exact Blj t a
 | build t ps=>exact Bau t ps
 | buildSlice t n ps=>exact Aie t n ps
 | load t a =>
  refine Mb fun e m=>?_;show Bbp (loadM P t ((rdK a).run e) m);unfold loadM;split
  ·split
   ·split<;>trivial
   ·trivial
  ·trivial
 | store t a v=>exact Bbb t a v
 | nilCheck a=>exact Aok a
 | binOp op t a b t'=>exact Bli op t a b t'
 | unOp op t a =>
  cases op with
  | not=>exact Blm t a
  | neg=>exact Bll t a
  | _=>exact Mb fun e m=>trivial
 | convert s d a=>exact Bav s d a
 | makeFunc f xs ys =>
  cases f with
  | func f=>exact Aoj f xs ys
  | _=>exact Mb fun e m=>trivial
 | makeMap t r =>
  cases r with
  | none=>exact Atk t
  | some r=>exact Mb fun e m=>trivial
 | makeChan t s=>exact Aoi t s
 | fieldAddr t a i=>exact Ale t a i
 | indexAddr t a b=>exact Alf t a b
 | index t a b=>exact Bay t a b
 | lookup t a y ok =>
  refine Mb fun e m=>?_;unfold opK;simp only;split
  ·split
   ·rename_i mk z _ _;show Bbp (lookM mk z ok ((rdK a).run e) ((rdK y).run e) m);unfold lookM;split
    ·split
     ·split<;>trivial
     ·trivial
    ·trivial
   ·trivial
  ·trivial
 | mapUpdate t a y z=>exact Ali t a y z
 | slice t a lo hi mx=>exact Bba t a lo hi mx
 | field t a i=>exact Bax t a i
 | makeSlice t a b=>exact Alg t a b
 | insert t a y z=>exact Awa t a y z
 | range t a=>exact Baz t a
 | entry a=>exact Baw a
 | extract a i=>exact Atj a i
 | call c =>
  cases hc:c.callee with
  | builtin b=>exact Ati c b hc
  | value f =>
   intro R e e' m x m' he hg h;obtain⟨cl,az,ts⟩:=c;simp only at hc;subst hc;rcases Oa h with⟨g,ex,v,rfl,hx,hv,j⟩|j|j
   ·cases j;exact .inl ⟨rfl,Blk rfl hx he hg hv⟩
   ·cases j
   ·have:=Bad (P:=P) ((rdK f).run e) ((rdsK az.toList).run e);rw[j]at this;exact this.elim
  | invoke r n =>
   refine Mb fun e m=>?_;unfold opK;simp only[hc];trivial
 | go c =>
  refine Mb fun e m=>?_;unfold opK;simp only;split<;>trivial
 | defer c =>
  refine Mb fun e m=>?_;unfold opK;simp only;split
  ·rename_i t _ _;show Bbp (match e.get t with|some x=>.dclose x|none=>.bad);split<;>trivial
  ·trivial
 | send a b =>
  refine Mb fun e m=>?_;show Bbp (match (rdK a).run e with | .c k=>.send k ((rdK b).run e)|_=>.bad);split<;>trivial
 | recv t a ok =>
  refine Mb fun e m=>?_;unfold opK;simp only;split
  ·split
   ·show Bbp (match (rdK a).run e with | .c k=>.recv k ok|_=>.bad);split<;>trivial
   ·trivial
  ·trivial
 | _=>exact Mb fun e m=>trivial
end
end
section
section
variable{P:Program}{R:XR}{e:Tr CV}{e':Env}{m m':Mem}{x:CV}{Y:Ro}{Z Z9:Own}
def Yy:OR->Prop
 | .v _ _=>True
 | .rd _ _=>True
 | .bad=>True
 | _=>False
def simpleRd:OR->Prop
 | .v _ _=>True
 | .bad=>True
 | _=>False
theorem simpleRd.s{y}(h:simpleRd y):Yy y:=by cases y<;>first|trivial|exact h.elim
theorem simpleRd.r{y}(h:simpleRd y):Bxi y:=by cases y<;>first|trivial|exact h.elim
theorem Bgc(n:Nat)(args:List CV)(m:Mem):simpleRd ((appendK n).run args m):=by
 unfold appendK;dsimp only
 repeat' (first|trivial|split)
theorem Bgd(n:Nat)(z args:List CV)(m:Mem):simpleRd ((appendZ n z).run args m):=by
 unfold appendZ;dsimp only
 repeat' (first|trivial|split)
theorem Bji(n k off ln:Nat)(kn:Bool)(c l:Nat)(h q:Option Nat)(m:Mem):Yy (xSliceM n k off ln kn c l h q m):=by
 unfold xSliceM
 repeat' (first|trivial|(dsimp only;split)|split)
theorem Azu(b:Builtin)(ts:List TypeId)(args:List CV)(m:Mem):simpleRd ((builtinK P b ts).run args m):=by
 unfold builtinK;split
 all_goals repeat' (first|trivial|exact Bgc _ _ _|exact Bgd _ _ _ _|(dsimp only;split)|split)
def Blp:Op->Bool
 | .call {callee:=.value _,..}=>true
 | .go _ | .defer _ | .send .. | .recv ..=>true
 | _=>false
def reads:Op->Bool
 | .load .. | .lookup .. | .slice ..=>true
 | _=>false
theorem Bey(o:Op)(h1:Blp o=false)(h2:reads o=false)(e:Tr CV)(m:Mem):simpleRd ((opK P o).run e m):=by
 cases o with
 | call c =>
  obtain⟨cal,az,ts⟩:=c;cases cal with
  | value f=>cases h1
  | builtin b=>exact Azu _ _ _ _
  | invoke r n=>trivial
 | go c=>cases h1
 | defer c=>cases h1
 | send a b=>cases h1
 | recv t a ok=>cases h1
 | load t a=>cases h2
 | lookup t a y ok=>cases h2
 | unOp op t a=>cases op<;>(unfold opK;repeat' (first|trivial|(dsimp only;split)|split))
 | makeFunc f xs ys=>cases f<;>(unfold opK;repeat' (first|trivial|(dsimp only;split)|split))
 | makeMap t r=>cases r<;>(unfold opK;repeat' (first|trivial|(dsimp only;split)|split))
 | slice t a lo hi mx=>cases h2
 | extract a i =>
  unfold opK;dsimp only;split
  ·unfold xVOf;split<;>trivial
  ·trivial
 | _=>unfold opK;repeat' (first|trivial|(dsimp only;split)|split)
theorem Bbt(o:Op):Aut P o:=by
 by_cases h2:reads o=true
 ·cases o with
  | load t a=>exact Bhf t a
  | lookup t a y ok=>exact Awb t a y ok
  | slice t a lo hi mx=>exact Awc t a lo hi mx
  | _=>cases h2
 ·by_cases d:Blp o=true
  ·refine Afk fun e m=>?_;cases o with
   | call c =>
    obtain⟨cal,az,ts⟩:=c;cases cal with
    | value f =>
     rcases Oa (P:=P) (e:=e) (m:=m) (f:=f) (az:=az) (ts:=ts) rfl with⟨g,ex,v,_,_,_,d⟩|d|d
     ·rw[d];trivial
     ·rw[d];trivial
     ·rw[<-d];exact Akp _ _
    | builtin b=>cases d
    | invoke r n=>cases d
   | go c=>unfold opK;dsimp only;split<;>trivial
   | defer c=>unfold opK;dsimp only;split<;>first|trivial|(dsimp only;split<;>trivial)
   | send a b=>unfold opK;dsimp only;split<;>trivial
   | recv t a ok=>unfold opK;dsimp only;repeat' (first|trivial|(dsimp only;split)|split)
   | _=>cases d
  ·exact Afk fun e m=>(Bey o (by simpa using d) (by simpa using h2) e m).r
theorem Zm{o}(h:¬Yy ((opK P o).run e m)):Blp o=true:=by
 by_cases h1:Blp o=true
 ·exact h1
 ·by_cases h2:reads o=true
  ·exfalso;apply h;cases o with
   | load t a =>
    show Yy (loadM P t ((rdK a).run e) m);unfold loadM
    repeat' (first|trivial|split)
   | lookup t a y ok =>
    unfold opK;dsimp only;split
    ·split
     ·rename_i mk z _ _;show Yy (lookM mk z ok ((rdK a).run e) ((rdK y).run e) m);unfold lookM
      repeat' (first|trivial|split)
     ·trivial
    ·trivial
   | slice t a lo hi mx=>unfold opK;repeat' (first|trivial|exact Bji .. | (dsimp only;split)|split)
   | _=>cases h2
  ·exact absurd (Bey o (by simpa using h1) (by simpa using h2) e m).s h
theorem Po{f args y}(h:callK P f args=y)(hb:y ≠ .bad):
  (∃g xs ys,f = .f g xs ys/\xHasBody P g=true/\y = .enter g (xApp xs (xApp args ys)))∨(∃k,f = .y k/\y = .round k args):=by
 cases f with
 | f g xs ys =>
  have h':(match xHasBody P g with|true=>OR.enter g (xApp xs (xApp args ys))|false=>.bad)=y:=h;split at h'
  ·rename_i hb;exact .inl ⟨g,xs,ys,rfl,hb,h'.symm⟩
  ·exact absurd h'.symm hb
 | y k=>exact .inr ⟨k,rfl,h.symm⟩
 | _=>exact absurd h.symm hb
theorem Ww{g}(h:xHasBody P g=true):∃fn,P.funcs[g]?=some fn/\(fn.name == "runtime.NumGoroutine")=false/\fn.body.isNone=false:=by
 unfold xHasBody at h;split at h
 ·rename_i fn hf;split at h
  ·cases h
  ·rename_i hn;refine⟨fn,hf,hn,?_⟩;cases hb:fn.body with
   | none=>rw[hb]at h;cases h
   | some c=>rfl
 ·cases h
theorem Bpy{v g xs ys}(h:V1 R (.f g xs ys) v):∃xs' ys',VR R xs xs'/\VR R ys ys'/\v = .func (.func g) xs'.toArray ys'.toArray:=by cases h with|f g h1 h2 _=>exact⟨_,_,h1,h2,rfl⟩
theorem Ccl{v k}(h:V1 R (.y k) v):∃b c,R k=some (b,c)/\v = .func (.yield b) #[] #[]:=by cases h with|y h1 _=>exact⟨_,_,h1,rfl⟩
theorem Bih{o f args}(he:EnvR R e e')(hg:Om R)(h:(opK P o).run e m = .enter f args):
  ∃args',VR R args args'/\∀(Q:Next->Own->Prop) Y Z dd ty pos af g,Q (.enter f args'.toArray) Z->wpS P Y (execOp (Af e') ⟨dd,o,ty,pos,af,g⟩) Z Q:=by
 have hh:=Zm (P:=P) (o:=o) (e:=e) (m:=m) (by rw[h];exact id);cases o with
 | call c =>
  obtain⟨cal,ops,tys⟩:=c;cases cal with
  | value x =>
   have h':callK P ((rdK x).run e) ((rdsK ops.toList).run e) = .enter f args:=by
    rcases Oa h with⟨_,_,_,_,_,_,i⟩|i|i
    ·cases i
    ·cases i
    ·exact i
   have hx:=Ee he hg x;have ha:=Aac he hg ops.toList;rcases Po h' (by simp) with⟨g,xs,ys,i,q,j⟩|⟨k,_,j⟩
   ·cases j;rw[i]at hx;obtain⟨xs',ys',u,v,hv⟩:=Bpy hx;obtain⟨fn,hf,hn,hb⟩:=Ww q;refine⟨xs'++(ops.toList.map (Af e')++ys'),?_,fun Q Y Z dd ty pos af gd hQ=>?_⟩
    ·rw[Lu,Lu];exact u.app (ha.app v)
    ·show wpS P Y ((Deferred.ofValue (Af e' x) (ops.map (Af e'))).bind fun d=>invoke d.target d.args) Z Q;rw[hv];show wpS P Y (callFunc f ((xs'.toArray++ops.map (Af e'))++ys'.toArray)) Z Q;refine Mr hf hn hb ?_;have p:(xs'.toArray++ops.map (Af e'))++ys'.toArray=(xs'++(ops.toList.map (Af e')++ys')).toArray:=by
      apply Array.ext';simp
     rw[p];exact hQ
   ·cases j
  | builtin b=> cases hh
  | invoke r n=>cases hh
 | go c=>exfalso;unfold opK at h;dsimp only at h;split at h<;>cases h
 | defer c =>
  exfalso;unfold opK at h;dsimp only at h;split at h
  ·dsimp only at h;split at h<;>cases h
  ·cases h
 | send a b=>exfalso;unfold opK at h;dsimp only at h;split at h<;>cases h
 | recv t a ok =>
  exfalso;unfold opK at h;dsimp only at h;split at h
  ·split at h
   ·dsimp only at h;split at h<;>cases h
   ·cases h
  ·cases h
 | _=>cases hh
theorem Bii{o k args}(he:EnvR R e e')(hg:Om R)(h:(opK P o).run e m = .round k args):
  ∃args' b c,R k=some (b,c)/\VR R args args'/\∀(Q:Next->Own->Prop) Y Z dd ty pos af g,wpS P Y (Instr.yield b args'.toArray) Z Q->wpS P Y (execOp (Af e') ⟨dd,o,ty,pos,af,g⟩) Z Q:=by
 have hh:=Zm (P:=P) (o:=o) (e:=e) (m:=m) (by rw[h];exact id);cases o with
 | call c =>
  obtain⟨cal,ops,tys⟩:=c;cases cal with
  | value x =>
   have h':callK P ((rdK x).run e) ((rdsK ops.toList).run e) = .round k args:=by
    rcases Oa h with⟨_,_,_,_,_,_,f⟩|f|f
    ·cases f
    ·cases f
    ·exact f
   have hx:=Ee he hg x;have ha:=Aac he hg ops.toList;rcases Po h' (by simp) with⟨g,xs,ys,f,p,i⟩|⟨q,f,i⟩
   ·cases i
   ·cases i;rw[f]at hx;obtain⟨b,c,hR,hv⟩:=Ccl hx;refine⟨ops.toList.map (Af e'),b,c,hR,ha,fun Q Y Z dd ty pos af gd hQ=>?_⟩;show wpS P Y ((Deferred.ofValue (Af e' x) (ops.map (Af e'))).bind fun d=>invoke d.target d.args) Z Q;rw[hv];show wpS P Y (Instr.yield b (#[]++ops.map (Af e'))) Z Q;have j:(#[]++ops.map (Af e'))=(ops.toList.map (Af e')).toArray:=by
     apply Array.ext';simp
    rw[j];exact hQ
  | builtin b=>cases hh
  | invoke r n=>cases hh
 | go c=>exfalso;unfold opK at h;dsimp only at h;split at h<;>cases h
 | defer c =>
  exfalso;unfold opK at h;dsimp only at h;split at h
  ·dsimp only at h;split at h<;>cases h
  ·cases h
 | send a b=>exfalso;unfold opK at h;dsimp only at h;split at h<;>cases h
 | recv t a ok =>
  exfalso;unfold opK at h;dsimp only at h;split at h
  ·split at h
   ·dsimp only at h;split at h<;>cases h
   ·cases h
  ·cases h
 | _=>cases hh
theorem Boi{o f args}(h:(opK P o).run e m = .go f args):
  ∃x ops tys,o = .go ⟨.value x,ops,tys⟩/\f=(rdK x).run e/\args=(rdsK ops.toList).run e:=by
 have hh:=Zm (P:=P) (o:=o) (e:=e) (m:=m) (by rw[h];exact id);cases o with
 | go c =>
  obtain⟨cal,ops,tys⟩:=c;cases cal with
  | value x =>
   have h':OR.go ((rdK x).run e) ((rdsK ops.toList).run e) = .go f args:=h;cases h';exact⟨x,ops,tys,rfl,rfl,rfl⟩
  | builtin b=>cases h
  | invoke r n=>cases h
 | call c =>
  exfalso;obtain⟨cal,ops,tys⟩:=c;cases cal with
  | value x =>
   have h':callK P ((rdK x).run e) ((rdsK ops.toList).run e) = .go f args:=by
    rcases Oa h with⟨_,_,_,_,_,_,d⟩|d|d
    ·cases d
    ·cases d
    ·exact d
   rcases Po h' (by simp) with⟨_,_,_,_,_,g⟩|⟨_,_,g⟩<;>cases g
  | builtin b=>cases hh
  | invoke r n=>cases hh
 | defer c =>
  exfalso;unfold opK at h;dsimp only at h;split at h
  ·dsimp only at h;split at h<;>cases h
  ·cases h
 | send a b=>exfalso;unfold opK at h;dsimp only at h;split at h<;>cases h
 | recv t a ok =>
  exfalso;unfold opK at h;dsimp only at h;split at h
  ·split at h
   ·dsimp only at h;split at h<;>cases h
   ·cases h
  ·cases h
 | _=>cases hh
theorem Axw{o k ok}(h:(opK P o).run e m = .recv k ok):
  ∃t x d el z,o = .recv t x ok/\P.underlying t=some (.chan d el)/\Fw P el z/\(rdK x).run e = .c k:=by
 have hh:=Zm (P:=P) (o:=o) (e:=e) (m:=m) (by rw[h];exact id);cases o with
 | recv t a ok' =>
  unfold opK at h;dsimp only at h;split at h
  ·rename_i d el hT;split at h
   ·rename_i z hz;dsimp only at h;split at h
    ·rename_i k1 hk;cases h;obtain⟨v,hv,_⟩:=Qu hz;exact⟨t,a,d,el,v,rfl,hT,hv,hk⟩
    ·cases h
   ·cases h
  ·cases h
 | call c =>
  exfalso;obtain⟨cal,ops,tys⟩:=c;cases cal with
  | value x =>
   have h':callK P ((rdK x).run e) ((rdsK ops.toList).run e) = .recv k ok:=by
    rcases Oa h with⟨_,_,_,_,_,_,f⟩|f|f
    ·cases f
    ·cases f
    ·exact f
   rcases Po h' (by simp) with⟨_,_,_,_,_,g⟩|⟨_,_,g⟩<;>cases g
  | builtin b=>cases hh
  | invoke r n=>cases hh
 | defer c =>
  exfalso;unfold opK at h;dsimp only at h;split at h
  ·dsimp only at h;split at h<;>cases h
  ·cases h
 | send a b=>exfalso;unfold opK at h;dsimp only at h;split at h<;>cases h
 | go c=>exfalso;unfold opK at h;dsimp only at h;split at h<;>cases h
 | _=>cases hh
theorem Boj{o k x}(h:(opK P o).run e m = .send k x):
  ∃a b,o = .send a b/\(rdK a).run e = .c k/\(rdK b).run e=x:=by
 have hh:=Zm (P:=P) (o:=o) (e:=e) (m:=m) (by rw[h];exact id);cases o with
 | send a b =>
  unfold opK at h;dsimp only at h;split at h
  ·rename_i k1 hk;cases h;exact⟨a,b,rfl,hk,rfl⟩
  ·cases h
 | recv t a ok =>
  exfalso;unfold opK at h;dsimp only at h;split at h
  ·split at h
   ·dsimp only at h;split at h<;>cases h
   ·cases h
  ·cases h
 | call c =>
  exfalso;obtain⟨cal,ops,tys⟩:=c;cases cal with
  | value y =>
   have h':callK P ((rdK y).run e) ((rdsK ops.toList).run e) = .send k x:=by
    rcases Oa h with⟨_,_,_,_,_,_,d⟩|d|d
    ·cases d
    ·cases d
    ·exact d
   rcases Po h' (by simp) with⟨_,_,_,_,_,f⟩|⟨_,_,f⟩<;>cases f
  | builtin b=>cases hh
  | invoke r n=>cases hh
 | defer c =>
  exfalso;unfold opK at h;dsimp only at h;split at h
  ·dsimp only at h;split at h<;>cases h
  ·cases h
 | go c=>exfalso;unfold opK at h;dsimp only at h;split at h<;>cases h
 | _=>cases hh
theorem Bbs{o x}(h:(opK P o).run e m = .dclose x):
  ∃t tys,o = .defer ⟨.builtin .close,#[.tmp t],tys⟩/\e.get t=some x:=by
 have hh:=Zm (P:=P) (o:=o) (e:=e) (m:=m) (by rw[h];exact id);cases o with
 | defer c =>
  obtain⟨cal,ops,tys⟩:=c;unfold opK at h;dsimp only at h;split at h
  ·rename_i t ho;dsimp only at h;split at h
   ·rename_i y hy;cases h;refine⟨t,tys,?_,hy⟩;have:ops = #[.tmp t]:=by apply Array.ext';simpa using ho
    rw[this]
   ·cases h
  ·cases h
 | recv t a ok =>
  exfalso;unfold opK at h;dsimp only at h;split at h
  ·split at h
   ·dsimp only at h;split at h<;>cases h
   ·cases h
  ·cases h
 | call c =>
  exfalso;obtain⟨cal,ops,tys⟩:=c;cases cal with
  | value y =>
   have h':callK P ((rdK y).run e) ((rdsK ops.toList).run e) = .dclose x:=by
    rcases Oa h with⟨_,_,_,_,_,_,d⟩|d|d
    ·cases d
    ·cases d
    ·exact d
   rcases Po h' (by simp) with⟨_,_,_,_,_,f⟩|⟨_,_,f⟩<;>cases f
  | builtin b=>cases hh
  | invoke r n=>cases hh
 | send a b=>exfalso;unfold opK at h;dsimp only at h;split at h<;>cases h
 | go c=>exfalso;unfold opK at h;dsimp only at h;split at h<;>cases h
 | _=>cases hh
end
end
section
def xOkL(l:List CV):Bool:=CV.rec_1 (motive_1:=fun _=>Bool) (motive_2:=fun _=>Bool) false (fun _=>true) (fun _ _=>true) (fun _=>true) true (fun _ _=>true) true (fun _ _ _ _ _=>true) true (fun _=>true) true (fun _=>true) true (fun _ _ _ a b=>a&&b) (fun _=>true) true (fun _ _ a=>a) (fun _ a=>a) (fun _ a=>a) true (fun _ _ a b=>a&&b) l
theorem Ua(a:CV)(l:List CV):xOkL (a::l)=(xOkV a&&xOkL l):=rfl
theorem Bza(g:Nat)(xs ys:List CV):xOkV (.f g xs ys)=(xOkL xs&&xOkL ys):=rfl
theorem Byz(t:Nat)(v:CV):xOkV (.a t v)=xOkV v:=rfl
theorem Bzb(l:List CV):xOkV (.g l)=xOkL l:=rfl
theorem Bzc(l:List CV):xOkV (.t l)=xOkL l:=rfl
theorem VR.uniq{R l v}(h:VR R l v):∀{v':List Value},VR R l v'->xOkL l=true->v=v':=by
 induction h with
 | nil=>intro v' h' _;cases h';rfl
 | bad _ _ ih=>intro v' h' hk;cases hk
 | b x _ ih=>intro v' h' hk;cases h' with|b _ h'=>rw[ih h' hk]
 | i k n _ ih=>intro v' h' hk;cases h' with|i _ _ h'=>rw[ih h' hk]
 | s x _ ih=>intro v' h' hk;cases h' with|s _ h'=>rw[ih h' hk]
 | pn _ ih=>intro v' h' hk;cases h' with|pn h'=>rw[ih h' hk]
 | p h1 _ ih=>intro v' h' hk;cases h' with|p h2 h'=>rw[h1]at h2;cases h2;rw[ih h' hk]
 | sn _ ih=>intro v' h' hk;cases h' with|sn h'=>rw[ih h' hk]
 | slK h1 _ ih=>intro v' h' hk;cases h' with|slK h2 h'=>rw[h1]at h2;cases h2;rw[ih h' hk]
 | slU h1 _ ih=>intro v' h' hk;cases h' with|slU h2 h'=>rw[h1]at h2;cases h2;rw[ih h' hk]
 | mn _ ih=>intro v' h' hk;cases h' with|mn h'=>rw[ih h' hk]
 | m h1 _ ih=>intro v' h' hk;cases h' with|m h2 h'=>rw[h1]at h2;cases h2;rw[ih h' hk]
 | cn _ ih=>intro v' h' hk;cases h' with|cn h'=>rw[ih h' hk]
 | c h1 _ ih=>intro v' h' hk;cases h' with|c h2 h'=>rw[h1]at h2;cases h2;rw[ih h' hk]
 | fn _ ih=>intro v' h' hk;cases h' with|fn h'=>rw[ih h' hk]
 | f g h1 h2 h3 ih1 ih2 ih3 =>
  intro v' h' hk;rw[Ua,Bza,Oc,Oc]at hk;cases h' with|f _ g1 g2 g3=>rw[ih1 g1 hk.1.1,ih2 g2 hk.1.2,ih3 g3 hk.2]
 | y h1 _ ih=>intro v' h' hk;cases h' with|y h2 h'=>rw[h1]at h2;cases h2;rw[ih h' hk]
 | n _ ih=>intro v' h' hk;cases h' with|n h'=>rw[ih h' hk]
 | a t h1 h2 ih1 ih2 =>
  intro v' h' hk;rw[Ua,Byz,Oc]at hk;cases h' with|a _ g1 g2 =>
   have:=ih1 g1 (by rw[Ua,hk.1];rfl);cases this;rw[ih2 g2 hk.2]
 | g h1 h2 ih1 ih2 =>
  intro v' h' hk;rw[Ua,Bzb,Oc]at hk;cases h' with|g g1 g2=>rw[ih1 g1 hk.1,ih2 g2 hk.2]
 | t h1 h2 ih1 ih2 =>
  intro v' h' hk;rw[Ua,Bzc,Oc]at hk;cases h' with|t g1 g2=>rw[ih1 g1 hk.1,ih2 g2 hk.2]
theorem V1.uniq{R x v v'}(h:V1 R x v)(h':V1 R x v')(hk:xOkV x=true):v=v':=by have:=VR.uniq h h' (by rw[Ua,hk];rfl);cases this;rfl
def plainV:CV->Value
 | .b x=>.bool x
 | .i k n=>.int k n
 | .s x=>.string ⟨x.toArray⟩
 | _=>undef
theorem Boq{R x v}(hx:xPlainV x=true)(h:V1 R x v):v=plainV x:=by
 cases x with
 | b y=>cases h;rfl
 | i k n=>cases h;rfl
 | s y=>cases h;rfl
 | _=>cases hx
theorem Bop(R:XR){x}(hx:xPlainV x=true):V1 R x (plainV x):=by
 cases x with
 | b y=>exact .b _ .nil
 | i k n=>exact .i _ _ .nil
 | s y=>exact .s _ .nil
 | _=>cases hx
theorem Aye(R:XR):∀{l:List CV},(∀x∈l,xPlainV x=true)->VR R l (l.map plainV)
 | [],_=>.nil
 | x::l,h=>VR.cons_iff.2 ⟨Bop R (h x mC),Aye R fun y hy=>h y (lZ0 _ hy)⟩
end
section
open Go Go.Conc
structure Kept(m m':Mem):Prop where
 nx:m.nx<=m'.nx
 ex:∃w,m'.log=w++m.log/\m'.ln=m.ln+w.length/\∀k,k<m.nx->k∉w->m'.obj k=m.obj k
 outs:∃w,m'.outs=w++m.outs/\∀x∈w,xPlainV x=true
theorem Amu{m m':Mem}{k}(h:m'.M.get k=m.M.get k):m'.obj k=m.obj k:=by unfold Mem.obj;rw[h]
theorem LogOk.kept{m m'}(h:LogOk m m'):Kept m m' :=
 ⟨h.nx,let ⟨w,h1,h2,h3⟩:=h.ex;⟨w,h1,h2,fun k hk hn=>Amu (h3 k hk hn)⟩,[],by rw[h.outs];rfl,by simp⟩
theorem Kept.refl(m:Mem):Kept m m:=(LogOk.refl m).kept
theorem Kept.trans{m m' m''}(h:Kept m m')(h':Kept m' m''):Kept m m'':=by
 obtain⟨w,a,b,c⟩:=h.ex;obtain⟨w',d,e,f⟩:=h'.ex;obtain⟨u,g,i⟩:=h.outs;obtain⟨u',j,n⟩:=h'.outs;refine⟨To h.nx h'.nx,⟨w'++w,by rw[d,a,Gv],by rw[e,b,lZ3];omega,fun k hk hn=>?_⟩,u'++u,by rw[j,g,Gv],fun x hx=>?_⟩
 ·rw[f k (Nn hk h.nx) (fun hm=>hn (Pw _ hm)),c k hk (fun hm=>hn (Ol _ hm))]
 ·exact(Ho.1 hx).elim (n x) (i x)
theorem Kept.rest{m m'}(h:Kept m m'):Kept m (xRest m' m.outs):=⟨h.nx,h.ex,[],rfl,by simp⟩
structure GoT(C:Ctx) where
 Go:List CV->Frame->List Frame->Ro->Own->Prop
 suf:List CV->Prop
 bind:∀{o S fr cs Y Z},GoesH C S fr cs Y Z->(∀fr cs Y Z,S fr cs Y Z->Go o fr cs Y Z)->Go o fr cs Y Z
 less:∀w o,suf (w++o)->suf o
 rk:XR->Prop
 rkm:∀R R',XR.le R R'->rk R->rk R'
def goT(C:Ctx)(S:Cy):GoT C:=⟨fun _=>GoesH C S,fun _=>True,fun h hk=>h.bind hk,fun _ _ h=>h,fun _=>True,fun _ _ _ h=>h⟩
def Ayw(P:Program)(c kc:Nat)(fin:List CV):GoT (Wn P) :=
  ⟨fun o fr cs Y Z => ∀l, fin=l++o -> SendI P c (l.reverse.map plainV) fr cs Y Z, fun o => ∃l, fin=l++o, fun h hk l hl => SendI.of_goes h fun fr cs Y Z hs => hk fr cs Y Z hs l hl,
   fun w o ⟨l,h⟩=>⟨l++w,by rw[h,Gv]⟩,
   fun R=>∃cc,R kc=some (c,cc),fun _ _ hR ⟨cc,h⟩=>⟨cc,hR _ _ h⟩⟩
section
variable{C:Ctx}{G:GoT C}{o o' o1:List CV}{fr fr':Frame}{cs cs':List Frame}{Y:Ro}{Z:Own}
theorem GoT.less_of(G:GoT C){m m'}(h:Kept m m')(hs:G.suf m'.outs):G.suf m.outs:=by obtain⟨w,a,_⟩:=h.outs;rw[a]at hs;exact G.less w _ hs
theorem GoT.move(G:GoT C)(h:∀W,stepG C.P C.main (Conc.G fr cs) W = .go (Conc.G fr' cs') W #[])(hk:G.Go o fr' cs' Y Z):G.Go o fr cs Y Z :=
 G.bind (Eh h (.stop (S:=fun a b c d=>a=fr'/\b=cs'/\c=Y/\d=Z) ⟨rfl,rfl,rfl,rfl⟩)) (by rintro _ _ _ _ ⟨rfl,rfl,rfl,rfl⟩;exact hk)
end
def Reach{C:Ctx}(G:GoT C)(b:FB)(n:Nat)(c:Code)(o:List CV)(e:Env)(ds:List Deferred)(Y:Ro)(Z:Own)(ex:Ex)(o':List CV)(Q:Env->List Deferred->Ro->Own->Prop):Prop :=
 ∀tm k cs,EnvOf n tm e->(∀tm' e' ds' Y' Z' todo,EnvOf n tm' e'->Q e' ds' Y' Z'->Pl ex k todo->G.Go o' (Fr b tm' ds' todo) cs Y' Z')->G.Go o (Fr b tm ds (.code c::k)) cs Y Z
section
variable{C:Ctx}{G:GoT C}{b:FB}{n:Nat}{o o1 o':List CV}{e:Env}{ds:List Deferred}{Y:Ro}{Z:Own}{ex:Ex}{Q Q':Env->List Deferred->Ro->Own->Prop}
theorem Reach.mono{c}(h:Reach G b n c o e ds Y Z ex o' Q)(hq:∀e ds Y Z,Q e ds Y Z->Q' e ds Y Z):Reach G b n c o e ds Y Z ex o' Q' :=
 fun tm k cs ht hk=>h tm k cs ht fun tm' e' ds' Y' Z' i d f g=>hk tm' e' ds' Y' Z' i d (hq _ _ _ _ f) g
theorem Reach.wp{S:Cy}{c Q}(h:∀S:Cy,Reach (goT C S) b n c o e ds Y Z ex o' (fun e ds Y Z=>Q ex e ds Y Z)):WpC C b n c Q e ds Y Z:=fun tm k cs ht =>
 h _ tm k cs ht fun tm' e' ds' Y' Z' g a d f=>.stop (.inl ⟨rfl,ex,tm',e',ds',g,a,d,f,rfl⟩)
theorem Reach.of_wp{c}(h:WpC C b n c (fun ex' e ds Y Z=>ex'=ex/\Q e ds Y Z) e ds Y Z):Reach G b n c o e ds Y Z ex o Q:=fun tm k cs ht hk =>
 G.bind (h.stops tm k cs ht) (by rintro _ _ _ _ ⟨rfl,ex,tm',e',ds',g,a,⟨rfl,d⟩,f,rfl⟩;exact hk _ _ _ _ _ _ a d f)
theorem Byd(h:Q e ds Y Z):Reach G b n .skip o e ds Y Z .normal o Q:=fun tm k cs ht hk =>
 G.move (fr':=Fr b tm ds k) (cs':=cs) (fun W=>by simp[Conc.G,stepG,stepG.exec,Fr]) (hk tm e ds Y Z k ht h rfl)
theorem Cat(h:Q e ds Y Z):Reach G b n .ret o e ds Y Z .ret o Q:=fun tm k cs ht hk=>hk tm e ds Y Z _ ht h ⟨[],rfl⟩
theorem Bya{id}(h:Q e ds Y Z):Reach G b n (.exit id) o e ds Y Z (.exit id) o Q:=fun tm k cs ht hk=>hk tm e ds Y Z _ ht h ⟨[],by simp,rfl⟩
theorem Cau{x y}(h:Reach G b n x o e ds Y Z .normal o1 (fun e ds Y Z=>Reach G b n y o1 e ds Y Z ex o' Q)):Reach G b n (.seq x y) o e ds Y Z ex o' Q:=fun tm k cs ht hk=>by
 refine G.move (fr':=Fr b tm ds (.code x :: .code y::k)) (cs':=cs) (fun W=>by simp[Conc.G,stepG,stepG.exec,Fr]) ?_;refine h tm (.code y::k) cs ht fun tm' e' ds' Y' Z' f a c d=>?_;cases d;exact c tm' k cs a hk
theorem Byc{x y}(hx:ex ≠ .normal)(h:Reach G b n x o e ds Y Z ex o' Q):Reach G b n (.seq x y) o e ds Y Z ex o' Q:=fun tm k cs ht hk=>by
 refine G.move (fr':=Fr b tm ds (.code x :: .code y::k)) (cs':=cs) (fun W=>by simp[Conc.G,stepG,stepG.exec,Fr]) ?_;exact h tm (.code y::k) cs ht fun tm' e' ds' Y' Z' f a c d=>hk _ _ _ _ _ _ a c (He hx (fun _=>rfl) d)
theorem Bpb{q x y t}(hc:Af e q = .bool t)(h1:t=true->Reach G b n x o e ds Y Z ex o' Q)(h0:t=false->Reach G b n y o e ds Y Z ex o' Q):Reach G b n (.cond q x y) o e ds Y Z ex o' Q:=fun tm k cs ht hk=>by
 have hev:(Fr b tm ds (.code (.cond q x y)::k)).eval q = .bool t:=by rw[ht.eval];exact hc
 refine G.move (fr':=Fr b tm ds (.code (if t then x else y)::k)) (cs':=cs) (fun W=>?_) ?_
 ·simp only[Fr]at hev;simp[Conc.G,stepG,stepG.exec,Fr,hev]
 ·cases t with
  | true=>exact h1 rfl tm k cs ht hk
  | false=>exact h0 rfl tm k cs ht hk
theorem Bty{id x}(h:Reach G b n x o e ds Y Z .normal o' Q):Reach G b n (.block id x) o e ds Y Z .normal o' Q:=fun tm k cs ht hk=>by
 refine G.move (fr':=Fr b tm ds (.code x :: .inBlock id::k)) (cs':=cs) (fun W=>by simp[Conc.G,stepG,stepG.exec,Fr]) ?_;refine h tm (.inBlock id::k) cs ht fun tm' e' ds' Y' Z' f a c d=>?_;cases d;exact G.move (fr':=Fr b tm' ds' k) (cs':=cs) (fun W=>by simp[Conc.G,stepG,stepG.exec,Fr]) (hk _ _ _ _ _ _ a c rfl)
theorem Boy{id x}(h:Reach G b n x o e ds Y Z (.exit id) o' Q):Reach G b n (.block id x) o e ds Y Z .normal o' Q:=fun tm k cs ht hk=>by
 refine G.move (fr':=Fr b tm ds (.code x :: .inBlock id::k)) (cs':=cs) (fun W=>by simp[Conc.G,stepG,stepG.exec,Fr]) ?_;refine h tm (.inBlock id::k) cs ht fun tm' e' ds' Y' Z' f a c d=>?_;obtain⟨pre,hp,rfl⟩:=d;refine G.move (fr':=Fr b tm' ds' k) (cs':=cs) (fun W=>?_) (hk _ _ _ _ _ _ a c rfl);have:exitTo id (pre ++ .inBlock id::k)=some k:=by rw[Mj hp];simp[exitTo]
 simp[Conc.G,stepG,stepG.exec,Fr,this]
theorem Bpa{id id' x}(hid:id'≠id)(h:Reach G b n x o e ds Y Z (.exit id') o' Q):Reach G b n (.block id x) o e ds Y Z (.exit id') o' Q:=fun tm k cs ht hk=>by
 refine G.move (fr':=Fr b tm ds (.code x :: .inBlock id::k)) (cs':=cs) (fun W=>by simp[Conc.G,stepG,stepG.exec,Fr]) ?_;refine h tm (.inBlock id::k) cs ht fun tm' e' ds' Y' Z' f a c d=>?_;obtain⟨pre,hp,rfl⟩:=d;refine hk _ _ _ _ _ _ a c ⟨pre++[.inBlock id],fun y hy=>?_,by simp⟩;rcases Ho.1 hy with hy|hy
 ·exact hp y hy
 ·rw[Mk.1 hy];simp[Wc,Ne.symm hid]
theorem Boz{id x}(h:Reach G b n x o e ds Y Z .ret o' Q):Reach G b n (.block id x) o e ds Y Z .ret o' Q:=fun tm k cs ht hk=>by
 refine G.move (fr':=Fr b tm ds (.code x :: .inBlock id::k)) (cs':=cs) (fun W=>by simp[Conc.G,stepG,stepG.exec,Fr]) ?_;refine h tm (.inBlock id::k) cs ht fun tm' e' ds' Y' Z' f a c d=>?_;obtain⟨pre,rfl⟩:=d;exact hk _ _ _ _ _ _ a c ⟨pre++[.inBlock id],by simp⟩
theorem Btz{l:Nat}(h:Q e ds Y Z):Reach G b n (.label l) o e ds Y Z .normal o Q:=fun tm k cs ht hk =>
 G.move (fr':=Fr b tm ds k) (cs':=cs) (fun W=>by simp[Conc.G,stepG,stepG.exec,Fr]) (hk tm e ds Y Z k ht h rfl)
theorem Bua{x:Code}(h:Reach G b n x o e ds Y Z ex o' Q):Reach G b n (.scope x) o e ds Y Z ex o' Q:=fun tm k cs ht hk=>by
 refine G.move (fr':=Fr b tm ds (.code x :: .inScope x::k)) (cs':=cs) (fun W=>by simp[Conc.G,stepG,stepG.exec,Fr]) ?_;refine h tm (.inScope x::k) cs ht fun tm' e' ds' Y' Z' g c d f=>?_;by_cases hn:ex = .normal
 ·subst hn;cases f;exact G.move (fr':=Fr b tm' ds' k) (cs':=cs) (fun W=>by simp[Conc.G,stepG,stepG.exec,Fr]) (hk _ _ _ _ _ _ c d rfl)
 ·exact hk _ _ _ _ _ _ c d (He hn (fun _=>rfl) f)
def LoopR(G:GoT C)(b:FB)(n:Nat)(x:Code)(o:List CV)(e:Env)(ds:List Deferred)(Y:Ro)(Z:Own)(ex:Ex)(o':List CV)(Q:Env->List Deferred->Ro->Own->Prop):Prop :=
 ∀tm k cs,EnvOf n tm e->(∀tm' e' ds' Y' Z' todo,EnvOf n tm' e'->Q e' ds' Y' Z'->Pl ex k todo->G.Go o' (Fr b tm' ds' todo) cs Y' Z')->G.Go o (Fr b tm ds (.code x :: .inLoop x::k)) cs Y Z
theorem Bnf{x}(hx:ex ≠ .normal)(h:Reach G b n x o e ds Y Z ex o' Q):LoopR G b n x o e ds Y Z ex o' Q:=fun tm k cs ht hk =>
 h tm (.inLoop x::k) cs ht fun tm' e' ds' Y' Z' f a c d=>hk _ _ _ _ _ _ a c (He hx (fun _=>rfl) d)
theorem Bhw{x}(h:Reach G b n x o e ds Y Z .normal o1 (fun e ds Y Z=>LoopR G b n x o1 e ds Y Z ex o' Q)):LoopR G b n x o e ds Y Z ex o' Q:=fun tm k cs ht hk=>by
 refine h tm (.inLoop x::k) cs ht fun tm' e' ds' Y' Z' f a c d=>?_;cases d;exact G.move (fr':=Fr b tm' ds' (.code x :: .inLoop x::k)) (cs':=cs) (fun W=>by simp[Conc.G,stepG,stepG.exec,Fr]) (c tm' k cs a hk)
theorem Byb{x}(h:LoopR G b n x o e ds Y Z ex o' Q):Reach G b n (.loop x) o e ds Y Z ex o' Q:=fun tm k cs ht hk =>
 G.move (fr':=Fr b tm ds (.code x :: .inLoop x::k)) (cs':=cs) (fun W=>by simp[Conc.G,stepG,stepG.exec,Fr]) (h tm k cs ht hk)
theorem LoopR.mono{c}(h:LoopR G b n c o e ds Y Z ex o' Q)(hq:∀e ds Y Z,Q e ds Y Z->Q' e ds Y Z):LoopR G b n c o e ds Y Z ex o' Q' :=
 fun tm k cs ht hk=>h tm k cs ht fun tm' e' ds' Y' Z' i d f g=>hk tm' e' ds' Y' Z' i d (hq _ _ _ _ f) g
theorem Bfa{ops i rest K}(hs:Fu n ops=true)(hk:b.kind ≠ .early)(h:OpH C b ops i K e ds Y Z){tm k cs}(ht:EnvOf n tm e):
  GoesH C (fun fr cs' Y' Z'=>cs'=cs/\∃tm' e' ds',EnvOf n tm' e'/\K e' ds' Y' Z'/\fr=Fr b tm' ds' (.inRegion ops rest::k)) (Fr b tm ds (.inRegion ops (i::rest)::k)) cs Y Z:=by
 unfold OpH at h;cases ho:ops[i]? with
 | none=>simp only[ho]at h
 | some op =>
  simp only[ho]at h;have hev:=ht.eval b ds (.inRegion ops (i::rest)::k);split at h
  ·rename_i hw;refine .step (fun fr' cs' Z'=>∃nx,NextH C (fun v=>K (Ja e op.dst v)) b.round ds Y nx Z'/\Ss C.P (Fr b tm ds (.inRegion ops (i::rest)::k)) cs nx fr' cs') (fun W x=>?_) ?_
   ·obtain⟨nx,Z',W',es,m,g,p,q⟩:=Rr _ Z _ W #[] h x;have hd:∀c,op.op = .defer c->b.round=none:=by
     intro c hc;have hx:∃d,nx = .defer d:=by
      have w:execOp (Af e) op=(resolve (Af e) c op.type).bind fun d=>pure (Next.defer d):=by
       unfold execOp;rw[hc];rfl
      rw[w,Sem.runT_bind']at m;split at m
      ·rename_i a' w' es' _;have:(Result.ok (Next.defer a') w',es')=(Result.ok nx W',es):=m;simp only[Prod.mk.injEq,Result.ok.injEq]at this;exact⟨a',this.1.1.symm⟩
      ·simp at m
     obtain⟨d,rfl⟩:=hx;exact g.1
    have hnx:∃fr' cs',Ss C.P (Fr b tm ds (.inRegion ops (i::rest)::k)) cs nx fr' cs':=by
     cases nx<;>simp only[NextH]at g<;>exact⟨_,_,rfl,rfl⟩
    obtain⟨fr',cs',es',t,j,u⟩:=Sx (s:=execOp (Af e) op) (by exact hk) (by simp[Fr]) m hnx;refine⟨fr',cs',W',es',Z',?_,p,fun ev he=>Atf q (u ev he),nx,g,j⟩;rw[Np ho (by rw[Ij hs ht];exact hw) hd,hev];exact t
   ·rintro fr' cs' Z' ⟨nx,g,j⟩;cases nx<;>simp only[NextH]at g
    case value v =>
     obtain⟨rfl,rfl⟩:=j;rw[Ju ho];exact .stop ⟨rfl,_,_,_,Jj hs ht ho v,g,rfl⟩
    case skip =>
     obtain⟨rfl,rfl⟩:=j;rw[Ju ho];exact .stop ⟨rfl,_,_,_,Jj hs ht ho undef,g,rfl⟩
    case defer d =>
     obtain⟨rfl,rfl⟩:=j;have:Frame.finish {Fr b tm ds (.inRegion ops (i::rest)::k) with defers:=d::(Fr b tm ds (.inRegion ops (i::rest)::k)).defers} undef=(Fr b tm (d::ds) (.inRegion ops (i::rest)::k)).finish undef:=rfl;rw[this,Ju ho];exact .stop ⟨rfl,_,_,_,Jj hs ht ho undef,g.2,rfl⟩
    case enter f args =>
     obtain⟨rfl,rfl⟩:=j;refine(g _ cs).bind ?_;rintro _ _ Y' Z'' ⟨v,rfl,rfl,hv⟩;rw[Ju ho];exact .stop ⟨rfl,_,_,_,Jj hs ht ho v,hv,rfl⟩
    case round l f tmps assign body =>
     obtain⟨rfl,rfl⟩:=j;refine(g _ cs).bind ?_;rintro _ _ Y' Z'' ⟨v,rfl,rfl,hv⟩;rw[Ju ho];exact .stop ⟨rfl,_,_,_,Jj hs ht ho v,hv,rfl⟩
  ·rename_i hw;refine Eh (fun W=>Abu ho (by rw[Ij hs ht];simpa using hw) W) ?_;rw[Ju ho];exact .stop ⟨rfl,_,_,_,Jj hs ht ho undef,h,rfl⟩
def Ops(G:GoT C)(b:FB)(n:Nat)(l₀ rest:List Oper)(o:List CV)(e:Env)(ds:List Deferred)(Y:Ro)(Z:Own)(o':List CV)(Q:Env->List Deferred->Ro->Own->Prop):Prop :=
 ∀pre,l₀=pre++rest->∀tm k cs,EnvOf n tm e->(∀tm' e' ds' Y' Z',EnvOf n tm' e'->Q e' ds' Y' Z'->G.Go o' (Fr b tm' ds' k) cs Y' Z')->G.Go o (Fr b tm ds (.inRegion l₀.toArray (List.range' pre.length rest.length)::k)) cs Y Z
theorem Bvg{l₀}(h:Q e ds Y Z):Ops G b n l₀ [] o e ds Y Z o Q:=fun pre _ tm k cs ht hk =>
 G.move (fr':=Fr b tm ds k) (cs':=cs) (fun W=>by simp[Conc.G,stepG,stepG.exec,Fr]) (hk tm e ds Y Z ht h)
theorem Bny{l₀ rest op}(hs:Fu n l₀.toArray=true)(hk:b.kind ≠ .early)(h:∀pre,l₀=pre++op::rest->OpH C b l₀.toArray pre.length (fun e ds Y Z=>Ops G b n l₀ rest o e ds Y Z o' Q) e ds Y Z):Ops G b n l₀ (op::rest) o e ds Y Z o' Q:=fun pre a tm k cs ht hq=>by
 rw[lZ9,Abo];refine G.bind (Bfa hs hk (h pre a) ht) ?_;rintro _ _ Y' Z' ⟨rfl,tm',e',ds',c,d,rfl⟩;have:=d (pre++[op]) (by rw[a];simp) tm' k _ c hq;rw[lZ3,Vy]at this;exact this
theorem Bxk{l₀ rest op}(hs:Fu n l₀.toArray=true)(hk:b.kind ≠ .early)(hw:Bz l₀.toArray op e=true)(h:wpS C.P Y (execOp (Af e) op) Z (NextH C (fun v ds Y Z=>Ops G b n l₀ rest o (Ja e op.dst v) ds Y Z o' Q) b.round ds Y)):Ops G b n l₀ (op::rest) o e ds Y Z o' Q :=
 Bny hs hk fun pre a=>by
  unfold OpH;have ho:l₀.toArray[pre.length]?=some op:=by subst a;simp
  rw[ho];simp only[hw,if_true];exact h
theorem Bnz{l₀ rest op}(hs:Fu n l₀.toArray=true)(hk:b.kind ≠ .early)(hw:Bz l₀.toArray op e=false)(h:Ops G b n l₀ rest o (Ja e op.dst undef) ds Y Z o' Q):Ops G b n l₀ (op::rest) o e ds Y Z o' Q :=
 Bny hs hk fun pre a=>by
  unfold OpH;have ho:l₀.toArray[pre.length]?=some op:=by subst a;simp
  rw[ho];simp only[hw,Aii,if_false];exact h
theorem Ayh{l₀ id}(h:Ops G b n l₀ l₀ o e ds Y Z o' Q):Reach G b n (.region id l₀.toArray false) o e ds Y Z .normal o' Q:=fun tm k cs ht hq=>by
 refine G.move (fr':=Fr b tm ds (.inRegion l₀.toArray (List.range l₀.toArray.size)::k)) (cs':=cs) (fun W=>by simp[Conc.G,stepG,stepG.exec,Fr]) ?_;rw[Aik,Bhp];exact h [] rfl tm k cs ht fun tm' e' ds' Y' Z' a c=>hq _ _ _ _ _ _ a c rfl
end
end
section
open Go Go.Conc
inductive DsR(R:XR):List CD->List Deferred->Prop
 | nil:DsR R [] []
 | mark {k b c:Nat} {l:List CD} {l':List Deferred}:R k=some (b,c)->DsR R l l'->DsR R (.mark k::l) ({target:=.collected b,args:=#[]}::l')
 | close {k b c:Nat} {tys:Array TypeId} {ty:TypeId} {l:List CD} {l':List Deferred}:R k=some (b,c)->DsR R l l'->DsR R (.close k::l) (Lj b tys ty #[false]::l')
theorem DsR.mono{R R'}(hR:XR.le R R'){l l'}(h:DsR R l l'):DsR R' l l':=by
 induction h with
 | nil=>exact .nil
 | mark h _ ih=>exact .mark (hR _ _ h) ih
 | close h _ ih=>exact .close (hR _ _ h) ih
structure Sim(R:XR)(st:St)(e:Env)(ds:List Deferred)(Y:Ro)(Z Z9:Own):Prop where
 env:EnvR R st.e e
 mem:MemX R st.m Y Z Z9
 ds:DsR R st.ds ds
def RdOk{C:Ctx}(G:GoT C)(R:XR)(rd:Option Nat)(b:FB):Prop:=G.rk R/\match rd with
 | none=>b.round=none
 | some k=>∃l c,b.round=some l/\R k=some (l,c)
theorem RdOk.mono{C}{G:GoT C}{R R' rd b}(h:RdOk G R rd b)(hR:XR.le R R'):RdOk G R' rd b:=by
 obtain⟨a,h⟩:=h;refine⟨G.rkm _ _ hR a,?_⟩;cases rd with
 | none=>exact h
 | some k=>obtain⟨l,c,d,e⟩:=h;exact⟨l,c,d,hR _ _ e⟩
def Ha:Ex->St->R
 | .normal,s=>.n s
 | .exit id,s=>.x id s
 | .ret,s=>.r s
def Bur{C:Ctx}(G:GoT C)(b:FB)(n:Nat)(rd:Option Nat)(c:Code)(st:St)(ex:Ex)(st':St):Prop :=
 Kept st.m st'.m/\(G.suf st'.m.outs->∀R e ds Y Z Z9,NoRecv Z9->RdOk G R rd b->Sim R st e ds Y Z Z9 ->
  Reach G b n c st.m.outs e ds Y Z ex st'.m.outs (fun e' ds' Y' Z'=>∃R',XR.le R R'/\Ro.le Y Y'/\Sim R' st' e' ds' Y' Z' Z9))
structure FnsOk(C:Ctx)(F:Fns):Prop where
 call:∀g args m x m',F.call g args m = .v x m'->Kept m m'/\∀R args' Y Z Z9,NoRecv Z9->VR R args args'->MemX R m Y Z Z9 ->
  CallsH C g args'.toArray Y Z (fun v Y' Z'=>∃R',XR.le R R'/\Ro.le Y Y'/\V1 R' x v/\MemX R' m' Y' Z' Z9)
 code:∀n rd c st ex st',F.code n rd c st=Ha ex st'->∀b S,b.kind ≠ .early->Bur (goT C S) b n rd c st ex st'
section
variable{C:Ctx}{R:XR}{m:Mem}{Y:Ro}{Z Z9:Own}
theorem MemX.rest{o}(h:MemX R m Y Z Z9):MemX R (xRest m o) Y Z Z9:=by obtain⟨L,G,h⟩:=h;exact⟨L,G,h.perm,h.nd,h.own,h.all,h.ro,h.gar,h.lt,h.glob⟩
theorem Ob{e e' d x v}(h:EnvR R e e')(hv:V1 R x v):EnvR R ((dstK d).run e x) (Ja e' d v):=by
 cases d with
 | none=>exact h
 | some d=>exact h.set hv
theorem Oq{l o e e'}(h:EnvR R e e')(hk:(gokK l o).run e=true):Bz l.toArray o e'=(guardK l o).run e:=by
 unfold gokK at hk;unfold Bz guardK;cases hg:o.guard with
 | none=>rfl
 | some jw =>
  obtain⟨j,w⟩:=jw;rw[hg]at hk;simp only at hk ⊢;unfold Ht;rw[Me];cases hd:(l[j]?).bind (·.dst) with
  | none=>rw[hd]at hk;cases hk
  | some d =>
   rw[hd]at hk;simp only at hk ⊢;split at hk
   ·rename_i x hx;rw[hx];have:=Anp (h d _ hx);rw[this];cases x<;>cases w<;>rfl
   ·rename_i x hx;rw[hx];obtain⟨l',_,hv⟩:=Cbc (h d _ hx);rw[hv];rfl
   ·cases hk
theorem Aah{n}:∀{l:List Oper},xSlotsN n l=true->Fu n l.toArray=true:=by
 intro l h;unfold Fu;rw[Bmu];induction l with
 | nil=>rfl
 | cons o l ih =>
  rw[Aqj,Oc];unfold xSlotsN at h;cases hd:o.dst with
  | none=>rw[hd]at h;exact⟨rfl,ih h⟩
  | some d =>
   rw[hd]at h;simp only at h;split at h
   ·rename_i hb;exact⟨by simp only[decide_eq_true_eq];exact lZ6 hb,ih h⟩
   ·cases h
theorem Akt{n:Nat}:∀{ps:List Nat} {args:List CV} {args':List Value} {tm:Array Value} {env:Tr CV} {e:Env},ps.length=args.length->xAllLt n ps=true->VR R args args'->EnvOf n tm e->EnvR R env e ->
  ∃e',EnvOf n ((ps.toArray.zip args'.toArray).foldl (fun tmps (t,a)=>tmps.setIfInBounds t a) tm) e'/\EnvR R (xPutP ps args env) e'
 | [],[],args',tm,env,e,_,_,hv,h1,h2=>by
  cases hv;exact⟨e,by simpa using h1,h2⟩
 | t::ps,a::args,[],tm,env,e,_,_,hv,h1,h2=>by cases hv
 | t::ps,a::args,a'::args',tm,env,e,hl,hlt,hv,h1,h2=>by
  obtain⟨v1,v2⟩:=VR.cons_iff.1 hv;have b:(match Nat.ble (Nat.succ t) n with|true=>xAllLt n ps|false=>false)=true:=hlt;split at b
  ·rename_i hb;have ht:t<n:=lZ6 hb;obtain⟨e',f,g⟩:=Akt (by simpa using hl) b v2 (h1.put ht a') (h2.set (d:=t) v1);refine⟨e',?_,g⟩;have c:(((t::ps).toArray.zip (a'::args').toArray).foldl (fun tmps (x:Nat×Value)=>tmps.setIfInBounds x.1 x.2) tm)=((ps.toArray.zip args'.toArray).foldl (fun tmps (x:Nat×Value)=>tmps.setIfInBounds x.1 x.2) (tm.setIfInBounds t a')):=by
    have h:(t::ps).toArray.zip (a'::args').toArray=((t,a')::ps.zip args').toArray:=by simp
    have i:ps.toArray.zip args'.toArray=(ps.zip args').toArray:=by simp
    rw[h,i,List.foldl_toArray,List.foldl_toArray];rfl
   exact c ▸ f
  ·cases b
 | [],_::_,_,_,_,_,hl,_,_,_,_=>by cases hl
 | _::_,[],_,_,_,_,hl,_,_,_,_=>by cases hl
end
section
variable{C:Ctx}{F:Fns}{st:St}{o:Op}
def Aus(C:Ctx)(o:Op)(st:St)(x:CV)(m':Mem)(ds':List CD):Prop :=
 Kept st.m m'/\m'.outs=st.m.outs/\ds'=st.ds/\∀R e ds Y Z Z9 rd dd ty pos af g,NoRecv Z9->Sim R st e ds Y Z Z9->wpS C.P Y (execOp (Af e) ⟨dd,o,ty,pos,af,g⟩) Z
  (NextH C (fun v ds1 Y' Z'=>ds1=ds/\∃R',XR.le R R'/\Ro.le Y Y'/\V1 R' x v/\MemX R' m' Y' Z' Z9) rd ds Y)
theorem Bom{x y m m' l l'}(h:OV.v x m l = .v y m' l'):x=y/\m=m'/\l=l':=by cases h;exact⟨rfl,rfl,rfl⟩
def allR:XR:=fun k=>some (k,0)
theorem Bkv(x:CV):∃v,V1 allR x v :=
 CV.rec (motive_1:=fun x=>∃v,V1 allR x v) (motive_2:=fun l=>∃l',VR allR l l')
  ⟨undef,.bad _ .nil⟩ (fun x=>⟨_,.b x .nil⟩) (fun k n=>⟨_,.i k n .nil⟩) (fun s=>⟨_,.s s .nil⟩) ⟨_,.pn .nil⟩ (fun k off=>⟨_,.p (k:=k) (off:=off) rfl .nil⟩) ⟨_,.sn .nil⟩
  (fun k off ln kn c=>by cases kn with
   | true=>exact⟨_,.slK (k:=k) (off:=off) (ln:=ln) (cp:=c) rfl .nil⟩
   | false=>exact⟨_,.slU (k:=k) (off:=off) (ln:=ln) (a:=c) rfl .nil⟩)
  ⟨_,.mn .nil⟩ (fun k=>⟨_,.m (k:=k) rfl .nil⟩) ⟨_,.cn .nil⟩ (fun k=>⟨_,.c (k:=k) rfl .nil⟩) ⟨_,.fn .nil⟩
  (fun g xs ys ⟨_,d⟩ ⟨_,e⟩=>⟨_,.f g d e .nil⟩) (fun k=>⟨_,.y (k:=k) rfl .nil⟩) ⟨_,.n .nil⟩ (fun t v ⟨_,h⟩=>⟨_,.a t h .nil⟩) (fun l ⟨_,h⟩=>⟨_,.g h .nil⟩) (fun l ⟨_,h⟩=>⟨_,.t h .nil⟩)
  ⟨_,.nil⟩ (fun x l ⟨_,h⟩ ⟨_,h'⟩=>⟨_,VR.cons_iff.2 ⟨h,h'⟩⟩) x
theorem Bwo(e:Tr CV):∃e':Env,EnvR allR e e':=by refine⟨fun t=>match e.get t with|some v=>(Bkv v).choose|none=>undef,fun t v h=>?_⟩;simp only[h];exact(Bkv v).choose_spec
theorem Bne{P o e m m' x}(h:(opK P o).run e m = .v x m'):LogOk m m'/\(xMild o=true->m'.nx=m.nx->m'=m):=by
 obtain⟨e',he⟩:=Bwo e;rcases Bez o allR e e' m x m' he (fun k _=>rfl) h with⟨rfl,_⟩|⟨a,b,_⟩
 ·exact⟨.refl _,fun _ _=>rfl⟩
 ·exact⟨a,fun hm hn=>absurd hn (b hm)⟩
theorem Cbp{x y m1 m' ds'}(he:(opK C.P o).run st.e st.m = .v x m1)(h:OV.v x m1 st.ds = .v y m' ds'):Aus C o st y m' ds':=by
 obtain⟨rfl,rfl,rfl⟩:=Bom h;have hk:=(Bne he).1;refine⟨hk.kept,hk.outs,rfl,fun R e ds Y Z Z9 rd dd ty pos af g hn hs=>?_⟩;rcases Bez o R st.e e st.m x m1 hs.env hs.mem.globR he with⟨rfl,v,hv,hw⟩|⟨_,_,hw⟩
 ·exact Eu (by rintro nx Z' ⟨rfl,rfl⟩;exact⟨rfl,R,.refl,.refl,hv,hs.mem⟩) _ _ (hw Y Z dd ty pos af g)
 ·refine Eu ?_ _ _ (hw Y Z Z9 dd ty pos af g hs.mem);rintro nx Z' ⟨R',v,a,d,b,c⟩;rcases d with rfl|⟨rfl,rfl⟩
  ·exact⟨rfl,R',a,.refl,b,c⟩
  ·exact⟨rfl,R',a,.refl,b,c⟩
theorem Bzx{x y k m' ds'}(he:(opK C.P o).run st.e st.m = .rd x k)(h:OV.v x st.m st.ds = .v y m' ds'):Aus C o st y m' ds':=by obtain⟨rfl,rfl,rfl⟩:=Bom h;refine⟨.refl _,rfl,rfl,fun R e ds Y Z Z9 rd dd ty pos af g hn hs=>?_⟩;obtain⟨v,hv,hw⟩:=Bbt o R st.e e st.m x k hs.env hs.mem.globR he R st.m Y Z Z9 hs.mem rfl rfl;exact Eu (by rintro nx Z' ⟨rfl,rfl⟩;exact⟨rfl,R,.refl,.refl,hv,hs.mem⟩) _ _ (hw dd ty pos af g)
theorem Bkr{f args y m' ds'}(hF:FnsOk C F)(he:(opK C.P o).run st.e st.m = .enter f args)(h:(match F.call f args st.m with | .v x m=>OV.v x (xRest m st.m.outs) st.ds | .bad=>.bad) = .v y m' ds'):Aus C o st y m' ds':=by
 split at h
 ·rename_i x m1 hc;obtain⟨rfl,rfl,rfl⟩:=Bom h;obtain⟨hk,j⟩:=hF.call f args st.m x m1 hc;refine⟨hk.rest,rfl,rfl,fun R e ds Y Z Z9 rd dd ty pos af g hn hs=>?_⟩;obtain⟨a,hv,hw⟩:=Bih hs.env hs.mem.globR he;refine hw _ Y Z dd ty pos af g ?_;refine(j R a Y Z Z9 hn hv hs.mem).mono ?_;rintro v Y' Z' ⟨R',b,c,d,i⟩;exact⟨rfl,R',b,c,d,i.rest⟩
 ·cases h
theorem MemX.at{R m Y Z Z9}(h:MemX R m Y Z Z9){k o}(hk:m.M.get k=some (.own o))(hd:o ≠ .dead):
  ∃(b c:Nat) (r:Res) (i:Nat),R k=some (b,c)/\Z[i]?=some (b,r)/\ObjR R c o r/\∀r' o',ObjR R c o' r'->MemX R (m.put k o') Y (Z.set i (b,r')) Z9:=by obtain⟨L,G,h⟩:=h;obtain⟨b,c,r,i,a,d,e,f⟩:=h.at hk hd;exact⟨b,c,r,i,a,d,e,fun r' o' ho=>h.put f a d ho⟩
end
end
section
open Go Go.Conc
section
variable{C:Ctx}{F:Fns}{st:St}{o:Op}
theorem FnsOk.kept(hF:FnsOk C F){n rd c s s' ex}(h:F.code n rd c s=Ha ex s'):Kept s.m s'.m :=
 (hF.code n rd c s ex s' h ⟨0,.normal,none⟩ (fun _ _ _ _=>True) (by simp)).1
theorem FnsOk.wp(hF:FnsOk C F){n rd c s s' ex}(h:F.code n rd c s=Ha ex s'){b}(hb:b.kind ≠ .early){R e ds Y Z Z9}(hn:NoRecv Z9)(hr:RdOk (goT C fun _ _ _ _=>True) R rd b)(hs:Sim R s e ds Y Z Z9):
  WpC C b n c (fun ex' e' ds' Y' Z'=>ex'=ex/\∃R',XR.le R R'/\Ro.le Y Y'/\Sim R' s' e' ds' Y' Z' Z9) e ds Y Z :=
 Reach.wp (S:=fun _ _ _ _=>True) (o:=s.m.outs) (o':=s'.m.outs) (ex:=ex) fun S=>((hF.code n rd c s ex s' h b S hb).2 trivial R e ds Y Z Z9 hn hr hs).mono fun e ds Y Z h=>⟨rfl,h⟩
theorem Yi{R c busy n pd env ps as_ body dk r}(h:ObjR R c (.loop busy pd n env ps as_ body dk) r):
  ∃L e' b c',r = .obj (.loop L)/\L.state=stB busy/\L.pending=pd/\EnvOf n L.tmps e'/\EnvR R env e'/\L.params=ps.toArray/\L.assign=as_/\L.body=body/\R dk=some (b,c')/\L.defers=b:=by
 cases h with
 | loop h1 h2 h3 h4 h5 h6 h7 h8 h9=>exact⟨_,_,_,_,rfl,h1,h2,h3,h4,h5,h6,h7,h8,h9⟩
theorem Bks{k args y m' ds'}(hF:FnsOk C F)(he:(opK C.P o).run st.e st.m = .round k args)(h:doOR F st (.round k args) = .v y m' ds'):Aus C o st y m' ds':=by
 simp only[doOR]at h;split at h
 ·rename_i pd0 n env ps as_ body dk0 hg0;split at h
  ·rename_i hlen hlt;split at h
   ·rename_i st1 hc1;split at h
    ·rename_i pd1 n1 env1 ps1 as1 body1 dk1 hds1 hg1;have fin:∀ex a,F.code n (some k) body ⟨st1.e,st1.m.put k (.loop 1 pd1 n1 env1 ps1 as1 body1 dk1),[]⟩=Ha ex a->xEndRound (xRest a.m st.m.outs) st.ds k (Pf ex) = .v y m' ds'->Aus C o st y m' ds':=by
      intro ex a f p;unfold xEndRound at p;split at p
      ·rename_i b3 pd3 n3 env3 ps3 as3 body3 dk3 hg3;obtain⟨rfl,rfl,rfl⟩:=Bom p;have X:a.m.M.get k=some (.own (.loop b3 pd3 n3 env3 ps3 as3 body3 dk3)):=hg3;have k1:=hF.kept (ex:=.normal) hc1;have k3:=hF.kept f;refine⟨(((k1.trans (LogOk.put _ _ _).kept).trans k3).rest).trans (LogOk.put _ _ _).kept,rfl,rfl,fun R e ds Y Z Z9 rd dd ty pos af g hn hs=>?_⟩;obtain⟨a0,b,c,hR,hv,hw⟩:=Bii hs.env hs.mem.globR he;refine hw _ Y Z dd ty pos af g ?_;obtain⟨b',c',r,i,z,U,V,_⟩:=hs.mem.at hg0 (by simp);rw[hR]at z;cases z;obtain⟨L,e0,db,dc,rfl,l1,l2,l3,l4,B,l6,l7,l8,l9⟩:=Yi V;have YQ:ps.length=args.length:=by
        have:=lZ8 hlen;rw[Ig,Ig]at this;exact this.symm
       have hl':=hv.len;refine Afw (L:=L) U (by rw[B];simp;omega) ?_;rw[B,l6,l7];obtain⟨e1,w1,w2⟩:=Akt YQ hlt hv l3 l4;refine Abr (n:=n) w1 ?_;refine Adw (hF.wp (ex:=.normal) hc1 (b:=⟨L.fn,.normal,some b⟩) (by simp) (R:=R) hn ⟨trivial,b,c,rfl,hR⟩ ⟨w2,hs.mem,.nil⟩) ?_;rintro a8 e2 K a9 ab ⟨rfl,J,q,q2,t⟩;obtain⟨b1,c1,r1,i1,x,N,O,T⟩:=t.mem.at hg1 (by simp);rw[q _ _ hR]at x;cases x;obtain⟨H,a6,a1,a3,rfl,t1,t2,t3,t4,t5,t6,t7,t8,t9⟩:=Yi O;have W:K=[]:=by
        have:=t.ds;rw[hds1]at this;cases this;rfl
       refine⟨rfl,W,i1,H,N,t1,?_⟩;refine Adw (hF.wp f (b:=⟨L.fn,.normal,some b⟩) (by simp) (R:=J) hn ⟨trivial,b,c,rfl,q _ _ hR⟩ ⟨t.env,T _ _ (.loop rfl t2 t3 t4 t5 t6 t7 t8 t9),.nil⟩) ?_;rintro j e3 a5 aa ac ⟨rfl,w,D,q4,ZQ⟩;obtain⟨b2,c2,r2,i2,E,u2,u3,u4⟩:=ZQ.mem.at X (by simp);rw[D _ _ (q _ _ hR)]at E;cases E;obtain⟨u,a7,a2,a4,rfl,v1,v2,v3,v4,v5,v6,v7,v8,v9⟩:=Yi u3;refine⟨i2,u,u2,rfl,w,q.trans D,q2.trans q4,?_,?_⟩
       ·cases j<;>exact .b _ .nil
       ·have hob:ObjR w c (.loop (match Pf j with|none=>0|some _=>2) (Pf j) n3 env3 ps3 as3 body3 dk3) (.obj (.loop {u with state:=if (Pf j).isNone then .ready else .done,pending:=Pf j})):=by
         refine .loop ?_ rfl v3 v4 v5 v6 v7 v8 v9;cases j<;>rfl
        have:=u4 _ _ hob;obtain⟨I,G,d⟩:=this;exact⟨I,G,d.perm,d.nd,d.own,d.all,d.ro,d.gar,d.lt,d.glob⟩
      ·cases p
     split at h
     ·rename_i a f;exact fin .normal a f h
     ·rename_i id a f;exact fin (.exit id) a f h
     ·rename_i a f;exact fin .ret a f h
     ·cases h
    ·cases h
   ·cases h
  ·cases h
 ·cases h
theorem Zk{y m' ds'}(hF:FnsOk C F)(h:doOR F st ((opK C.P o).run st.e st.m) = .v y m' ds'):Aus C o st y m' ds':=by
 cases he:(opK C.P o).run st.e st.m with
 | v x m=>rw[he]at h;exact Cbp he h
 | rd x k=>rw[he]at h;exact Bzx he h
 | enter f args=>rw[he]at h;exact Bkr hF he h
 | round k args=>rw[he]at h;exact Bks hF he h
 | go f args=>rw[he]at h;cases h
 | recv k ok=>rw[he]at h;cases h
 | send k x=>rw[he]at h;cases h
 | dclose x=>rw[he]at h;cases h
 | bad=>rw[he]at h;cases h
end
def Abb{C:Ctx}(G:GoT C)(F:Fns)(dx:DX):Prop:=∀(op:Oper) (st:St) x m' ds' rd,dx.run F rd st ((opK C.P op.op).run st.e st.m) = .v x m' ds'->Kept st.m m' /\
 ∀b n l₀ rest o' Q R e ds Y Z Z9,NoRecv Z9->RdOk G R rd b->Sim R st e ds Y Z Z9->Fu n l₀.toArray=true->b.kind ≠ .early->Bz l₀.toArray op e=true->G.suf m'.outs ->
  (∀R' v ds1 Y' Z',XR.le R R'->Ro.le Y Y'->V1 R' x v->MemX R' m' Y' Z' Z9->DsR R' ds' ds1->Ops G b n l₀ rest m'.outs (Ja e op.dst v) ds1 Y' Z' o' Q) ->
  Ops G b n l₀ (op::rest) st.m.outs e ds Y Z o' Q
theorem Asu{C}{G:GoT C}{F:Fns}{op st x m' ds' rd}(hd:Aus C op.op st x m' ds'):Kept st.m m' /\
 ∀b n l₀ rest o' Q R e ds Y Z Z9,NoRecv Z9->RdOk G R rd b->Sim R st e ds Y Z Z9->Fu n l₀.toArray=true->b.kind ≠ .early->Bz l₀.toArray op e=true->G.suf m'.outs ->
  (∀R' v ds1 Y' Z',XR.le R R'->Ro.le Y Y'->V1 R' x v->MemX R' m' Y' Z' Z9->DsR R' ds' ds1->Ops G b n l₀ rest m'.outs (Ja e op.dst v) ds1 Y' Z' o' Q) ->
  Ops G b n l₀ (op::rest) st.m.outs e ds Y Z o' Q:=by obtain⟨c,d,f,g⟩:=hd;refine⟨c,fun b n l₀ rest o' Q R e ds Y Z Z9 hn hr hs hsl hk hw _ hc=>?_⟩;refine Bxk hsl hk hw ?_;obtain⟨dd,k,ty,pos,af,gd⟩:=op;refine Eu (fun nx Z' hx=>hx.mono ?_) _ _ (g R e ds Y Z Z9 b.round dd ty pos af gd hn hs);rintro v ds1 Y' Z' ⟨rfl,R',a,h,i,j⟩;rw[<-d];exact hc R' v _ Y' Z' a h i j (f ▸ hs.ds.mono a)
section
variable{C:Ctx}{G:GoT C}{F:Fns}{dx:DX}
theorem Aej(hx:Abb G F dx){l₀:List Oper}:∀(r:List Oper) (st:St) (rd:Option Nat) (ex:Ex) (st':St),(textK C.P dx l₀ r).run F rd st=Ha ex st'->ex = .normal/\Kept st.m st'.m /\
  (G.suf st'.m.outs->∀b n R e ds Y Z Z9,Fu n l₀.toArray=true->b.kind ≠ .early->NoRecv Z9->RdOk G R rd b->Sim R st e ds Y Z Z9 ->
   Ops G b n l₀ r st.m.outs e ds Y Z st'.m.outs (fun e' ds' Y' Z'=>∃R',XR.le R R'/\Ro.le Y Y'/\Sim R' st' e' ds' Y' Z' Z9))
 | [],st,rd,ex,st',h=>by
  have h':Go.Proofs.YtfeahfjambednaaGreatDoor.R.n st=Ha ex st':=h;cases ex with
  | normal=>cases h';exact⟨rfl,.refl _,fun _ b n R e ds Y Z Z9 _ _ _ _ hs=>Bvg ⟨R,.refl,.refl,hs⟩⟩
  | exit id=>cases h'
  | ret=>cases h'
 | o::r,st,rd,ex,st',h=>by
  have h':(match (gokK l₀ o).run st.e with
   | false=>Go.Proofs.YtfeahfjambednaaGreatDoor.R.bad
   | true=>match (guardK l₀ o).run st.e with
    | false=>(textK C.P dx l₀ r).run F rd ⟨(dstK o.dst).run st.e .undef,st.m,st.ds⟩
    | true=>match dx.run F rd st ((opK C.P o.op).run st.e st.m) with
     | .v x m ds=>(textK C.P dx l₀ r).run F rd ⟨(dstK o.dst).run st.e x,m,ds⟩
     | .bad=>.bad)=Ha ex st':=h
  split at h'
  ·cases ex<;>cases h'
  ·rename_i hgk;split at h'
   ·rename_i hg;obtain⟨d,a,f⟩:=Aej hx r _ _ _ _ h';refine⟨d,a,fun c b n R e ds Y Z Z9 hsl hk hn hr hs=>?_⟩;refine Bnz hsl hk (by rw[Oq hs.env hgk];exact hg) ?_;exact f c b n R _ ds Y Z Z9 hsl hk hn hr ⟨Ob hs.env (.t .nil .nil),hs.mem,hs.ds⟩
   ·rename_i hg;split at h'
    ·rename_i x m1 ds1 hd;obtain⟨w,hop⟩:=hx o st x m1 ds1 rd hd;obtain⟨d,a,f⟩:=Aej hx r _ _ _ _ h';refine⟨d,w.trans a,fun c b n R e ds Y Z Z9 hsl hk hn hr hs=>?_⟩;refine hop b n l₀ r _ _ R e ds Y Z Z9 hn hr hs hsl hk (by rw[Oq hs.env hgk];exact hg) (G.less_of a c) fun R' v i Y' Z' g y z B D=>?_;have:=f c b n R' (Ja e o.dst v) i Y' Z' Z9 hsl hk hn (hr.mono g) ⟨Ob (hs.env.mono g) z,B,D⟩;exact fun pre hp tm k cs ht hq=>this pre hp tm k cs ht fun tm' e' ds' Y'' Z'' j ⟨R'',p,q,u⟩=>hq tm' e' ds' Y'' Z'' j ⟨R'',g.trans p,y.trans q,u⟩
    ·cases ex<;>cases h'
end
end
section
open Go Go.Conc
theorem Nu{l li j}:j∈Dl l li↔j∈Region.ready .any l.toArray li.toArray:=by rw[Hh]
theorem Na(li:List Bool)(j:Nat)(d:Bool):li.toArray.getD j d=li.getD j d:=by simp[Bbe,Wx]
theorem Mq(li:List Bool)(i:Nat):li.toArray.setIfInBounds i true=(li.set i true).toArray:=by simp
theorem Yv{l li i j}(h:j∈Dl l li)(hne:j≠i):j∈Dl l (li.set i true):=by rw[Nu]at *;rw[<-Mq];exact ready_mono h hne
theorem Aqx{l li j}(h:j∈Dl l li):li.getD j true=false:=by
 rw[Nu]at h;have:=(mem_ready.1 h).1
 rwa[Na]at this
theorem Ws{li:List Bool}{i j}(h:i≠j)(d:Bool):(li.set i true).getD j d=li.getD j d:=by rw[Wx,Wx,List.getElem?_set_ne h]
theorem Aqu{K:List Nat}:∀{n:Nat} {l u w:List Nat},xNoneOf K n l=true->l=u++w->u.length=n->∀k∈K,k∉u
 | 0,l,[],w,_,_,_,k,_,hm=>by cases hm
 | 0,l,_::_,w,_,_,h,_,_,_=>by cases h
 | n+1,l,[],w,_,_,h,_,_,_=>by cases h
 | n+1,l,a::u,w,h,hl,hn,k,hk,hm=>by
  subst hl;have h':(match K.any (Nat.beq a) with|true=>false|false=>xNoneOf K n (u++w))=true:=h;split at h'
  ·cases h'
  ·rename_i hany;rcases lZ7.1 hm with rfl|hm
   ·have:=Bdx.1 hany k hk;exact this (by simp)
   ·exact Aqu h' rfl (by simpa using hn) k hk hm
section
variable{C:Ctx}{R:XR}{m:Mem}{Y:Ro}{Z Z9:Own}
theorem MemX.frame{p}(h:MemX R m Y Z Z9):MemX R m Y (p::Z) (p::Z9):=by obtain⟨L,G,h⟩:=h;refine⟨L,G,?_,h.nd,h.own,h.all,h.ro,h.gar,h.lt,h.glob⟩;have a:=h.perm.cons p;refine a.trans ?_;rw[<-Gv,<-Gv];exact List.perm_middle.symm
theorem MemX.adopt{b c r o}(h:MemX R m Y Z ((b,r)::Z9))(ho:ObjR (R.add m.nx (b,c)) c o r):XR.le R (R.add m.nx (b,c))/\MemX (R.add m.nx (b,c)) (m.add o) Y Z Z9:=by
 obtain⟨L,G,h⟩:=h;have hle:=h.fresh (b,c);have hlt:∀p∈L,p.1<m.nx:=fun p hp=>by
  obtain⟨d,o1,a,_⟩:=h.own p hp;exact h.lt _ _ a
 refine⟨hle,(m.nx,b,r)::L,G,?_,Tc.2 ⟨fun hm=>?_,h.nd⟩,fun p hp=>?_,fun j oj hj hd=>?_,fun j oj hj=>?_,h.gar,fun j q hj=>?_,fun j hj=>hle _ _ (h.glob j hj)⟩
 ·have a:=h.perm;refine a.trans ?_;rw[Je,<-Gv,<-Gv];exact Alp
 ·obtain⟨p,hp,e⟩:=Iq.1 hm;exact absurd (hlt p hp) (by omega)
 ·rcases lZ7.1 hp with rfl|hp
  ·exact⟨c,o,XR.add_same,by rw[Rk,if_pos rfl],ho⟩
  ·obtain⟨d,o1,a,f,g⟩:=h.own p hp;exact⟨d,o1,hle _ _ a,by rw[Rk,if_neg (Ahn (hlt p hp))];exact f,g.mono hle⟩
 ·rw[Rk]at hj;by_cases hjk:j=m.nx
  ·subst hjk;exact⟨_,Us ..⟩
  ·rw[if_neg hjk]at hj;obtain⟨q,hq⟩:=h.all j oj hj hd;exact⟨q,lZ0 _ hq⟩
 ·rw[Rk]at hj;by_cases hjk:j=m.nx
  ·rw[if_pos hjk]at hj;cases hj
  ·rw[if_neg hjk]at hj;obtain⟨i,d,k,a,f,g⟩:=h.ro j oj hj;exact⟨i,d,k,hle _ _ a,f,g.mono hle⟩
 ·unfold XR.add at hj;by_cases hjk:j=m.nx
  ·subst hjk;exact Aqf _
  ·rw[if_neg hjk]at hj;exact Awu (h.lt j q hj)
theorem MemX.known(h:MemX R m Y Z Z9){k o}(hk:m.obj k=some o)(hd:o ≠ .dead):∃q,R k=some q:=by
 obtain⟨L,G,h⟩:=h;unfold Mem.obj at hk;split at hk
 ·rename_i o' hg;cases hk;obtain⟨b,c,r,i,a,_⟩:=h.at hg hd;exact⟨_,a⟩
 ·rename_i o' hg;obtain⟨b,c,x,a,_⟩:=h.ro k _ hg;exact⟨_,a⟩
 ·cases hk
theorem Byg{P o e x k}(h:(opK P o).run e m = .rd x k):∃ob,m.obj k=some ob/\ob ≠ .dead:=by
 have hr:reads o=true:=by
  by_cases h2:reads o=true
  ·exact h2
  ·exfalso;by_cases h1:Blp o=true
   ·have:=Afk (P:=P) (o:=o);cases o with
    | call c =>
     obtain⟨cal,az,ts⟩:=c;cases cal with
     | value f =>
      rcases Oa h with⟨_,_,_,_,_,_,d⟩|d|d
      ·cases d
      ·cases d
      ·have:=Akp (P:=P) ((rdK f).run e) ((rdsK az.toList).run e);rw[d]at this;exact this
     | builtin b=>cases h1
     | invoke r n=>cases h1
    | go c=>unfold opK at h;dsimp only at h;split at h<;>cases h
    | defer c =>
     unfold opK at h;dsimp only at h;split at h
     ·dsimp only at h;split at h<;>cases h
     ·cases h
    | send a b=>unfold opK at h;dsimp only at h;split at h<;>cases h
    | recv t a ok =>
     unfold opK at h;dsimp only at h;split at h
     ·split at h
      ·dsimp only at h;split at h<;>cases h
      ·cases h
     ·cases h
    | _=>cases h1
   ·have:=(Bey (P:=P) o (by simpa using h1) (by simpa using h2) e m).r;rw[h]at this;exact this
 cases o with
 | load t a =>
  have h':loadM P t ((rdK a).run e) m = .rd x k:=h;unfold loadM at h';split at h'
  ·split at h'
   ·rename_i l hl;split at h'
    ·obtain⟨_,rfl⟩:=Aee h';rw[Aub]at hl;split at hl
     ·rename_i ob ho;exact⟨ob,ho,fun e=>by subst e;cases hl⟩
     ·cases hl
    ·cases h'
   ·cases h'
  ·cases h'
 | lookup t a y ok =>
  unfold opK at h;dsimp only at h;split at h
  ·split at h
   ·rename_i mk z _ _;have h':lookM mk z ok ((rdK a).run e) ((rdK y).run e) m = .rd x k:=h;unfold lookM at h';split at h'
    ·split at h'
     ·rename_i es hes hok;split at h'
      ·obtain⟨_,rfl⟩:=Aee h';exact⟨_,hes,by simp⟩
      ·obtain⟨_,rfl⟩:=Aee h';exact⟨_,hes,by simp⟩
      ·cases h'
     ·cases h'
    ·cases h'
   ·cases h
  ·cases h
 | slice t a lo hi mx =>
  unfold opK at h;dsimp only at h;split at h
  ·split at h
   ·dsimp only at h;split at h
    ·split at h
     ·exact Bce h
     ·cases h
    ·split at h
     ·split at h<;>cases h
     ·cases h
    ·cases h
   ·cases h
  ·split at h
   ·dsimp only at h;split at h
    ·split at h
     ·split at h<;>cases h
     ·cases h
    ·cases h
   ·cases h
  ·cases h
 | _=>cases hr
theorem Bga{P t z c}(hz:xZeroT P t=some z)(hc:z.cells=some c):∃vs:List Value,(∀R,VR R c vs) /\
  ∀(e':Env) Y Z (Q:Next->Own->Prop) dd ty pos af g,(∀r,Q (.value (.pointer (some ⟨r,0,none⟩))) ((r,.obj (.cells vs.toArray t (0,0)))::Z))->wpS P Y (execOp (Af e') ⟨dd,.alloc t,ty,pos,af,g⟩) Z Q:=by obtain⟨v,hv,rfl⟩:=Qu hz;refine⟨v.cells.toList,fun R=>(vOf R v).cells hc,fun e' Y Z Q dd ty pos af g hq=>?_⟩;show wpS P Y ((Instr.alloc t true (.tuple #[])).bind fun v=>Sem.pure (Next.value v)) Z Q;rw[Ad];show wpS P Y ((zeroValue t).bind _) Z _;rw[Ad];refine Jz hv ?_;show wpS P Y ((newVar t v).bind _) Z _;rw[Ad];refine Ik fun r=>?_;have:=hq r;rw[Ads]at this;exact this
end
theorem Btk{C b ops j d oj p e ds Y Z}(hj:ops[j]?=some oj)(h1:d∉oj.looksAt ops)(h2:oj.dst≠some d)(hsel:∀cs b,oj.op ≠ .select cs b){K K'}(hK:∀e ds Y Z,K e ds Y Z->K' (Ja e (some d) p) ds Y Z)(h:OpH C b ops j K e ds Y Z):OpH C b ops j K' (Ja e (some d) p) ds Y Z:=by
 have a:∀d',some d=some d'->d'∉oj.looksAt ops:=fun d' hd=>by cases hd;exact h1
 have hcm:∀u,Ja (Ja e (some d) p) oj.dst u=Ja (Ja e oj.dst u) (some d) p:=fun u=>Vx e p u (fun d' hd=>by cases hd;exact h2);unfold OpH at *;simp only[hj]at *;rw[Sd oj e (some d) p a];split
 ·rename_i hw;rw[if_pos hw]at h;rw[Ru oj hsel e (some d) p a];exact Eu (fun nx Z' hn=>hn.mono fun u ds Y Z hh=>by rw[hcm];exact hK _ _ _ _ hh) _ _ h
 ·rename_i hw;rw[if_neg hw]at h;rw[hcm];exact hK _ _ _ _ h
theorem Bcp{P ops S d o v p e}(h1:d∉o.looksAt ops)(hsel:∀cs b,o.op ≠ .select cs b)(h:YieldsH P ops S o v e):YieldsH P ops S o v (Ja e (some d) p):=by
 have a:∀d',some d=some d'->d'∉o.looksAt ops:=fun d' hd=>by cases hd;exact h1
 unfold YieldsH at *;rw[Ru o hsel e (some d) p a,Sd o e (some d) p a];exact h
end
section
open Go Go.Conc
def Aia{α:Type}(C:Ctx)(b:FB)(ops:Array Oper)(Q:Env->List Deferred->Ro->Own->Prop)(wt:Nat->α->Bool)(S:α->Ro->Own->Prop):Nat->List α->Array Bool->Env->List Deferred->Ro->Own->Prop
 | 0,lv,listed,e,ds,Y,Z=>Region.ready .any ops listed=[]/\Q e ds Y Z/\∀p∈lv,S p Y Z
 | fuel+1,lv,listed,e,ds,Y,Z=>(∀p∈lv,S p Y Z)/\(Region.ready .any ops listed=[]->Q e ds Y Z) /\
  ∀i∈Region.ready .any ops listed,OpH C b ops i (fun e' ds' Y' Z'=>Aia C b ops Q wt S fuel (lv.filter fun p=>!wt i p) (listed.setIfInBounds i true) e' ds' Y' Z') e ds Y Z
section
variable{α:Type}{C:Ctx}{b:FB}{ops:Array Oper}{Q:Env->List Deferred->Ro->Own->Prop}{wt:Nat->α->Bool}{S:α->Ro->Own->Prop}
theorem Aow:∀{fuel:Nat} {lv lv':List α} {listed:Array Bool} {e:Env} {ds:List Deferred} {Y:Ro} {Z:Own},(∀p∈lv',p∈lv)->Aia C b ops Q wt S fuel lv listed e ds Y Z->Aia C b ops Q wt S fuel lv' listed e ds Y Z
 | 0,_,_,_,_,_,_,_,hs,⟨h1,h2,h3⟩=>⟨h1,h2,fun p hp=>h3 p (hs p hp)⟩
 | _+1,_,_,_,_,_,_,_,hs,⟨h1,h2,h3⟩=>⟨fun p hp=>h1 p (hs p hp),h2,fun i hi=>(h3 i hi).mono fun _ _ _ _ h=>Aow (fun p hp=>by
   obtain⟨h4,h5⟩:=Ql.1 hp;exact Ql.2 ⟨hs p h4,h5⟩) h⟩
theorem Ajj:∀{fuel:Nat} {lv:List α} {listed:Array Bool} {e:Env} {ds:List Deferred} {Y:Ro} {Z:Own},Aia C b ops Q wt S fuel lv listed e ds Y Z->El C b ops Q [] (fun _ _=>True) fuel listed e ds Y Z
 | 0,_,_,_,_,_,_,⟨h1,h2,_⟩=>⟨h1,h2⟩
 | _+1,_,_,_,_,_,_,⟨_,h2,h3⟩=>.inr ⟨_,_,.same,id,h2,fun i hi=>(h3 i hi).mono fun _ _ _ _ h=>⟨fun _=>trivial,Ajj h⟩⟩
theorem Afa{lv:List α}{listed:Array Bool}{e:Env}{ds:List Deferred}{Y:Ro}{Z:Own}(hr:Region.ready .any ops listed=[])(h:Q e ds Y Z)(hS:∀p∈lv,S p Y Z):∀fuel,Aia C b ops Q wt S fuel lv listed e ds Y Z
 | 0=>⟨hr,h,hS⟩
 | _+1=>⟨hS,fun _=>h,by rw[hr];simp⟩
theorem Abc{i:Nat}{oi:Oper}{v:Value}{p:α}(hi:ops[i]?=some oi)(hsel:∀(j:Nat) (o:Oper) cs b,ops[j]?=some o->o.op ≠ .select cs b)
  (hwt:∀j oj,ops[j]?=some oj->(∀e∈oj.after,Region.binds .any e=true->e.on≠i)->wt j p=false) :
  ∀(fuel:Nat) (lv:List α) (listed:Array Bool) (e:Env) (ds:List Deferred) (Y:Ro) (Z:Own),
   (∀j oj,ops[j]?=some oj->j≠i->listed.getD j true=false->(∀e∈oj.after,Region.binds .any e=true->e.on≠i)->oi.apart ops oj=true) ->
   i∈Region.ready .any ops listed->YieldsH C.P ops (S p) oi v e ->
   Aia C b ops Q wt S fuel (p::lv) (listed.setIfInBounds i true) (Ja e oi.dst v) ds Y Z->Aia C b ops Q wt S (fuel+1) lv listed e ds Y Z:=by
 intro fuel;induction fuel with
 | zero =>
  rintro lv listed e ds Y Z _ hr hy ⟨f,c,d⟩;refine⟨fun q hq=>d q (lZ0 _ hq),fun h=>(by rw[h]at hr;cases hr),fun j hj=>?_⟩;by_cases hji:j=i
  ·subst hji;exact hy.opH hi (d p mC) ⟨f,c,fun q hq=>d q (lZ0 _ (Ql.1 hq).1)⟩
  ·have:=ready_mono hj hji;rw[f]at this;cases this
 | succ fuel ih =>
  intro lv listed e ds Y Z t hr hy H;have H':=H;obtain⟨HS,B,c⟩:=H;refine⟨fun q hq=>HS q (lZ0 _ hq),fun h=>(by rw[h]at hr;cases hr),fun j hj=>?_⟩;by_cases hji:j=i
  ·subst hji;exact hy.opH hi (HS p mC) (Aow (fun q hq=>lZ0 _ (Ql.1 hq).1) H')
  ·have a:=c j (ready_mono hj hji);obtain⟨u,oj,hoj,y⟩:=mem_ready.1 hj;have w:∀e∈oj.after,Region.binds .any e=true->e.on≠i:=fun e he hb heq=>by
    have a:=y e he hb;have g:=(mem_ready.1 hr).1;rw[heq]at a;rcases Re i listed.size with h'|h'
    ·simp[h']at g a;rw[g]at a;cases a
    ·simp[Bhm h']at a
   have hwj:=hwt j oj hoj w;have x:=Akg hoj (t j oj hoj hji u w) (fun cs b=>hsel i oi cs b hi) (fun cs b=>hsel j oj cs b hoj) hy a;have z:∀k ok,ops[k]?=some ok->k≠i->(listed.setIfInBounds j true).getD k true=false ->
     (∀e∈ok.after,Region.binds .any e=true->e.on≠i)->oi.apart ops ok=true:=fun k ok hk hki hun hno=>by
    refine t k ok hk hki ?_ hno;by_cases hjk:j=k
    ·subst hjk;exact u
    ·rw[getD_set_ne true hjk]at hun;exact hun
   refine OpH.mono x fun e' ds' Y' Z' m=>ih (lv.filter fun p=>!wt j p) (listed.setIfInBounds j true) e' ds' Y' Z' z (ready_mono hr (Ne.symm hji)) m.1 ?_;rw[Array.setIfInBounds_comm _ _ hji];have n:=m.2;rw[List.filter_cons_of_pos (by rw[hwj];rfl)]at n;exact n
theorem Ajh{lv:List α}{rs:List Nat}{fuel:Nat}{listed:Array Bool}{e:Env}{ds:List Deferred}{Y:Ro}{Z:Own}(hr:Region.ready .any ops listed=rs)(hne:rs≠[])(hS:∀p∈lv,S p Y Z)
  (h:∀i∈rs,OpH C b ops i (fun e' ds' Y' Z'=>Aia C b ops Q wt S fuel (lv.filter fun p=>!wt i p) (listed.setIfInBounds i true) e' ds' Y' Z') e ds Y Z):Aia C b ops Q wt S (fuel+1) lv listed e ds Y Z :=
 ⟨hS,fun a=>absurd (hr ▸ a) hne,hr ▸ h⟩
end
end
section
open Go Go.Conc
structure RG(C:Ctx) where
 b:FB
 l:List Oper
 pz:List Nat
 R0:XR
 Y0:Ro
 Z0:Own
 sf:St
abbrev LvE:=Nat×Option (Nat×Option CO×XR)
def wtL(l:List Oper)(j:Nat)(p:LvE):Bool:=xWaits l j p.1
def LvS(p:LvE)(Y:Ro)(Z:Own):Prop:=match p.2 with
 | none=>True
 | some (q,ob,Rt)=>∃R9 m3 Z8,MemX R9 m3 Y Z Z8/\XR.le Rt R9/\m3.obj q=ob
def LvOk(K:List (Nat×Nat))(m:Mem)(R:XR)(lv:List LvE):Prop:=∀p∈lv,∀q ob Rt,p.2=some (q,ob,Rt)->XR.le Rt R/\m.obj q=ob/\(p.1,q)∈K/\q<m.nx
theorem LvOk.S{K:List (Nat×Nat)}{m:Mem}{R:XR}{lv:List LvE}{Y:Ro}{Z Z9:Own}(h:LvOk K m R lv)(hm:MemX R m Y Z Z9):∀p∈lv,LvS p Y Z:=fun p hp=>by
 unfold LvS;split
 ·trivial
 ·rename_i q ob Rt he;obtain⟨a,b,_⟩:=h p hp q ob Rt he;exact⟨R,m,Z9,hm,a,b⟩
theorem Ato{wt:Nat->Bool}{n:Nat}{lg:List Nat}:∀{K K':List (Nat×Nat)},xKeep wt n lg K=some K'->∀a∈K,wt a.1=false->a∈K'/\xNoneOf [a.2] n lg=true
 | b::K,K',h,a,ha,hw=>by
  have h':(match wt b.1 with
   | true=>xKeep wt n lg K
   | false=>match xNoneOf [b.2] n lg with
    | true=>match xKeep wt n lg K with|some r=>some (b::r)|none=>none
    | false=>none)=some K':=h
  split at h'
  ·rename_i hb;rcases lZ7.1 ha with rfl|ha
   ·rw[hb]at hw;cases hw
   ·exact Ato h' a ha hw
  ·split at h'
   ·rename_i hno;split at h'
    ·rename_i r hr;cases h';rcases lZ7.1 ha with rfl|ha
     ·exact⟨Us ..,hno⟩
     ·obtain⟨c,d⟩:=Ato hr a ha hw;exact⟨lZ0 _ c,d⟩
    ·cases h'
   ·cases h'
theorem LvOk.step{l:List Oper}{i:Nat}{K K':List (Nat×Nat)}{m m1:Mem}{R R':XR}{lv:List LvE}(h:LvOk K m R lv)(hk:Kept m m1)(hR:XR.le R R')(hn:xKeep (xWaits l i) (Nat.sub m1.ln m.ln) m1.log K=some K'):LvOk K' m1 R' (lv.filter fun p=>!wtL l i p):=fun p hp q ob Rt he=>by
 obtain⟨j,a⟩:=Ql.1 hp;obtain⟨c,d,e,b⟩:=h p j q ob Rt he;have hw:xWaits l i p.1=false:=by
  unfold wtL at a;cases hx:xWaits l i p.1 with
  | false=>rfl
  | true=>rw[hx]at a;cases a
 obtain⟨f,g⟩:=Ato hn _ e hw;obtain⟨w,k,t,n⟩:=hk.ex;have hq:q∉w:=Aqu g k (by show w.length=m1.ln-m.ln;omega) q (Mk.2 rfl);exact⟨c.trans hR,by rw[n q b hq];exact d,f,Nn b hk.nx⟩
theorem LvOk.sub{K:List (Nat×Nat)}{m:Mem}{R:XR}{lv lv':List LvE}(h:LvOk K m R lv)(hs:∀p∈lv',p∈lv):LvOk K m R lv':=fun p hp=>h p (hs p hp)
theorem Auo{l:List Oper}{i:Nat}{p:LvE}(hp:p.1=i):∀j oj,l.toArray[j]?=some oj->(∀e∈oj.after,Region.binds .any e=true->e.on≠i)->wtL l j p=false:=fun j oj hj hn=>by
 unfold wtL xWaits;rw[Me]at hj;rw[hj,hp];simp only;rw[Bdx];intro e he hb;simp only[Oc,beq_iff_eq]at hb;exact hn e (by simpa using he) hb.1 hb.2
section
variable{C:Ctx}
structure RG.Ok(g:RG C):Prop where
 sel:Apw g.l=true
 nr:NoRecv g.Z0
def RG.Q(g:RG C):Env->List Deferred->Ro->Own->Prop:=fun e ds Y Z=>∃R',XR.le g.R0 R'/\Ro.le g.Y0 Y/\Sim R' g.sf e ds Y Z g.Z0
def RG.A(g:RG C)(fuel:Nat)(lv:List LvE)(li:List Bool)(e:Env)(ds:List Deferred)(Y:Ro)(Z:Own):Prop:=Aia C g.b g.l.toArray g.Q (wtL g.l) LvS fuel lv li.toArray e ds Y Z
structure RG.At(g:RG C)(st:St)(R:XR)(e:Env)(ds:List Deferred)(Y:Ro)(Z σp:Own):Prop where
 le:XR.le g.R0 R
 rle:Ro.le g.Y0 Y
 sim:Sim R st e ds Y Z σp
variable{g:RG C}{F:Fns}{st:St}{R:XR}{e:Env}{ds:List Deferred}{Y:Ro}{Z σp:Own}{u:List Nat}{o:Oper}{x:CV}{i:Nat}{K:List (Nat×Nat)}
def Arq(g:RG C)(i:Nat)(o:Oper)(K':List (Nat×Nat))(st:St)(x:CV)(R:XR)(e:Env):Prop :=
 ∃v p,p.1=i/\V1 R x v/\YieldsH C.P g.l.toArray (LvS p) o v e/\∀q ob Rt,p.2=some (q,ob,Rt)->XR.le Rt R/\st.m.obj q=ob/\(i,q)∈K'/\q<st.m.nx
theorem Bum{q}(hat:g.At st R e ds Y Z σp)(he:(opK C.P o.op).run st.e st.m = .rd x q)(hok:xOkV x=true)(hw:Bz g.l.toArray o e=true):
  Arq g i o ((i,q)::K) st x R e:=by
 obtain⟨ob,ho,hd⟩:=Byg he;obtain⟨qq,hR⟩:=hat.sim.mem.known ho hd;have key:=Bbt o.op R st.e e st.m x q hat.sim.env hat.sim.mem.globR he;obtain⟨c,b,_⟩:=key R st.m Y Z σp hat.sim.mem rfl rfl;have hlt:q<st.m.nx:=let ⟨_,_,h⟩:=hat.sim.mem;h.lt _ _ hR
 refine⟨c,(i,some (q,st.m.obj q,R)),rfl,b,.inl ⟨hw,fun Y' Z' hS=>?_⟩,fun q' ob' Rt' h=>by cases h;exact⟨.refl,rfl,Us ..,hlt⟩⟩;obtain⟨d,p,u,f,a,j⟩:=hS;obtain⟨t,k,n⟩:=key d p Y' Z' u f j (by rw[a _ _ hR,hR]);have:t=c:=k.uniq (b.mono a) hok;subst this;obtain⟨dd,op,ty,pos,af,gd⟩:=o;exact n dd ty pos af gd
theorem Byu{m1}(hat:g.At st R e ds Y Z σp)(he:(opK C.P o.op).run st.e st.m = .v x m1)(hm:xMild o.op=true)(hn:m1.nx=st.m.nx)(hw:Bz g.l.toArray o e=true):
  Arq g i o K st x R e:=by
 rcases Bez o.op R st.e e st.m x m1 hat.sim.env hat.sim.mem.globR he with⟨_,v,hv,h⟩|⟨_,h,_⟩
 ·refine⟨v,(i,none),rfl,hv,.inl ⟨hw,fun Y' Z' _=>?_⟩,fun _ _ _ h=>by cases h⟩;obtain⟨dd,op,ty,pos,af,gd⟩:=o;exact h Y' Z' dd ty pos af gd
 ·exact absurd hn (h hm)
theorem Biz(hw:Bz g.l.toArray o e=false):Arq g i o K st .undef R e:=⟨undef,(i,none),rfl,.t .nil .nil,.inr ⟨hw,rfl⟩,fun _ _ _ h=>by cases h⟩
def UqOk(C:Ctx)(l:List Oper)(o:Oper)(st:St)(x:CV)(m1:Mem)(ds1:List CD):Prop :=
 ((guardK l o).run st.e=false/\x = .undef/\m1=st.m/\ds1=st.ds)∨((guardK l o).run st.e=true/\Aus C o.op st x m1 ds1)
theorem UqOk.kept{l m1 ds1}(h:UqOk C l o st x m1 ds1):Kept st.m m1/\m1.outs=st.m.outs/\ds1=st.ds:=by
 rcases h with⟨_,_,rfl,rfl⟩|⟨_,a,b,c,_⟩
 ·exact⟨.refl _,rfl,rfl⟩
 ·exact⟨a,b,c⟩
theorem Bfo{b i l m1 ds1}(h:UqOk C l o st x m1 ds1)(hi:l[i]?=some o)(hk:(gokK l o).run st.e=true)(hn:NoRecv σp)(hs:Sim R st e ds Y Z σp):
  OpH C b l.toArray i (fun e' ds' Y' Z'=>ds'=ds/\∃R' v,XR.le R R'/\Ro.le Y Y'/\e'=Ja e o.dst v/\V1 R' x v/\MemX R' m1 Y' Z' σp) e ds Y Z:=by
 have hw:=Oq hs.env hk;unfold OpH;rw[Me,hi];simp only;rcases h with⟨a,rfl,rfl,rfl⟩|⟨a,_,_,_,c⟩
 ·rw[if_neg (by rw[hw,a];simp)];exact⟨trivial,R,undef,.refl,.refl,rfl,.t .nil .nil,hs.mem⟩
 ·rw[if_pos (by rw[hw,a])];obtain⟨dd,op,ty,pos,af,gd⟩:=o;refine Eu (fun nx Z' hx=>hx.mono ?_) _ _ (c R e ds Y Z σp b.round dd ty pos af gd hn hs);rintro v ds1 Y' Z' ⟨rfl,R',d,f,g,j⟩;exact⟨rfl,R',v,d,f,rfl,g,j⟩
end
structure FlO where
 op:Op
 af:Array Edge
 vl:Nat->Value
 cx:Nat->CV
 t:TypeId
 vs:Env->List Value
structure FlD(P:Program)(l:List Oper)(f d:Nat)(w:FlO):Prop where
 at_:∃ty pos,l[f]?=some ⟨some d,w.op,ty,pos,w.af,none⟩
 val:∀(R:XR) n r,R n=some (r,0)->V1 R (w.cx n) (w.vl r)
 raw:∀(R:XR) e e' m,EnvR R e e'->Om R->xIsV ((opK P w.op).run e m)=true->∀Y Z (Q:Next->Own->Prop) dd ty pos af g,(∀r,Q (.value (w.vl r)) ((r,.obj (.cells (w.vs e').toArray w.t (0,0)))::Z))->wpS P Y (execOp (Af e') ⟨dd,w.op,ty,pos,af,g⟩) Z Q
 run:∀(R:XR) e e' m x m',EnvR R e e'->Om R->(opK P w.op).run e m = .v x m'->∃c,x=w.cx m.nx/\m'=m.add (.cells c)/\VR R c (w.vs e')
 simple:∀e m,simpleRd ((opK P w.op).run e m)
 free:∀(j:Nat) oj,l[j]?=some oj->j≠f->(∀e∈w.af,Region.binds .any e=true->e.on≠j)->(∀e∈oj.after,Region.binds .any e=true->e.on≠f)->d∉oj.looksAt l.toArray/\oj.dst≠some d/\∀e v,w.vs (Ja e oj.dst v)=w.vs e
theorem Bwt{P:Program}{o:Op}(h:(∃t,o = .alloc t)∨∃t n ps,o = .buildSlice t n ps)(af:Array Edge):∃w:FlO,w.op=o/\w.af=af/\(∀(R:XR) n r,R n=some (r,0)->V1 R (w.cx n) (w.vl r)) /\
  (∀(R:XR) e e' m,EnvR R e e'->Om R->xIsV ((opK P o).run e m)=true->∀Y Z (Q:Next->Own->Prop) dd ty pos af g,(∀r,Q (.value (w.vl r)) ((r,.obj (.cells (w.vs e').toArray w.t (0,0)))::Z))->wpS P Y (execOp (Af e') ⟨dd,o,ty,pos,af,g⟩) Z Q) /\
  (∀(R:XR) e e' m x m',EnvR R e e'->Om R->(opK P o).run e m = .v x m'->∃c,x=w.cx m.nx/\m'=m.add (.cells c)/\VR R c (w.vs e'))/\∀e (dst:Option Tmp) v,(∀d,dst=some d->(.tmp d:Operand)∉o.operands.toList)->w.vs (Ja e dst v)=w.vs e:=by
 have isV:∀{y:OR},xIsV y=true->∃x m',y = .v x m':=fun {y} h=>by
  cases y with
  | v x m=>exact⟨x,m,rfl⟩
  | _=>cases h
 rcases h with⟨t,rfl⟩|⟨t,n,ps,rfl⟩
 ·by_cases hz:∃z c,xZeroT P t=some z/\z.cells=some c
  ·obtain⟨z,c,hz,hc⟩:=hz;obtain⟨vs,D,E⟩:=Bga hz hc;have B:∀e m,(opK P (.alloc t)).run e m = .v (.p m.nx 0) (m.add (.cells c)):=fun e m=>by unfold opK;simp only[hz,hc]
   refine⟨⟨.alloc t,af,fun r=>.pointer (some ⟨r,0,none⟩),fun n=>.p n 0,t,fun _=>vs⟩,rfl,rfl,fun R n r hr=>.p hr .nil,fun R e e' m _ _ _ Y Z Q dd ty pos af g hq=>E _ Y Z Q dd ty pos af g hq,fun R e e' m x m' _ _ h=>?_,fun _ _ _ _=>rfl⟩;rw[B]at h;obtain⟨rfl,rfl⟩:=Hz h;exact⟨c,rfl,rfl,D R⟩
  ·have hb:∀e m,(opK P (.alloc t)).run e m = .bad:=fun e m=>by
    unfold opK;simp only;split
    ·rename_i z hz';split
     ·rename_i c hc;exact absurd ⟨z,c,hz',hc⟩ hz
     ·rfl
    ·rfl
   refine⟨⟨.alloc t,af,fun r=>.pointer (some ⟨r,0,none⟩),fun n=>.p n 0,t,fun _=>[]⟩,rfl,rfl,fun R n r hr=>.p hr .nil,fun R e e' m _ _ h=>?_,fun R e e' m x m' _ _ h=>?_,fun _ _ _ _=>rfl⟩
   ·rw[hb]at h;cases h
   ·rw[hb]at h;cases h
 ·by_cases hk:∃el z,P.underlying t=some (.slice el)/\xSzT P el=some z
  ·obtain⟨el,z,hT,hz⟩:=hk;have C:∃zs:List Value,∀(R:XR) e e' m x m',EnvR R e e'->Om R->(opK P (.buildSlice t n ps)).run e m = .v x m' ->
     ∃c a,x = .sl m.nx 0 n true n/\m'=m.add (.cells c)/\VR R c a/\Instr.fill (fun i=>some (i*z,z)) zs.toArray (ps.toList.map fun p=>(p.1,Af e' p.2))=some a.toArray /\
      ∀Y Z (Q:Next->Own->Prop) dd ty pos af g,(∀r,Q (.value (.slice (some ⟨r,0,none⟩) n n)) ((r,.obj (.cells a.toArray el (0,0)))::Z))->wpS P Y (execOp (Af e') ⟨dd,.buildSlice t n ps,ty,pos,af,g⟩) Z Q:=Apa hT hz
   obtain⟨zs,hzs⟩:=C;refine⟨⟨.buildSlice t n ps,af,fun r=>.slice (some ⟨r,0,none⟩) n n,fun k=>.sl k 0 n true n,el,fun e=>((Instr.fill (fun i=>some (i*z,z)) zs.toArray (ps.toList.map fun p=>(p.1,Af e p.2))).getD #[]).toList⟩,rfl,rfl,fun R n r hr=>.slK hr .nil,fun R e e' m he hg h Y Z Q dd ty pos af g hq=>?_,fun R e e' m x m' he hg h=>?_,fun e dst v hd=>?_⟩
   ·obtain⟨x,m',hv⟩:=isV h;obtain⟨c,a,_,_,_,b,u⟩:=hzs R e e' m x m' he hg hv;refine u Y Z Q dd ty pos af g fun r=>?_;have:=hq r;simp only[b,Amb]at this;exact this
   ·obtain⟨c,a,f,j,q,b,_⟩:=hzs R e e' m x m' he hg h;refine⟨c,f,j,?_⟩;simp only[b,Amb];exact q
   ·have:(ps.toList.map fun p=>(p.1,Af (Ja e dst v) p.2))=ps.toList.map fun p=>(p.1,Af e p.2):=Aqa fun p hp=>by
     rw[Aer fun d hd' he=>hd d hd' ?_];rw[<-he];simp only[Op.operands,Bmt];exact Rb hp
    simp only[this]
  ·have hb:∀e m,(opK P (.buildSlice t n ps)).run e m = .bad:=fun e m=>by
    unfold opK;simp only;split
    ·rename_i el hT;split
     ·rename_i z _ _ hz' _ _;exact absurd ⟨el,z,hT,hz'⟩ hk
     ·rfl
    ·rfl
   refine⟨⟨.buildSlice t n ps,af,fun r=>.slice (some ⟨r,0,none⟩) n n,fun k=>.sl k 0 n true n,t,fun _=>[]⟩,rfl,rfl,fun R n r hr=>.slK hr .nil,fun R e e' m _ _ h=>?_,fun R e e' m x m' _ _ h=>?_,fun _ _ _ _=>rfl⟩
   ·rw[hb]at h;cases h
   ·rw[hb]at h;cases h
theorem Bws{P l f}(h:xFloat l=some f):∃d w,FlD P l f d w:=by
 have he:xEarly l f=true:=by
  unfold xFloat at h;split at h
  ·rename_i f' hf;subst h;have:=List.mem_of_find?_eq_some hf;unfold xCands at this;obtain⟨a,b,p⟩:=Iq.1 this;cases p;exact(Ql.1 b).2
  ·cases h
 unfold xEarly at he;cases hf:l[f]? with
 | none=>rw[hf]at he;cases he
 | some o =>
  rw[hf]at he;simp only[Oc]at he;obtain⟨b,c⟩:=he;obtain⟨dst,op,ty,pos,af,gd⟩:=o;simp only at b c;obtain⟨d,hd,hg,ho⟩:∃d,dst=some d/\gd=none/\((∃t,op = .alloc t)∨∃t n ps,op = .buildSlice t n ps):=by
   split at b
   ·exact⟨_,rfl,rfl,.inl ⟨_,rfl⟩⟩
   ·exact⟨_,rfl,rfl,.inr ⟨_,_,_,rfl⟩⟩
   ·cases b
  subst hd hg;obtain⟨w,u,x,y,z,B,C⟩:=Bwt (P:=P) ho af;subst u x;refine⟨d,w,⟨ty,pos,hf⟩,y,z,B,fun e m=>Bey _ ?_ ?_ e m,fun j oj hj hne q hno=>?_⟩
  ·rcases ho with⟨t,ho⟩|⟨t,n,ps,ho⟩<;>rw[ho]<;>rfl
  ·rcases ho with⟨t,ho⟩|⟨t,n,ps,ho⟩<;>rw[ho]<;>rfl
  ·have hap:=Region.free_spec (md:=.any) (ops:=l.toArray) (by rw[Me];exact hf) (Ahw c) j oj (by rw[Me];exact hj) hne (by
    rw[Na,Wx];have hj':j<l.length:=(lZ4.1 hj).1;unfold xDeps;rw[Oz,Awo hj'];simp only[Aoq,Amb];rw[Bdx];intro e he hb;rw[Oc]at hb;exact q e (by simpa using he) hb.1 (by simpa using hb.2)) hno
   obtain⟨g,i,k⟩:=Oper.apart_spec hap;refine⟨g d rfl,i d rfl,fun e v=>C e oj.dst v fun d' hd' hm=>k d' hd' ?_⟩;exact Pw _ (List.mem_filterMap.2 ⟨.tmp d',by simpa using hm,rfl⟩)
section
variable{C:Ctx}{P:Program}{l:List Oper}{f d:Nat}{w:FlO}{li:List Bool}
theorem Aqv{i o}(hi:i∈Dl l li)(ho:l[i]?=some o)(hf:li.getD f true=false):∀e∈o.after,Region.binds .any e=true->e.on≠f:=fun e he hb heq=>by
 rw[Nu]at hi;obtain⟨_,o',ho',b⟩:=mem_ready.1 hi;rw[Me,ho]at ho';cases ho';have a:=b e he hb;rw[Na,heq]at a;rw[Wx]at a hf;cases hx:li[f]? with
 | none=>rw[hx]at a;cases a
 | some y=>rw[hx]at a hf;simp only[Amb]at a hf;rw[a]at hf;cases hf
def DepOk(w:FlO)(li:List Bool):Prop:=∀e∈w.af,Region.binds .any e=true->li.getD e.on false=true
theorem DepOk.set(h:DepOk w li)(i:Nat):DepOk w (li.set i true):=fun e he hb=>by
 have:=h e he hb;rw[Wx]at this ⊢;rw[Vi];split
 ·split
  ·rfl
  ·rename_i h1 h2;rw[<-h1]at this;rw[Sa (by omega)]at this;exact this
 ·exact this
theorem DepOk.ne{i:Nat}(h:DepOk w li)(hi:i∈Dl l li):∀e∈w.af,Region.binds .any e=true->e.on≠i:=fun e he hb heq=>by
 have a:=h e he hb;have b:=Aqx hi;rw[heq]at a;rw[Wx]at a b;cases hx:li[i]? with
 | none=>rw[hx]at a;cases a
 | some y=>rw[hx]at a b;simp only[Amb]at a b;rw[a]at b;cases b
theorem Yf(h:FlD P l f d w)(hf:li.getD f true=false)(hd:DepOk w li):f∈Dl l li:=by rw[Nu,mem_ready];obtain⟨ty,pos,ha⟩:=h.at_;refine⟨by rw[Na];exact hf,_,by rw[Me];exact ha,fun e he hb=>?_⟩;rw[Na];exact hd e he hb
theorem Bgy(h:FlD P l f d w)(hf:f∈Dl l li):DepOk w li:=by rw[Nu]at hf;obtain⟨_,o',ho',a⟩:=mem_ready.1 hf;obtain⟨ty,pos,ha⟩:=h.at_;rw[Me,ha]at ho';cases ho';exact fun e he hb=>by have:=a e he hb;rw[Na]at this;exact this
end
end
section
open Go Go.Conc
section
variable{C:Ctx}{F:Fns}
def Bjm(g:RG C)(fl:Option Nat)(r:List (Nat×Bool×Bool))(K:List (Nat×Nat))(st:St):Prop:=∀li,xGood g.l fl g.pz r li=true ->
 (∀fuel lv R e ds Y Z,r.length<=fuel->g.At st R e ds Y Z g.Z0->LvOk K st.m R lv->g.A fuel lv li e ds Y Z) /\
 (∀f d w rB fuel lv R e ds Y Z,fl=some f->li.getD f true=false->FlD C.P g.l f d w->DepOk w li->r.length<=fuel+1->g.At st R e ds Y Z ((rB,.obj (.cells (w.vs e).toArray w.t (0,0)))::g.Z0)->LvOk K st.m R lv->(∀p∈lv,wtL g.l f p=false) ->
  g.A fuel lv (li.set f true) (Ja e (some d) (w.vl rB)) ds Y Z)
theorem Afl{l fl pz i tk fp r li}(h:xGood l fl pz ((i,tk,fp)::r) li=true):
  i∈Dl l li/\xGood l fl pz r (li.set i true)=true/\(tk=true->i∈pz/\xTake l li i=true/\∀f,fl=some f->f≠i)/\(tk=false->xOnly l fl li i=true/\(xFp l fl li i=true->fp=true)):=by
 unfold xGood at h;cases tk with
 | true =>
  simp only[Oc]at h;obtain⟨⟨b,a⟩,c⟩:=h;refine⟨by simpa using b,c,fun _=>⟨by simpa using a.1.1,a.1.2,fun f hf e=>?_⟩,fun ht=>by cases ht⟩;subst hf e;have:=a.2;simp at this
 | false =>
  simp only[Oc]at h;obtain⟨⟨b,a⟩,c⟩:=h;refine⟨by simpa using b,c,fun ht=>(by cases ht),fun _=>⟨a.1,fun hx=>?_⟩⟩;have:=a.2;rw[hx]at this;exact this
theorem Btj{l fl i j li}(h:xOnly l fl li i=true)(hj:j∈Dl l li):j=i∨(fl=some j/\li.getD j true=false/\j≠i):=by
 unfold xOnly xRest0 at h;cases fl with
 | none =>
  have:=Rd.1 h j hj;exact .inl (lZ8 this).symm
 | some f =>
  simp only at h;cases hb:Nat.beq f i with
  | true =>
   rw[hb]at h;have:=Rd.1 h j hj;exact .inl (lZ8 this).symm
  | false =>
   rw[hb]at h;by_cases hjf:j=f
   ·subst hjf;exact .inr ⟨rfl,Aqx hj,fun e=>by subst e;simp at hb⟩
   ·have:=Rd.1 h j (Yv hj hjf);exact .inl (lZ8 this).symm
theorem Boh{l f i j li}(h:xOnly l (some f) li i=true)(hne:f≠i)(hj:j∈Dl l (li.set f true)):j=i:=by
 unfold xOnly xRest0 at h;simp only at h;have hb:Nat.beq f i=false:=by
  cases hb:Nat.beq f i with
  | true=>exact absurd (lZ8 hb) hne
  | false=>rfl
 rw[hb]at h;have:=Rd.1 h j hj;exact(lZ8 this).symm
theorem Ags{g:RG C}{fl i fp r o st st1 K K' x}(hg:g.Ok)(hi:g.l[i]?=some o)(hst:st1=⟨(dstK o.dst).run st.e x,st.m,st.ds⟩)(hK:∀a∈K,a∈K')(hy:∀R e ds Y Z σp,g.At st R e ds Y Z σp->Arq g i o K' st x R e)(ih:Bjm g fl r K' st1):Bjm g fl ((i,true,fp)::r) K st:=by
 intro li hgd;obtain⟨hr,hgr,ht,_⟩:=Afl hgd;obtain⟨_,htk,hnf⟩:=ht rfl;obtain⟨ihA,ihB⟩:=ih _ hgr;have y:=Region.noSelect_spec (Alr hg.sel);have G:Ahv g.l li i=true:=by
  unfold xTake at htk;rw[Oc]at htk;exact htk.2
 have hfs:=Region.free_spec (md:=.any) (ops:=g.l.toArray) (i:=i) (oi:=o) (by rw[Me];exact hi) (Ahw G);have hi':g.l.toArray[i]?=some o:=by rw[Me];exact hi
 refine⟨fun b lv R e ds Y Z t hat hlv=>?_,fun f d w rB b lv R e ds Y Z hfl hfu hfd hdp t hat hlv hlf=>?_⟩
 ·obtain⟨v,p,hp,hv,hyv,hpk⟩:=hy R e ds Y Z _ hat;have u:LvOk K' st1.m R (p::lv):=fun p' hp' q ob Rt he=>by
   subst hst;rcases lZ7.1 hp' with rfl|hp'
   ·obtain⟨c,h,k,n⟩:=hpk q ob Rt he;exact⟨c,h,hp ▸ k,n⟩
   ·obtain⟨c,h,k,n⟩:=hlv p' hp' q ob Rt he;exact⟨c,h,hK _ k,n⟩
  cases b with
  | zero=>simp at t
  | succ b =>
   refine Abc hi' y (Auo hp) b lv _ e ds Y Z hfs (Nu.1 hr) hyv ?_;rw[Mq];refine ihA b (p::lv) R _ ds Y Z (by simpa using t) ?_ u;subst hst;exact⟨hat.le,hat.rle,Ob hat.sim.env hv,hat.sim.mem,hat.sim.ds⟩
 ·obtain⟨v,p,hp,hv,hyv,hpk⟩:=hy R e ds Y Z _ hat;have u:LvOk K' st1.m R (p::lv):=fun p' hp' q ob Rt he=>by
   subst hst;rcases lZ7.1 hp' with rfl|hp'
   ·obtain⟨c,h,k,n⟩:=hpk q ob Rt he;exact⟨c,h,hp ▸ k,n⟩
   ·obtain⟨c,h,k,n⟩:=hlv p' hp' q ob Rt he;exact⟨c,h,hK _ k,n⟩
  have hne:f≠i:=hnf f hfl;have H:∀p'∈p::lv,wtL g.l f p'=false:=fun p' hp'=>by
   rcases lZ7.1 hp' with rfl|hp'
   ·obtain⟨ty,pos,ha⟩:=hfd.at_;exact Auo hp f _ (by rw[Me];exact ha) (hdp.ne hr)
   ·exact hlf p' hp'
  obtain⟨D,E,F⟩:=hfd.free i o hi (Ne.symm hne) (hdp.ne hr) (Aqv hr hi hfu);have z:(li.set i true).getD f true=false:=by rw[Ws (Ne.symm hne)];exact hfu
  cases b with
  | zero =>
   exfalso;have I:r=[]:=Blz.1 (by simpa using t);subst I;have:=Yf (li:=li.set i true) hfd z (hdp.set i);have B:(match Dl g.l (li.set i true) with|[]=>true|_=>false)=true:=hgr;split at B
   ·rename_i h0;rw[h0]at this;cases this
   ·cases B
  | succ b =>
   refine Abc hi' y (Auo hp) b lv _ _ ds Y Z ?_ ?_ (Bcp D (fun cs bb=>y i o cs bb hi') hyv) ?_
   ·intro j oj hj hji hun hno;refine hfs j oj hj hji ?_ hno;rw[Na]at hun ⊢;by_cases hjf:f=j
    ·subst hjf;exact hfu
    ·rw[Ws hjf]at hun;exact hun
   ·exact Nu.1 (Yv hr (Ne.symm hne))
   ·rw[Mq,List.set_comm _ _ hne,Vx e _ v (fun d' hd=>by cases hd;exact E)];refine ihB f d w rB b (p::lv) R _ ds Y Z hfl z hfd (hdp.set i) (by simpa using t) ?_ u H;rw[F];subst hst;exact⟨hat.le,hat.rle,Ob hat.sim.env hv,hat.sim.mem,hat.sim.ds⟩
theorem Bim{g:RG C}{fl i fp r o st st1 K K' x m1 ds1}(hg:g.Ok)(hi:g.l[i]?=some o)(hkp:Kept st.m m1)(hn:xKeep (xWaits g.l i) (Nat.sub m1.ln st.m.ln) m1.log K=some K')(hfl:∀f,fl=some f->∃d w,FlD C.P g.l f d w)(hfo:fp=true->∀f d w,fl=some f->FlD C.P g.l f d w->xIsV ((opK C.P w.op).run st.e st.m)=true)(hk:(gokK g.l o).run st.e=true)(hst:st1=⟨(dstK o.dst).run st.e x,m1,ds1⟩)(hdo:UqOk C g.l o st x m1 ds1)(hal:∀f d w,fl=some f->f=i->FlD C.P g.l f d w->∀(R:XR) e,EnvR R st.e e->Om R->∃c,x=w.cx st.m.nx/\m1=st.m.add (.cells c)/\VR R c (w.vs e))(ih:Bjm g fl r K' st1):Bjm g fl ((i,false,fp)::r) K st:=by
 intro li hgd;have a3:=hgd;obtain⟨hr,hgr,_,ht⟩:=Afl hgd;obtain⟨hon,YQ⟩:=ht rfl;obtain⟨ihA,ihB⟩:=ih _ hgr;have a2:=Region.noSelect_spec (Alr hg.sel);have hi':g.l.toArray[i]?=some o:=by rw[Me];exact hi
 have hds:=hdo.kept.2.2;have B:∀f d w rB a lv R e ds Y Z,fl=some f->li.getD f true=false->FlD C.P g.l f d w->DepOk w li->r.length+1<=a+1->g.At st R e ds Y Z ((rB,.obj (.cells (w.vs e).toArray w.t (0,0)))::g.Z0)->LvOk K st.m R lv->(∀p∈lv,wtL g.l f p=false) ->
   g.A a lv (li.set f true) (Ja e (some d) (w.vl rB)) ds Y Z:=by
  intro f d wo rB a lv R e ds Y Z F hfu hfd hdp n hat hlv hlf;by_cases hne:f=i
  ·obtain⟨c,hx,ZQ,hcv⟩:=hal f d wo F hne hfd R e hat.sim.env hat.sim.mem.globR;subst hne;obtain⟨ty,pos,E⟩:=hfd.at_;rw[hi]at E;cases E;have hfr:XR.le R (R.add st.m.nx (rB,0)):=let ⟨_,_,hm0⟩:=hat.sim.mem;hm0.fresh _
   have had:=hat.sim.mem.adopt (b:=rB) (c:=0) (r:=.obj (.cells (wo.vs e).toArray wo.t (0,0))) (o:=.cells c) (.cells (hcv.mono hfr) (Aog _));have y:LvOk K' st1.m (R.add st.m.nx (rB,0)) lv:=by
    have k:=hlv.step (l:=g.l) hkp hfr hn;rw[List.filter_eq_self.2 fun p hp=>by rw[hlf p hp];rfl]at k;subst hst;exact k
   refine ihA a lv (R.add st.m.nx (rB,0)) _ ds Y Z (by omega) ?_ y;subst hst hx ZQ;refine⟨hat.le.trans had.1,hat.rle,?_,had.2,?_⟩
   ·exact(hat.sim.env.mono had.1).set (hfd.val _ _ _ XR.add_same)
   ·rw[hds];exact hat.sim.ds.mono had.1
  ·obtain⟨O,T,U⟩:=hfd.free i o hi (Ne.symm hne) (hdp.ne hr) (Aqv hr hi hfu);have L:(li.set i true).getD f true=false:=by rw[Ws (Ne.symm hne)];exact hfu
   cases a with
   | zero =>
    exfalso;have a0:r=[]:=Blz.1 (by omega);subst a0;have:=Yf (li:=li.set i true) hfd L (hdp.set i);have M:(match Dl g.l (li.set i true) with|[]=>true|_=>false)=true:=hgr;split at M
    ·rename_i k;rw[k]at this;cases this
    ·cases M
   | succ a =>
    refine Ajh (rs:=Dl g.l (li.set f true)) (Hh _ _) (fun k=>?_) (hlv.S hat.sim.mem) fun j hj=>?_
    ·have:=Yv hr (Ne.symm hne);rw[k]at this;cases this
    ·subst F;have hji:=Boh hon hne hj;subst hji;have hn':NoRecv ((rB,.obj (.cells (wo.vs e).toArray wo.t (0,0)))::g.Z0):=Ln hg.nr;refine Btk hi' O T (fun cs bb=>a2 j o cs bb hi') ?_ (Bfo (b:=g.b) hdo hi hk hn' hat.sim);rintro N q z D ⟨rfl,R',v,h,G,rfl,H,I⟩;have u:g.At st1 R' (Ja e o.dst v) q z D ((rB,.obj (.cells (wo.vs (Ja e o.dst v)).toArray wo.t (0,0)))::g.Z0):=by
      rw[U];subst hst;exact⟨hat.le.trans h,hat.rle.trans G,Ob (hat.sim.env.mono h) H,I,by rw[hds];exact hat.sim.ds.mono h⟩
     have y:LvOk K' st1.m R' (lv.filter fun p=>!wtL g.l j p):=by
      subst hst;exact hlv.step hkp h hn
     rw[Mq,List.set_comm _ _ hne];exact ihB f d wo rB a _ R' _ q z D rfl L hfd (hdp.set j) (by omega) u y fun p hp=>hlf p (Ql.1 hp).1
 refine⟨fun a lv R e ds Y Z n hat hlv=>?_,fun f d w rB a lv R e ds Y Z F hfu hfd hdp n hat hlv hlf=>B f d w rB a lv R e ds Y Z F hfu hfd hdp (by simpa using n) hat hlv hlf⟩;cases a with
 | zero=>simp at n
 | succ a =>
  refine Ajh (rs:=Dl g.l li) (Hh _ _) (fun k=>by rw[k]at hr;cases hr) (hlv.S hat.sim.mem) fun j hj=>?_;rcases Btj hon hj with rfl|⟨hflj,hfu,hne⟩
  ·refine(Bfo (b:=g.b) hdo hi hk hg.nr hat.sim).mono ?_;rintro N q z D ⟨rfl,R',v,h,G,rfl,H,I⟩;have u:g.At st1 R' (Ja e o.dst v) q z D g.Z0:=by
    subst hst;exact⟨hat.le.trans h,hat.rle.trans G,Ob (hat.sim.env.mono h) H,I,by rw[hds];exact hat.sim.ds.mono h⟩
   have y:LvOk K' st1.m R' (lv.filter fun p=>!wtL g.l j p):=by
    subst hst;exact hlv.step hkp h hn
   rw[Mq];exact ihA a _ R' _ q z D (by simpa using n) u y
  ·obtain⟨d,wo,hfd⟩:=hfl j hflj;have X:fp=true:=YQ (by
    unfold xFp;rw[hflj];have V:Nat.beq j i=false:=by
     cases hb:Nat.beq j i with
     | true=>exact absurd (lZ8 hb) hne
     | false=>rfl
    have W:(Dl g.l li).contains j=true:=by simpa using hj
    simp only[V,W];rfl)
   have a1:=hfd.raw R st.e e st.m hat.sim.env hat.sim.mem.globR (hfo X j d wo hflj hfd);have hdp:=Bgy hfd hj;obtain⟨ty,pos,E⟩:=hfd.at_;unfold OpH;rw[Me,E];simp only;rw[if_pos (by rfl)];refine a1 Y Z _ _ _ _ _ _ fun J=>?_;have u:g.At st R e ds Y ((J,.obj (.cells (wo.vs e).toArray wo.t (0,0)))::Z) ((J,.obj (.cells (wo.vs e).toArray wo.t (0,0)))::g.Z0):=⟨hat.le,hat.rle,hat.sim.env,hat.sim.mem.frame,hat.sim.ds⟩;rw[Mq];refine B j d wo J a _ R e ds Y _ hflj hfu hfd hdp (by simpa using n) u (hlv.sub fun p hp=>(Ql.1 hp).1) fun p hp=>?_;have:=(Ql.1 hp).2;simpa using this
end
end
section
open Go Go.Conc
section
variable{C:Ctx}{F:Fns}
theorem Bqp{P:Program}{fo:KH}{l:List Oper}{i:Nat}{fp:Bool}{r:List (Nat×Bool×Bool)}{o:Oper}(hi:l[i]?=some o){rd:Option Nat}{K:List (Nat×Nat)}{st:St} :
  (anyK P l fo ((i,true,fp)::r)).run F rd K st=(match (gokK l o).run st.e with
    | true=>match (guardK l o).run st.e with
     | false=>(anyK P l fo r).run F rd K ⟨(dstK o.dst).run st.e .undef,st.m,st.ds⟩
     | true=>match (opK P o.op).run st.e st.m with
      | .rd x q=>match xOkV x with
       | true=>(anyK P l fo r).run F rd ((i,q)::K) ⟨(dstK o.dst).run st.e x,st.m,st.ds⟩
       | false=>.bad
      | .v x m=>match Nat.beq m.nx st.m.nx with
       | true=>(anyK P l fo r).run F rd K ⟨(dstK o.dst).run st.e x,st.m,st.ds⟩
       | false=>.bad
      | _=>.bad
    | false=>.bad):=by rw[anyK];simp only[hi]<;>rfl
theorem Bqq{P:Program}{fo:KH}{l:List Oper}{i:Nat}{fp:Bool}{r:List (Nat×Bool×Bool)}{o:Oper}(hi:l[i]?=some o){rd:Option Nat}{K:List (Nat×Nat)}{st:St} :
  (anyK P l fo ((i,false,fp)::r)).run F rd K st=(match (match fp with|true=>fo.run st.e st.m|false=>true),(gokK l o).run st.e with
    | true,true=>match (match (guardK l o).run st.e with|false=>OV.v .undef st.m st.ds|true=>doOR F st ((opK P o.op).run st.e st.m)) with
     | .v x m ds=>match xKeep (xWaits l i) (Nat.sub m.ln st.m.ln) m.log K with
      | some K=>(anyK P l fo r).run F rd K ⟨(dstK o.dst).run st.e x,m,ds⟩
      | none=>.bad
     | .bad=>.bad
    | _,_=>.bad):=by rw[anyK];simp only[hi]<;>rfl
theorem Bgb{P fo l i tk fp r}(hi:l[i]?=none){rd K st}:
  (anyK P l fo ((i,tk,fp)::r)).run F rd K st = .bad:=by rw[anyK];simp only[hi]
theorem Gm{ex st}(h:Go.Proofs.YtfeahfjambednaaGreatDoor.R.bad=Ha ex st):False:=by cases ex<;>cases h
def Cbi(C:Ctx)(l:List Oper)(pz:List Nat)(fl:Option Nat)(r:List (Nat×Bool×Bool))(K:List (Nat×Nat))(st:St)(ex:Ex)(st':St):Prop :=
 ex = .normal/\Kept st.m st'.m/\st'.m.outs=st.m.outs/\st'.ds=st.ds/\∀g:RG C,g.Ok->g.l=l->g.pz=pz->g.sf=st'->Bjm g fl r K st
theorem Ajk(hF:FnsOk C F){l:List Oper}{pz:List Nat}{fl:Option Nat}(hfl:∀f,fl=some f->∃d w,FlD C.P l f d w):∀(r:List (Nat×Bool×Bool)) (K:List (Nat×Nat)) (st:St) (rd:Option Nat) (ex:Ex) (st':St),
  (∀i tk fp,(i,tk,fp)∈r->tk=true->∀o,l[i]?=some o->xMild o.op=true) ->
  (anyK C.P l (flK C.P l fl) r).run F rd K st=Ha ex st'->Cbi C l pz fl r K st ex st'
 | [],K,st,rd,ex,st',_,h=>by
  have h':Go.Proofs.YtfeahfjambednaaGreatDoor.R.n st=Ha ex st':=h;cases ex with
  | normal =>
   cases h';refine⟨rfl,.refl _,rfl,rfl,?_⟩;rintro g hg rfl rfl hsf li hgd;have y:(match Dl g.l li with|[]=>true|_=>false)=true:=hgd;have z:Dl g.l li=[]:=by
    split at y
    ·assumption
    ·cases y
   refine⟨fun u lv R e ds Y Z _ hat hlv=>?_,fun f d w rB u lv R e ds Y Z _ hfu hfd hdp _ hat _ _=>?_⟩
   ·exact Afa (by rw[Hh];exact z) ⟨R,hat.le,hat.rle,by rw[hsf];exact hat.sim⟩ (hlv.S hat.sim.mem) u
   ·have:=Yf (li:=li) hfd hfu hdp;rw[z]at this;cases this
  | exit id=>cases h'
  | ret=>cases h'
 | (i,tk,fp)::r,K,st,rd,ex,st',hmd,h=>by
  cases hi:l[i]? with
  | none=>rw[Bgb hi]at h;exact(Gm h).elim
  | some o =>
   have t:∀i tk fp,(i,tk,fp)∈r->tk=true->∀o,l[i]?=some o->xMild o.op=true:=fun i tk fp hm=>hmd i tk fp (lZ0 _ hm);cases tk with
   | true =>
    rw[Bqp hi]at h;split at h
    ·rename_i hgk;split at h
     ·rename_i hgd;obtain⟨a,b,k,p,j⟩:=Ajk hF (pz:=pz) hfl r K ⟨(dstK o.dst).run st.e .undef,st.m,st.ds⟩ rd ex st' t h;refine⟨a,b,k,p,?_⟩;rintro g hg rfl rfl hsf;exact Ags hg hi rfl (fun _ ha=>ha) (fun R e ds Y Z σp hat=>Biz (by rw[Oq hat.sim.env hgk];exact hgd)) (j g hg rfl rfl hsf)
     ·rename_i hgd;split at h
      ·rename_i x q he;split at h
       ·rename_i hok;obtain⟨a,b,k,p,j⟩:=Ajk hF (pz:=pz) hfl r ((i,q)::K) ⟨(dstK o.dst).run st.e x,st.m,st.ds⟩ rd ex st' t h;refine⟨a,b,k,p,?_⟩;rintro g hg rfl rfl hsf;exact Ags hg hi rfl (fun _ ha=>lZ0 _ ha) (fun R e ds Y Z σp hat=>Bum hat he hok (by rw[Oq hat.sim.env hgk];exact hgd)) (j g hg rfl rfl hsf)
       ·exact(Gm h).elim
      ·rename_i x m1 he;split at h
       ·rename_i hnx;obtain⟨a,b,k,p,j⟩:=Ajk hF (pz:=pz) hfl r K ⟨(dstK o.dst).run st.e x,st.m,st.ds⟩ rd ex st' t h;refine⟨a,b,k,p,?_⟩;rintro g hg rfl rfl hsf;exact Ags hg hi rfl (fun _ ha=>ha) (fun R e ds Y Z σp hat=>Byu hat he (hmd i true fp mC rfl o hi) (lZ8 hnx) (by rw[Oq hat.sim.env hgk];exact hgd)) (j g hg rfl rfl hsf)
       ·exact(Gm h).elim
      ·exact(Gm h).elim
    ·exact(Gm h).elim
   | false =>
    rw[Bqq hi]at h;split at h
    ·rename_i hfoc hgk;have hfo:fp=true->∀f d w,fl=some f->FlD C.P l f d w->xIsV ((opK C.P w.op).run st.e st.m)=true:=fun hf f d w hff hfd=>by
      rw[hf]at hfoc;subst hff;obtain⟨ty,pos,ha⟩:=hfd.at_;unfold flK at hfoc;simp only[ha]at hfoc;exact hfoc
     split at h
     ·rename_i x m1 ds1 hov;have hdo:UqOk C l o st x m1 ds1:=by
       split at hov
       ·rename_i hgd;cases hov;exact .inl ⟨hgd,rfl,rfl,rfl⟩
       ·rename_i hgd;exact .inr ⟨hgd,Zk hF hov⟩
      have hal:∀f d w,fl=some f->f=i->FlD C.P l f d w->∀(R:XR) e,EnvR R st.e e->Om R->∃c,x=w.cx st.m.nx/\m1=st.m.add (.cells c)/\VR R c (w.vs e):=by
       rintro f d w hf rfl hfd R e he hg;obtain⟨ty,pos,ha⟩:=hfd.at_;rw[hi]at ha;cases ha;have hgd:(guardK l ⟨some d,w.op,ty,pos,w.af,none⟩).run st.e=true:=rfl;rw[hgd]at hov;simp only at hov;cases hr:(opK C.P w.op).run st.e st.m with
       | v x' m' =>
        rw[hr]at hov;obtain⟨a,b,_⟩:=Bom hov;subst a b;exact hfd.run R st.e e st.m _ _ he hg hr
       | bad=>rw[hr]at hov;cases hov
       | _=>have:=hfd.simple st.e st.m;rw[hr]at this;exact this.elim
      split at h
      ·rename_i K' hn;obtain⟨a,b,k,p,j⟩:=Ajk hF (pz:=pz) hfl r K' ⟨(dstK o.dst).run st.e x,m1,ds1⟩ rd ex st' t h;refine⟨a,hdo.kept.1.trans b,k.trans hdo.kept.2.1,p.trans hdo.kept.2.2,?_⟩;rintro g hg rfl rfl hsf;exact Bim hg hi hdo.kept.1 hn hfl hfo hgk rfl hdo hal (j g hg rfl rfl hsf)
      ·exact(Gm h).elim
     ·exact(Gm h).elim
    ·exact(Gm h).elim
theorem Aov{b:FB}{ops:Array Oper}{Q Q':Env->List Deferred->Ro->Own->Prop}{pz:List Nat}{S:Ro->Own->Prop}(hq:∀e ds Y Z,Q e ds Y Z->Q' e ds Y Z):∀(fuel:Nat) (li:Array Bool) (e:Env) (ds:List Deferred) (Y:Ro) (Z:Own),El C b ops Q pz S fuel li e ds Y Z->El C b ops Q' pz S fuel li e ds Y Z
 | 0,li,e,ds,Y,Z,h=>⟨h.1,hq _ _ _ _ h.2⟩
 | fuel+1,li,e,ds,Y,Z,h=>by
  rcases h with h|⟨Y1,Z1,h1,h2,h3,h4⟩
  ·exact .inl h
  ·exact .inr ⟨Y1,Z1,h1,h2,fun h0=>hq _ _ _ _ (h3 h0),fun i hi=>(h4 i hi).mono fun e ds Y Z h=>⟨h.1,Aov hq fuel _ e ds Y Z h.2⟩⟩
theorem Apu{l:List Oper}{fl:Option Nat}{pz:List Nat}:∀{r:List (Nat×Bool×Bool)} {li:List Bool},xGood l fl pz r li=true->∀i tk fp,(i,tk,fp)∈r->tk=true->∀o,l[i]?=some o->xMild o.op=true
 | [],_,_,_,_,_,hm,_,_,_=>by cases hm
 | (i0,tk0,fp0)::r,li,h,i,tk,fp,hm,ht,o,ho=>by
  obtain⟨_,h2,h3,_⟩:=Afl h;rcases lZ7.1 hm with h0|h0
  ·cases h0;have:=(h3 ht).2.1;unfold xTake at this;rw[ho]at this;simp only[Oc]at this;exact this.1.1
  ·exact Apu h2 i tk fp h0 ht o ho
theorem Aef(l:List Oper)(fl:Option Nat):∀(n:Nat) (li:List Bool),(xPlan l fl n li).length<=n
 | 0,_=>Ii _
 | n+1,li=>by
  unfold xPlan;split
  ·split
   ·split
    ·exact Hr _
    ·exact Aww (Aef l _ n _)
   ·exact Hr _
  ·split
   ·exact Aww (Aef l _ n _)
   ·split
    ·exact Aww (Aef l _ n _)
    ·exact Hr _
theorem Avp(hF:FnsOk C F){l st rd ex st'}(h:(drawK C.P l).run F rd st=Ha ex st'):
  C.P.follows .mixedOrders=true/\ex = .normal/\Kept st.m st'.m/\st'.m.outs=st.m.outs/\∃pz,∀b R e ds Y Z Z9,NoRecv Z9->Sim R st e ds Y Z Z9 ->
   ∃S:Ro->Own->Prop,El C b l.toArray (fun e' ds' Y' Z'=>∃R',XR.le R R'/\Ro.le Y Y'/\Sim R' st' e' ds' Y' Z' Z9) pz S l.length (List.replicate l.length false).toArray e ds Y Z:=by
 unfold drawK at h;split at h
 ·rename_i hsel hmx;refine⟨hmx,?_⟩;simp only at h;split at h
  ·rename_i hgood hany;have hk:∀{k:KD},(∃f,k=⟨f⟩)->True:=fun _=>trivial;generalize hp:xPlan l (xFloat l) l.length (List.replicate l.length false)=p at *;have n:(anyK C.P l (flK C.P l (xFloat l)) p).run F rd [] st=Ha ex st':=by
    rw[hany];exact h
   have hfl:∀f,xFloat l=some f->∃d w,FlD C.P l f d w:=fun f hf=>Bws hf;obtain⟨c,i,j,q,a⟩:=Ajk hF (pz:=xPz p) hfl p [] st rd ex st' (Apu hgood) n;refine⟨c,i,j,[],fun b R e ds Y Z Z9 hn hs=>?_⟩
   let g:RG C:=⟨b,l,xPz p,R,Y,Z9,st'⟩
   have hg:g.Ok:=⟨hsel,hn⟩;have hA:=(a g hg rfl rfl rfl _ hgood).1;refine⟨fun _ _=>True,Ajj (hA l.length [] R e ds Y Z ?_ ⟨.refl,.refl,hs⟩ fun p hp=>(by cases hp))⟩;rw[<-hp];exact Aef l (xFloat l) l.length _
  ·exact(Gm h).elim
 ·exact(Gm h).elim
end
end
section
open Go Go.Conc
section
variable{C:Ctx}{b:FB}{n:Nat}
theorem Bfz{l₀ id Q Q' e ds Y Z}(k:Nat)(pz:List Nat)(S:Ro->Own->Prop)(hm:C.P.follows .mixedOrders=true)(hs':Fu n l₀.toArray=true)(hk':b.kind ≠ .early)(hd:∃oL,l₀.drop k=[oL])(hg:Adh (l₀.take k)=true)(hc:Amp (l₀.take k) l₀=true)(hQ:∀e ds Y Z,Q' e ds Y Z->Lq C b n l₀.toArray [(l₀.take k).length] (fun e ds Y Z=>Q .normal e ds Y Z) e ds Y Z)(h2:El C b (l₀.take k).toArray Q' pz S (l₀.take k).length (List.replicate (l₀.take k).length false).toArray e ds Y Z):WpC C b n (.region id l₀.toArray true) Q e ds Y Z:=by
 obtain⟨oL,hd⟩:=hd;have hl:l₀.take k++[oL]=l₀:=by rw[<-hd,Aig]
 have f:l₀.toArray.size=(l₀.take k).length+1:=by
  rw[Aik];have:=congrArg List.length hl;simp only[lZ3,Vy]at this;omega
 intro tm ks cs ht;refine .step (fun fr' cs' Z'=>∃t,fr'=Fr b tm ds (.inRegion l₀.toArray (Region.linearise .any l₀.toArray t)::ks)/\cs'=cs/\Z'=Z) (fun W a=>?_) ?_
 ·refine⟨_,cs,{W with drawn:=W.drawn+1},#[],Z,?_,?_,by simp,W.tape W.drawn (.order b.fn id),rfl,rfl,rfl⟩
  ·simp[Conc.G,stepG,stepG.exec,Fr,choose,Sem.run,Question.forced,Question.cut,Region.schedule,hm]
  ·have:=Trans.refl a;exact⟨⟨a.ro,a.own,a.nd,a.dj⟩,this.size,this.keys,this.kept,this.fresh,this.frame,this.ends,this.chans,this.chansKept,this.crowds,this.crowdsKept,rfl,rfl,rfl⟩
 ·rintro _ _ g ⟨t,rfl,hcs,hZ⟩;replace hZ:=hZ.symm;replace hcs:=hcs.symm;subst hZ hcs;have key:=Aap (C:=C) (b:=b) (n:=n) (l':=l₀.take k) (oL:=oL) (Q:=fun e ds Y Z=>Q .normal e ds Y Z) (pz:=pz) (S:=S) (by rw[hl];exact hs') hk' hg (by rw[hl];exact hc) (fun e ds Y Z h=>by rw[hl];exact hQ e ds Y Z h) (l₀.take k).length t (List.replicate (l₀.take k).length false) e ds Y Z (by simp) (by
   unfold Mh;rw[Rd];intro i hi;have:(List.replicate (l₀.take k).length false).getD i false=false:=by
    rw[Wx,Bly];split<;>rfl
   rw[this];rfl) h2
  rw[hl]at key;have c:Region.linearise .any l₀.toArray t=Region.linearise.go .any l₀.toArray ((l₀.take k).length+1) t (List.replicate (l₀.take k).length false++[false]).toArray []:=by
   unfold Region.linearise;rw[f];congr 1;rw[<-List.replicate_succ',List.toArray_replicate]
  rw[c];refine(key tm ks cs ht).mono ?_;rintro _ _ Y' Z' (⟨rfl,tm',e',ds',d,h2,rfl⟩|hp)
  ·exact .inl ⟨rfl,.normal,tm',e',ds',ks,d,h2,rfl,rfl⟩
  ·exact .inr hp
end
section
variable{C:Ctx}{G:GoT C}{F:Fns}{dx:DX}
def Wk(G:GoT C)(n:Nat)(rd:Option Nat)(c:Code)(st:St)(ex:Ex)(st':St):Prop:=∀b:FB,b.kind ≠ .early->Bur G b n rd c st ex st'
theorem Avx{l}(h:xGoLast l=true):∃oL,l.drop (l.length-1)=[oL]:=by
 unfold xGoLast at h;cases hl:l.getLast? with
 | none=>rw[hl]at h;cases h
 | some o =>
  refine⟨o,?_⟩;obtain⟨pre,rfl⟩:=List.getLast?_eq_some_iff.1 hl;simp
theorem Byn(hF:FnsOk C F)(hx:Abb G F dx)(hgl:dx.gl=true->(∃S,G=goT C S)/\∀S,Abb (goT C S) F dx){n id l draw rd st ex st'}(h:(regK C.P dx n l draw).run F rd st=Ha ex st'):
  Wk G n rd (.region id l.toArray draw) st ex st':=by
 intro b hb;unfold regK at h;split at h
 ·exact(Gm h).elim
 ·rename_i hsl;have i:=Aah hsl;split at h
  ·obtain⟨rfl,a,d⟩:=Aej hx l st rd ex st' h;exact⟨a,fun hs R e ds Y Z Z9 hn hr c=>Ayh (d hs b n R e ds Y Z Z9 i hb hn hr c)⟩
  ·split at h
   ·obtain⟨hm,rfl,a,d,pz,p⟩:=Avp hF h;refine⟨a,fun hs R e ds Y Z Z9 hn hr c=>?_⟩;obtain⟨S,hA⟩:=p b R e ds Y Z Z9 hn c;rw[d];refine Reach.of_wp (Vk pz S hm i hb ?_);refine Aov (fun e ds Y Z h=>⟨rfl,h⟩) _ _ _ _ _ _ ?_;simpa using hA
   ·exact(Gm h).elim
   ·rename_i hgo hgl1;obtain⟨⟨j,hG⟩,hxa⟩:=hgl hgl1;split at h
    ·rename_i f g hng hlb hf hg;have hf':drawK C.P (l.take (l.length-1))=⟨f⟩:=hf;have hg':textK C.P dx l (l.drop (l.length-1))=⟨g⟩:=hg;have h':(match f F rd st with | .n st=>g F rd st|_=>Go.Proofs.YtfeahfjambednaaGreatDoor.R.bad)=Ha ex st':=h;split at h'
     ·rename_i st1 hf1;have hd:(drawK C.P (l.take (l.length-1))).run F rd st=Ha .normal st1:=by rw[hf'];exact hf1
      have ht:(textK C.P dx l (l.drop (l.length-1))).run F rd st1=Ha ex st':=by rw[hg'];exact h'
      obtain⟨hm,_,a,d,pz,p⟩:=Avp hF hd;obtain⟨rfl,D,_⟩:=Aej (hxa j) _ _ _ _ _ ht;refine⟨a.trans D,fun hs R e ds Y Z Z9 hn hr c=>?_⟩;obtain⟨S,hA⟩:=p b R e ds Y Z Z9 hn c;subst hG;have hwp:WpC C b n (.region id l.toArray true) (fun ex' e' ds' Y' Z'=>ex' = .normal/\∃R',XR.le R R'/\Ro.le Y Y'/\Sim R' st' e' ds' Y' Z' Z9) e ds Y Z:=by
       obtain⟨oL,hdr⟩:=Avx hgo;refine Bfz (l.length-1) pz S hm i hb ⟨oL,hdr⟩ hng hlb ?_ hA;rintro w v J K ⟨t,q,I,E⟩ tm k cs H;have hT:=(Aej (hxa (fun fr cs' Y' Z'=>cs'=cs/\∃tm' e' ds',EnvOf n tm' e'/\(Ex.normal=Ex.normal/\∃R',XR.le R R'/\Ro.le Y Y'/\Sim R' st' e' ds' Y' Z' Z9)/\fr=Fr b tm' ds' k)) _ _ _ _ _ ht).2.2 trivial b n t w v J K Z9 i hb hn (hr.mono q) E;have:=hT (l.take (l.length-1)) (Aig _ _).symm tm k cs H fun tm' e' ds' Y' Z' x ⟨u,y,z,B⟩=>.stop ⟨rfl,tm',e',ds',x,⟨rfl,u,q.trans y,I.trans z,B⟩,rfl⟩;rw[hdr]at this;exact GoesH.mono this fun _ _ _ _ h=>.inl h
      exact(Reach.of_wp (G:=goT C j) (o:=st.m.outs) hwp:Reach (goT C j) b n _ st.m.outs e ds Y Z _ st.m.outs _)
     ·exact(Gm h').elim
    ·exact(Gm h).elim
end
end
section
open Go Go.Conc
theorem Ahq{P main b tm ds f ps assign body k cs kk fn caps W W' lm es}(hk:b.kind ≠ .early)(hf:(Fr b tm ds (.code (.rangeFunc f ps assign body)::k)).eval f = .func (.func kk) #[] caps.toArray)(h1:P.funcs[kk]?=some fn)(h2:(fn.name == "runtime.NumGoroutine")=false)(h3:fn.body.isNone=false)(hrun:(Instr.enterLoop b.fn tm ps assign body b.round).runT P W #[]=(.ok lm W',es)):
  ∃es',stepG P main (Conc.G (Fr b tm ds (.code (.rangeFunc f ps assign body)::k)) cs) W = .go (Conc.G (Frame.enter P kk (Value.func (.yield lm.1) #[] #[]::caps).toArray .normal) (Fr b tm (lm.2++ds) (.inRangeFunc lm.1::k)::cs)) W' es'/\∀e∈es',Bfw es e:=by
 obtain⟨l,a⟩:=lm;have i:(b.kind==CallKind.early)=false:=by cases h:b.kind<;>simp_all<;>rfl
 have c:(Fr b tm (a++ds) (.inRangeFunc l::k)).eval f = .func (.func kk) #[] caps.toArray:=by
  rw[<-hf];cases f<;>rfl
 have hi:(do let d <-resolve (Fr b tm (a++ds) (.inRangeFunc l::k)).eval {callee:=.value f,args:=#[.const (.func (.yield l) #[] #[])],argTypes:=#[]} 0;invoke d.target d.args:Sem Next).runT P W' #[]=(.ok (.enter kk (Value.func (.yield l) #[] #[]::caps).toArray) W',#[]):=by
  generalize hfr:Fr b tm (a++ds) (.inRangeFunc l::k)=fr at c;have g:(do let d <-resolve fr.eval {callee:=.value f,args:=#[.const (.func (.yield l) #[] #[])],argTypes:=#[]} 0;invoke d.target d.args:Sem Next)=callFunc kk (Value.func (.yield l) #[] #[]::caps).toArray:=by
   show ((Deferred.ofValue (fr.eval f) ((#[.const (.func (.yield l) #[] #[])]:Array Operand).map fr.eval)).bind _)=_;rw[c];show callFunc kk ((#[]++((#[.const (.func (.yield l) #[] #[])]:Array Operand).map fr.eval))++caps.toArray)=_;congr 1;simp[Frame.eval]
  rw[g];exact Vd h1 h2 h3 W' #[]
 refine⟨seen P b.fn es++seen P b.fn #[],?_,fun ev he=>?_⟩
 ·simp only[Fr]at hi;simp only[Conc.G,stepG,stepG.exec,Fr,hrun,stepG.apply,if_true,hi,i,GStep.after];rfl
 ·rcases Array.mem_append.1 he with h|h
  ·exact Lh h
  ·have:=(Lh h).1;simp at this
theorem Aum{P Y l i L Q Z}(hi:Z[i]?=some (l,.obj (.loop L)))(hb:(L.state == .busy)=false)(h:Q L.pending (Z.set i (l,.obj (.loop {L with state:=.exhausted})))):wpS P Y (Instr.endLoop l) Z Q:=by show wpS P Y ((Instr.getLoop l).bind _) _ Q;rw[Ad];show wpS P Y ((getObj l).bind _) _ _;rw[Ad];refine⟨_,.inr (lZ5 hi),rfl,?_⟩;show wpS P Y (if L.state == .busy then _ else _) _ Q;rw[if_neg (by simp[hb])];exact⟨rfl,i,_,hi,rfl,h⟩
section
variable{C:Ctx}{G:GoT C}{F:Fns}{dx:DX}{n:Nat}
theorem Ayi(hF:FnsOk C F){ps as_ body g ys ec dk m dsc ex st'}(h:xRange F n ps as_ body g ys ec dk m dsc=Ha ex st'):
  Kept m st'.m/\st'.m.outs=m.outs/\∀(b:FB) (o:List CV) (f:Operand) R e ds Y Z Z9 fn caps db dc l tm k cs,b.kind ≠ .early->NoRecv Z9->EnvOf n tm e->EnvR R ec e->MemX R m Y Z Z9->DsR R dsc ds->R dk=some (db,dc)->VR R ys caps ->
   C.P.funcs[g]?=some fn->(fn.name == "runtime.NumGoroutine")=false->fn.body.isNone=false ->
   (∀tm' e' ds' Y' Z' todo,EnvOf n tm' e'->(∃R',XR.le R R'/\Ro.le Y Y'/\Sim R' st' e' ds' Y' Z' Z9)->Pl ex k todo->G.Go o (Fr b tm' ds' todo) cs Y' Z') ->
   G.Go o (Frame.enter C.P g (Value.func (.yield l) #[] #[]::caps).toArray .normal) (Fr b tm ds (.inRangeFunc l::k)::cs) Y ((l,Res.obj (.loop {state:=.ready,pending:=none,fn:=b.fn,tmps:=tm,params:=ps.toArray,assign:=as_,body,defers:=db}))::Z):=by
 unfold xRange at h;split at h
 ·rename_i x m1 hcall;split at h
  ·rename_i bz pd n' env' ps' as' body' dk' hg1;split at h
   ·exact(Gm h).elim
   ·rename_i hbz;obtain⟨B,hcl⟩:=hF.call _ _ _ _ _ hcall;have D:Kept m m1:=(LogOk.add _ _).kept.trans B;have fin:∀(q:Option Code),q=pd->Kept m (xRest (m1.put m.nx (.loop 3 q n' env' ps' as' body' dk')) m.outs):=fun q _=>(D.trans (LogOk.put _ _ _).kept).rest;have main:∀(ex:Ex),Pf ex=pd->st'=⟨ec,xRest (m1.put m.nx (.loop 3 pd n' env' ps' as' body' dk')) m.outs,dsc⟩->Kept m st'.m/\st'.m.outs=m.outs/\∀(b:FB) (o:List CV) (f:Operand) R e ds Y Z Z9 fn caps db dc l tm k cs,b.kind ≠ .early->NoRecv Z9->EnvOf n tm e->EnvR R ec e->MemX R m Y Z Z9->DsR R dsc ds->R dk=some (db,dc)->VR R ys caps ->
   C.P.funcs[g]?=some fn->(fn.name == "runtime.NumGoroutine")=false->fn.body.isNone=false ->
   (∀tm' e' ds' Y' Z' todo,EnvOf n tm' e'->(∃R',XR.le R R'/\Ro.le Y Y'/\Sim R' st' e' ds' Y' Z' Z9)->Pl ex k todo->G.Go o (Fr b tm' ds' todo) cs Y' Z') ->
   G.Go o (Frame.enter C.P g (Value.func (.yield l) #[] #[]::caps).toArray .normal) (Fr b tm ds (.inRangeFunc l::k)::cs) Y ((l,Res.obj (.loop {state:=.ready,pending:=none,fn:=b.fn,tmps:=tm,params:=ps.toArray,assign:=as_,body,defers:=db}))::Z):=by
     intro ex hpd hst;subst hst;refine⟨fin pd rfl,rfl,fun b o f R e ds Y Z Z9 fn caps db dc l tm k cs hb hn ht he hm hd hdk hv a3 a4 a5 hq=>?_⟩;obtain⟨L0,G0,d⟩:=hm;have E:=d.add (b:=l) (c:=0) (r:=.obj (.loop {state:=.ready,pending:=none,fn:=b.fn,tmps:=tm,params:=ps.toArray,assign:=as_,body,defers:=db})) (o:=.loop 0 none n ec ps as_ body dk)
      (.loop rfl rfl ht (he.mono (d.fresh _)) rfl rfl rfl (d.fresh _ _ _ hdk) rfl)
     have a:XR.le R (R.add m.nx (l,0)):=d.fresh _;have hc:=hcl _ (Value.func (.yield l) #[] #[]::caps) Y _ Z9 hn (.y XR.add_same (hv.mono a)) E;refine G.bind (hc (Fr b tm ds (.inRangeFunc l::k)) cs) ?_;rintro _ cs' Y' Z' ⟨v,rfl,hcs,p,i,I,q3,J⟩;replace hcs:=hcs.symm;subst hcs;have z:(Fr b tm ds (.inRangeFunc l::k)).finish v=Fr b tm ds (.endRangeFunc l::k):=rfl;rw[z];obtain⟨b1,c1,r1,i1,t,K,M,N⟩:=J.at hg1 (by simp);rw[i _ _ XR.add_same]at t;cases t;obtain⟨w,a2,a0,a1,rfl,O,u,T,U,V,X,YQ,ZQ,v9⟩:=Yi M;have hob:=N _ _ (ObjR.loop (busy:=3) (L:={w with state:=.exhausted}) rfl u T U V X YQ ZQ v9);refine G.bind (Lw (s:=Instr.endLoop l) (f:=fun j=>(Fr b tm ds ((j.map Item.code).toList++k),cs)) (Q:=fun j Z''=>j=pd/\MemX p (m1.put m.nx (.loop 3 pd n' env' ps' as' body' dk')) Y' Z'' Z9) (fun W j W' es H=>?_) (Aum K (by
       rw[O];have:bz≠1:=fun e=>by subst e;simp at hbz
       match bz,this with
       | 0,_=>rfl
       | 1,h=>exact absurd rfl h
       | 2,_=>rfl
       | _+3,_=>rfl) ⟨u,hob⟩) (S:=fun fr' cs' Y'' Z''=>Y''=Y'/\fr'=Fr b tm ds ((pd.map Item.code).toList++k)/\cs'=cs/\MemX p (m1.put m.nx (.loop 3 pd n' env' ps' as' body' dk')) Y' Z'' Z9) (by
       rintro j Z'' ⟨rfl,hx⟩;exact .stop ⟨rfl,rfl,rfl,hx⟩)) ?_
     ·exact⟨seen C.P b.fn es ++ #[],by simp[Conc.G,stepG,stepG.exec,Fr,-Sem.runT_eq,H,GStep.after],fun ev he=>Lh (by simpa using he)⟩
     ·rintro _ _ Y'' Z'' ⟨rfl,rfl,rfl,hx⟩;refine hq tm e ds Y'' Z'' _ ht ⟨p,a.trans i,I,he.mono (a.trans i),hx.rest,hd.mono (a.trans i)⟩ ?_;subst hpd;cases ex with
      | normal=>rfl
      | exit id=>exact⟨[],by simp,rfl⟩
      | ret=>exact⟨[],rfl⟩
    split at h
    ·cases ex with
     | normal=>cases h;exact main .normal rfl rfl
     | exit id=>cases h
     | ret=>cases h
    ·split at h
     ·cases ex with
      | normal=>cases h
      | exit id=>cases h;exact main (.exit _) rfl rfl
      | ret=>cases h
     ·cases ex with
      | normal=>cases h
      | exit id=>cases h
      | ret=>cases h;exact main .ret rfl rfl
     ·exact(Gm h).elim
  ·exact(Gm h).elim
 ·exact(Gm h).elim
end
end
section
open Go Go.Conc
section
variable{C:Ctx}{G:GoT C}{F:Fns}{dx:DX}{n:Nat}
theorem Bpf{b c o o' e ds Y Y0 Z Z9 ex R R0 st'}(hR:XR.le R0 R)(hρ:Ro.le Y0 Y)(h:Reach G b n c o e ds Y Z ex o' (fun e' ds' Y' Z'=>∃R',XR.le R R'/\Ro.le Y Y'/\Sim R' st' e' ds' Y' Z' Z9)):Reach G b n c o e ds Y Z ex o' (fun e' ds' Y' Z'=>∃R',XR.le R0 R'/\Ro.le Y0 Y'/\Sim R' st' e' ds' Y' Z' Z9) :=
 h.mono fun _ _ _ _ ⟨R',a,d,f⟩=>⟨R',hR.trans a,hρ.trans d,f⟩
theorem Buf{a b rd st st1 st' ex}(ha:Wk G n rd a st .normal st1)(hb:Wk G n rd b st1 ex st'):Wk G n rd (.seq a b) st ex st':=fun fb hfb=>by
 obtain⟨m,i⟩:=ha fb hfb;obtain⟨c,j⟩:=hb fb hfb;refine⟨m.trans c,fun hs R e ds Y Z Z9 hn hr k=>Cau ((i (G.less_of c hs) R e ds Y Z Z9 hn hr k).mono ?_)⟩;rintro h g t u ⟨f,d,p,q⟩;exact Bpf d p (j hs f h g t u Z9 hn (hr.mono d) q)
def Bqn(G:GoT C)(n:Nat)(rd:Option Nat)(c:Code)(st:St)(ex:Ex)(st':St):Prop:=∀b:FB,b.kind ≠ .early->Kept st.m st'.m/\(G.suf st'.m.outs->∀R e ds Y Z Z9,NoRecv Z9->RdOk G R rd b->Sim R st e ds Y Z Z9 ->
 LoopR G b n c st.m.outs e ds Y Z ex st'.m.outs (fun e' ds' Y' Z'=>∃R',XR.le R R'/\Ro.le Y Y'/\Sim R' st' e' ds' Y' Z' Z9))
theorem Axk{a:Code}{rd:Option Nat}{f:Fns->Option Nat->St->Go.Proofs.YtfeahfjambednaaGreatDoor.R}(ih:∀st ex st',f F rd st=Ha ex st'->Wk G n rd a st ex st'):∀(k:Nat) (st:St) (ex:Ex) (st':St),xLoopR f F rd k st=Ha ex st'->ex ≠ .normal/\Bqn G n rd a st ex st'
 | 0,st,ex,st',h=>(Gm h).elim
 | k+1,st,ex,st',h=>by
  have h':(match f F rd st with | .n st=>xLoopR f F rd k st|y=>y)=Ha ex st':=h;split at h'
  ·rename_i st1 d;obtain⟨hx,hl⟩:=Axk ih k st1 ex st' h';refine⟨hx,fun b hb=>?_⟩;obtain⟨i,c⟩:=ih st .normal st1 d b hb;obtain⟨j,u⟩:=hl b hb;refine⟨i.trans j,fun hs R e ds Y Z Z9 hn hr g=>Bhw ((c (G.less_of j hs) R e ds Y Z Z9 hn hr g).mono ?_)⟩;rintro t q B C ⟨p,m,x,z⟩;exact(u hs p t q B C Z9 hn (hr.mono m) z).mono fun _ _ _ _ ⟨R',d,v,w⟩=>⟨R',m.trans d,x.trans v,w⟩
  ·rename_i hne;have hx:ex ≠ .normal:=fun e=>by subst e;exact hne _ h'
   refine⟨hx,fun b hb=>?_⟩;obtain⟨i,c⟩:=ih st ex st' h' b hb;exact⟨i,fun hs R e ds Y Z Z9 hn hr g=>Bnf hx (c hs R e ds Y Z Z9 hn hr g)⟩
theorem Anv{P Y Z fn tm ps assign body}{lb i:Nat}{L Q}(hi:Z[i]?=some (lb,.obj (.loop L)))(h:∀l,Q (l,[]) ((l,.obj (.loop {state:=.ready,pending:=none,fn,tmps:=tm,params:=ps,assign,body,defers:=L.defers}))::Z)):
  wpS P Y (Instr.enterLoop fn tm ps assign body (some lb)) Z Q:=by show wpS P Y ((Instr.getLoop lb).bind _) Z Q;rw[Ad];show wpS P Y ((getObj lb).bind _) Z _;rw[Ad];refine⟨_,.inr (lZ5 hi),rfl,?_⟩;show wpS P Y ((newObj (.loop {state:=.ready,pending:=none,fn,tmps:=tm,params:=ps,assign,body,defers:=L.defers})).bind _) _ Q;rw[Ad];exact .inl ⟨rfl,fun l=>h l⟩
theorem Biv(hF:FnsOk C F){f:Operand}{ps:Array Tmp}{as_ body:Code}{rd:Option Nat}{st st':St}{ex:Ex}{g:FuncId}{ys:List CV}(hf:(rdK f).run st.e = .f g [] ys)(hb:xHasBody C.P g=true)
    (h : (match rd with
          | some l=>match st.m.M.get l with|some (.own (.loop _ _ _ _ _ _ _ dk))=>xRange F n ps.toList as_ body g ys st.e dk st.m st.ds|_=>.bad
          | none=>xRange F n ps.toList as_ body g ys st.e st.m.nx (st.m.add .defd) (.mark st.m.nx::st.ds))=Ha ex st'):Wk G n rd (.rangeFunc f ps as_ body) st ex st':=by
  intro b hbk;obtain⟨fn,j,p,q⟩:=Ww hb;cases rd with
  | none =>
    obtain⟨w,x,y⟩:=Ayi (G:=G) hF h;refine⟨(LogOk.add _ _).kept.trans w,fun hs R e ds Y Z Z9 hn hr a tm k cs ht hq=>?_⟩;have hr':b.round=none:=hr.2;have hv:=Ee a.env a.mem.globR f;rw[hf]at hv;obtain⟨xs',d,z,B,v⟩:=Bpy hv;cases z;have hev:(Fr b tm ds (.code (.rangeFunc f ps as_ body)::k)).eval f = .func (.func g) #[] d.toArray:=by rw[ht.eval];exact v
    refine G.bind (Lw (s:=Instr.enterLoop b.fn tm ps as_ body b.round) (f:=fun lm=>(Frame.enter C.P g (Value.func (.yield lm.1) #[] #[]::d).toArray .normal,Fr b tm (lm.2++ds) (.inRangeFunc lm.1::k)::cs))
      (Q:=fun lm Z'=>∃r,lm.2=[{target:=.collected r,args:=#[]}]/\Z'=(lm.1,Res.obj (.loop {state:=.ready,pending:=none,fn:=b.fn,tmps:=tm,params:=ps,assign:=as_,body,defers:=r}))::(r,.obj (.deferred (some [])))::Z)
      (fun W lm W' es u=>Ahq hbk hev j p q u) (by rw[hr'];exact Vj fun r l=>⟨r,rfl,rfl⟩)
      (S:=fun fr' cs' Y' Z'=>Y'=Y/\∃l r,fr'=Frame.enter C.P g (Value.func (.yield l) #[] #[]::d).toArray .normal/\cs'=Fr b tm ({target:=.collected r,args:=#[]}::ds) (.inRangeFunc l::k)::cs/\Z'=(l,Res.obj (.loop {state:=.ready,pending:=none,fn:=b.fn,tmps:=tm,params:=ps,assign:=as_,body,defers:=r}))::(r,.obj (.deferred (some [])))::Z)
      (by
        rintro⟨l,mk⟩ Z' ⟨r,i,rfl⟩;simp only at i;subst i;exact .stop ⟨rfl,l,r,rfl,rfl,rfl⟩)) ?_
    rintro _ _ ZQ _ ⟨hρ,l,r,rfl,rfl,rfl⟩;replace hρ:=hρ.symm;subst hρ;obtain⟨L0,G0,D⟩:=a.mem;have hle:=D.fresh (r,0);have O:=D.add (b:=r) (c:=0) (o:=.defd) (r:=.obj (.deferred (some []))) .defd;have:=y b st'.m.outs f _ e ({target:=.collected r,args:=#[]}::ds) Y _ Z9 fn d r 0 l tm k cs hbk hn ht (a.env.mono hle) O (.mark XR.add_same (a.ds.mono hle)) XR.add_same (B.mono hle) j p q
      (fun tm' e' ds' Y' Z' T I ⟨R',J,K,L⟩ N=>hq tm' e' ds' Y' Z' T I ⟨R',hle.trans J,K,L⟩ N)
    rw[x]at this;exact this
  | some l0 =>
    simp only at h;split at h
    · rename_i bz pd n0 env0 ps0 as0 body0 dk hg0
      obtain⟨w,x,y⟩:=Ayi (G:=G) hF h;refine⟨w,fun hs R e ds Y Z Z9 hn hr a tm k cs ht hq=>?_⟩;obtain⟨_,lb,lc,hr',hRl⟩:=hr;have hv:=Ee a.env a.mem.globR f;rw[hf]at hv;obtain⟨xs',d,z,B,v⟩:=Bpy hv;cases z;have hev:(Fr b tm ds (.code (.rangeFunc f ps as_ body)::k)).eval f = .func (.func g) #[] d.toArray:=by rw[ht.eval];exact v
      obtain⟨b1,c1,r1,i1,E,U,V,u4⟩:=a.mem.at hg0 (by simp);rw[hRl]at E;cases E;obtain⟨t,a1,a0,H,rfl,v1,v2,v3,v4,v5,v6,v7,X,YQ⟩:=Yi V;refine G.bind (Lw (s:=Instr.enterLoop b.fn tm ps as_ body b.round) (f:=fun lm=>(Frame.enter C.P g (Value.func (.yield lm.1) #[] #[]::d).toArray .normal,Fr b tm (lm.2++ds) (.inRangeFunc lm.1::k)::cs))
        (Q:=fun lm Z'=>lm.2=[]/\Z'=(lm.1,Res.obj (.loop {state:=.ready,pending:=none,fn:=b.fn,tmps:=tm,params:=ps,assign:=as_,body,defers:=t.defers}))::Z)
        (fun W lm W' es u=>Ahq hbk hev j p q u) (by rw[hr'];exact Anv U fun l=>⟨rfl,rfl⟩)
        (S:=fun fr' cs' Y' Z'=>Y'=Y/\∃l,fr'=Frame.enter C.P g (Value.func (.yield l) #[] #[]::d).toArray .normal/\cs'=Fr b tm ds (.inRangeFunc l::k)::cs/\Z'=(l,Res.obj (.loop {state:=.ready,pending:=none,fn:=b.fn,tmps:=tm,params:=ps,assign:=as_,body,defers:=t.defers}))::Z)
        (by
          rintro⟨l,mk⟩ Z' ⟨i,rfl⟩;simp only at i;subst i;exact .stop ⟨rfl,l,rfl,rfl,rfl⟩)) ?_
      rintro _ _ ZQ _ ⟨hρ,l,rfl,rfl,rfl⟩;replace hρ:=hρ.symm;subst hρ;have:=y b st'.m.outs f R e ds Y Z Z9 fn d t.defers H l tm k cs hbk hn ht a.env a.mem a.ds (by rw[YQ];exact X) B j p q hq;rw[x]at this;exact this
    · exact(Gm h).elim
theorem Wl(hF:FnsOk C F)(hx:Abb G F dx)(hgl:dx.gl=true->(∃S,G=goT C S)/\∀S,Abb (goT C S) F dx)(c:Code):∀{rd:Option Nat} {st:St} {ex:Ex} {st':St},(codeK C.P dx n c).run F rd st=Ha ex st'->Wk G n rd c st ex st':=by
 induction c with
 | skip =>
  intro rd st ex st' h b hb;cases ex with
  | normal=>cases h;exact⟨.refl _,fun _ R e ds Y Z Z9 _ _ hs=>Byd ⟨R,.refl,.refl,hs⟩⟩
  | exit id=>cases h
  | ret=>cases h
 | region id ops draw =>
  intro rd st ex st' h;have h':(regK C.P dx n ops.toList draw).run F rd st=Ha ex st':=h;have:=Byn (id:=id) hF hx hgl h';rw[Ads]at this;exact this
 | seq a b iha ihb =>
  intro rd st ex st' h;have h':(match (codeK C.P dx n a).run F rd st with | .n st=>(codeK C.P dx n b).run F rd st|y=>y)=Ha ex st':=h;split at h'
  ·rename_i st1 h1;exact Buf (iha (ex:=.normal) h1) (ihb h')
  ·rename_i hne;have hex:ex ≠ .normal:=fun e=>by subst e;exact hne _ h'
   intro fb hfb;obtain⟨k,i⟩:=iha h' fb hfb;exact⟨k,fun hs R e ds Y Z Z9 hn hr d=>Byc hex (i hs R e ds Y Z Z9 hn hr d)⟩
 | cond q a b iha ihb =>
  intro rd st ex st' h;have h':(match (rdK q).run st.e with | .b true=>(codeK C.P dx n a).run F rd st | .b false=>(codeK C.P dx n b).run F rd st|_=>.bad)=Ha ex st':=h;intro fb hfb;split at h'
  ·rename_i hq;obtain⟨k,i⟩:=iha h' fb hfb;refine⟨k,fun hs R e ds Y Z Z9 hn hr d=>?_⟩;have hv:=Ee d.env d.mem.globR q;rw[hq]at hv;exact Bpb (Anp hv) (fun _=>i hs R e ds Y Z Z9 hn hr d) (fun h=>by cases h)
  ·rename_i hq;obtain⟨k,i⟩:=ihb h' fb hfb;refine⟨k,fun hs R e ds Y Z Z9 hn hr d=>?_⟩;have hv:=Ee d.env d.mem.globR q;rw[hq]at hv;exact Bpb (Anp hv) (fun h=>by cases h) (fun _=>i hs R e ds Y Z Z9 hn hr d)
  ·exact(Gm h').elim
 | block id a iha =>
  intro rd st ex st' h;have h':(match (codeK C.P dx n a).run F rd st with | .x j st=>(match Nat.beq j id with|true=>.n st|false=>.x j st)|y=>y)=Ha ex st':=h;intro fb hfb;split at h'
  ·rename_i j st1 h1;split at h'
   ·rename_i hj;have hj:=lZ8 hj;subst hj;cases ex with
    | normal =>
     cases h';obtain⟨k,i⟩:=iha (ex:=.exit j) h1 fb hfb;exact⟨k,fun hs R e ds Y Z Z9 hn hr d=>Boy (i hs R e ds Y Z Z9 hn hr d)⟩
    | exit id=>cases h'
    | ret=>cases h'
   ·rename_i hj;have hj':j≠id:=fun e=>by subst e;simp at hj
    cases ex with
    | normal=>cases h'
    | exit id' =>
     cases h';obtain⟨k,i⟩:=iha (ex:=.exit j) h1 fb hfb;exact⟨k,fun hs R e ds Y Z Z9 hn hr d=>Bpa hj' (i hs R e ds Y Z Z9 hn hr d)⟩
    | ret=>cases h'
  ·rename_i hne;cases ex with
   | normal =>
    obtain⟨k,i⟩:=iha (ex:=.normal) h' fb hfb;exact⟨k,fun hs R e ds Y Z Z9 hn hr d=>Bty (i hs R e ds Y Z Z9 hn hr d)⟩
   | exit id'=>exact absurd h' (hne _ _)
   | ret =>
    obtain⟨k,i⟩:=iha (ex:=.ret) h' fb hfb;exact⟨k,fun hs R e ds Y Z Z9 hn hr d=>Boz (i hs R e ds Y Z Z9 hn hr d)⟩
 | loop a iha =>
  intro rd st ex st' h fb hfb;have h':xLoopR (codeK C.P dx n a).run F rd 1000000 st=Ha ex st':=h;obtain⟨_,hl⟩:=Axk (fun st ex st' h=>iha h) _ _ _ _ h';obtain⟨k,i⟩:=hl fb hfb;exact⟨k,fun hs R e ds Y Z Z9 hn hr d=>Byb (i hs R e ds Y Z Z9 hn hr d)⟩
 | label l =>
  intro rd st ex st' h b hb;cases ex with
  | normal=>cases h;exact⟨.refl _,fun _ R e ds Y Z Z9 _ _ hs=>Btz ⟨R,.refl,.refl,hs⟩⟩
  | exit id=>cases h
  | ret=>cases h
 | scope a iha =>
  intro rd st ex st' h fb hfb;have h':(codeK C.P dx n a).run F rd st=Ha ex st':=h;obtain⟨k,i⟩:=iha h' fb hfb;exact⟨k,fun hs R e ds Y Z Z9 hn hr d=>Bua (i hs R e ds Y Z Z9 hn hr d)⟩
 | exit id =>
  intro rd st ex st' h b hb;cases ex with
  | normal=>cases h
  | exit id=>cases h;exact⟨.refl _,fun _ R e ds Y Z Z9 _ _ hs=>Bya ⟨R,.refl,.refl,hs⟩⟩
  | ret=>cases h
 | ret =>
  intro rd st ex st' h b hb;cases ex with
  | normal=>cases h
  | exit id=>cases h
  | ret=>cases h;exact⟨.refl _,fun _ R e ds Y Z Z9 _ _ hs=>Cat ⟨R,.refl,.refl,hs⟩⟩
 | rangeFunc f ps as_ body _ _ =>
  intro rd st ex st' h;unfold codeK at h;split at h
  ·rename_i f1 hf1 hlt;have hrd:(rdK f).run=f1:=by rw[hf1]
   simp only at h;split at h
   ·rename_i g ys hfv;split at h
    ·rename_i hbd;exact Biv hF (by rw[hrd];exact hfv) hbd h
    ·exact(Gm h).elim
   ·exact(Gm h).elim
  ·exact(Gm h).elim
 | _=>intro rd st ex st' h;exact(Gm h).elim
end
end
section
open Go Go.Conc
section
variable{R:XR}{m:Mem}{Y:Ro}{Z Z9:Own}{L:List (Nat×Nat×Res)}{G:Own}
theorem MemR.kill2(h:MemR R m Y Z Z9 L G){k b i o o'}(hL:(k,b,Res.obj o)∈L)(hi:Z[i]?=some (b,.obj o)):MemX R (m.put k .dead) Y (Z.set i (b,.obj o')) Z9:=by
 obtain⟨A,B,rfl⟩:=Tx hL;have nd:=h.nd;simp only[Lo,Je]at nd;have hAB:∀p∈A++B,p.1≠k:=fun p hp e=>by
  rw[Aij]at nd;obtain⟨y,u,v⟩:=nd;rcases Ho.1 hp with hp|hp
  ·exact v p.1 (Rb (f:=Prod.fst) hp) k mC e
  ·exact(Tc.1 u).1 (e ▸ Rb (f:=Prod.fst) hp)
 have dim:∀{p},p∈A++B->p∈A++(k,b,Res.obj o)::B:=fun {p} hp=>(Ho.1 hp).elim (Pw _) fun hp=>Ol _ (lZ0 _ hp);refine⟨A++B,(b,.obj o')::G,?_,?_,fun p hp=>?_,fun j oj hj hd=>?_,fun j oj hj=>?_,fun p hp=>?_,h.lt,h.glob⟩
 ·have c:=h.perm;simp only[Lo,Je,Gv,Sz]at c ⊢;have w:=Amx (x':=(b,.obj o')) (c.trans Alp) hi;refine w.trans ?_;have x:=(Alp (a:=(b,Res.obj o')) (l₁:=A.map Prod.snd++B.map Prod.snd) (l₂:=G++Z9)).symm;simpa[Gv]using x
 ·rw[Lo];have:(A.map Prod.fst++B.map Prod.fst).Sublist (A.map Prod.fst++k::B.map Prod.fst):=List.Sublist.append_left (Awj ..) _;exact this.nodup nd
 ·obtain⟨d,o1,g,n,t⟩:=h.own p (dim hp);exact⟨d,o1,g,by rw[Nc,if_neg (hAB p hp)];exact n,t⟩
 ·rw[Nc]at hj;by_cases hjk:j=k
  ·rw[if_pos hjk]at hj;cases hj;exact absurd rfl hd
  ·rw[if_neg hjk]at hj;obtain⟨q,hq⟩:=h.all j oj hj hd;rcases Ho.1 hq with hq|hq
   ·exact⟨q,Pw _ hq⟩
   ·rcases lZ7.1 hq with e|hq
    ·exact absurd (Prod.mk.inj e).1 hjk
    ·exact⟨q,Ol _ hq⟩
 ·rw[Nc]at hj;by_cases hjk:j=k
  ·rw[if_pos hjk]at hj;cases hj
  ·rw[if_neg hjk]at hj;exact h.ro j oj hj
 ·rcases lZ7.1 hp with rfl|hp
  ·exact⟨o',rfl⟩
  ·exact h.gar p hp
theorem Azk:∀(args:List CV) (i:Nat) (e:Tr CV) (t:Nat) (v:CV),(xArgEnv args i e).get t=some v->e.get t=some v∨(i<=t/\args[t-i]?=some v)
 | [],i,e,t,v,h=>.inl h
 | a::args,i,e,t,v,h=>by
  rcases Azk args (i+1) (e.set i a) t v h with h1|⟨h1,h2⟩
  ·rw[Tr.get_set]at h1;by_cases ht:t=i
   ·rw[if_pos ht]at h1;refine .inr ⟨by omega,?_⟩;subst ht;rw[Alx];exact h1
   ·rw[if_neg ht]at h1;exact .inl h1
  ·refine .inr ⟨by omega,?_⟩;have:t-i=(t-(i+1))+1:=by omega
   rw[this,Xr];exact h2
theorem Bna{α}(t:Nat):(Tr.leaf:Tr α).get t=none:=rfl
theorem Acr{args args'}(h:VR R args args'):EnvR R (xArgEnv args 0 .leaf) (Pn args'):=fun t v ht=>by
 rcases Azk args 0 .leaf t v ht with h1|⟨_,h2⟩
 ·rw[Bna]at h1;cases h1
 ·obtain⟨v',a,b⟩:=h.at h2;unfold Pn;have:args'[t]?=some v':=a;rw[Wx,this];exact b
theorem Aua{P:Program}{ec:Tr CV}{e:Env}(he:EnvR R ec e)(hm:MemX R m Y Z Z9):∀(l:List ResultVar) (r:List CV),(resK P l).run ec m=some r->∃vs,VR R r vs/\Agf P Y Z e l vs
 | [],r,h=>by
  cases h;exact⟨[],.nil,trivial⟩
 | .tmp t::l,r,h=>by
  have h':(match (resK P l).run ec m with|some r=>some ((match ec.get t with|some v=>v|none=>.bad)::r)|none=>none)=some r:=h;split at h'
  ·rename_i r1 f;cases h';obtain⟨vs,b,d⟩:=Aua he hm l r1 f;exact⟨e t::vs,VR.cons_iff.2 ⟨Ee he hm.globR (.tmp t),b⟩,rfl,d⟩
  ·cases h'
 | .cell a t::l,r,h=>by
  have h':(match ec.get a with
   | some (.p k off)=>match m.row k with
    | some c=>match (partK P t).run (xDrp off c),(resK P l).run ec m with|some v,some r=>some (v::r)|_,_=>none
    | none=>none
   | _=>none)=some r:=h
  split at h'
  ·rename_i k off hg;split at h'
   ·rename_i c hc;split at h'
    ·rename_i v r1 hv hr1;cases h';obtain⟨vs,b,d⟩:=Aua he hm l r1 hr1;have n:(opK P (.load t (.tmp a))).run ec m = .rd v k:=by
      show loadM P t ((rdK (.tmp a)).run ec) m=_;have:(rdK (.tmp a)).run ec = .p k off:=by
       show (match ec.get a with|some v=>v|none=>.bad)=_;rw[hg]
      rw[this];simp only[loadM,hc,hv]
     obtain⟨w,hw,hwp⟩:=Bbt _ R ec e m v k he hm.globR n R m Y Z Z9 hm rfl rfl;refine⟨w::vs,VR.cons_iff.2 ⟨hw,b⟩,fun Q hQ=>?_,d⟩;have f:=hwp none 0 "" #[] none;have g:wpS P Y ((Instr.loadAt t (e a)).bind fun v=>Sem.pure (Next.value v)) Z (fun nx Z'=>nx = .value w/\Z'=Z):=f;rw[Ad]at g;obtain⟨bb,cc,_,hav⟩:=Azb (he a _ hg);show wpS P Y (do loadVar t (<-asAddr (e a))) Z Q;rw[hav]at g ⊢;have i:wpS P Y (loadVar t ⟨bb,off,none⟩) Z (fun a Z'=>Next.value a = .value w/\Z'=Z):=g;show wpS P Y (loadVar t ⟨bb,off,none⟩) Z Q;refine Eu ?_ _ _ i;rintro w' Z' ⟨i,j⟩;cases i;rw[j];exact hQ
    ·cases h'
   ·cases h'
  ·cases h'
theorem Avn{l m m2}(h:xDefersR l m=some m2):Kept m m2:=by
 induction l generalizing m with
 | nil=>cases h;exact .refl _
 | cons d l ih =>
  cases d with
  | mark k =>
   have h':(match m.M.get k with|some (.own .defd)=>xDefersR l (m.put k .dead)|_=>none)=some m2:=h;split at h'
   ·exact(LogOk.put _ _ _).kept.trans (ih h')
   ·cases h'
  | close k=>cases h
theorem Aks{C fn e K l m m2 ds Z}(h:xDefersR l m=some m2)(hd:DsR R l ds)(hm:MemX R m Y Z Z9)(hk:∀Z',MemX R m2 Y Z' Z9->wpS C.P Y (Hp fn e) Z' (fun v Z''=>K v Y Z'')):Aki C fn K e Y ds Z:=by
 induction hd generalizing m Z with
 | nil=>cases h;exact hk Z hm
 | @mark k b c l ds hR hd ih =>
  have h':(match m.M.get k with|some (.own .defd)=>xDefersR l (m.put k .dead)|_=>none)=some m2:=h;split at h'
  ·rename_i hg;obtain⟨L,G,hm'⟩:=hm;obtain⟨j,n,p,f,a,d,g,i⟩:=hm'.at hg (by simp);rw[hR]at a;cases a;cases g;exact⟨b,f,rfl,d,ih h' (hm'.kill2 i d)⟩
  ·cases h'
 | close hR hd ih=>cases h
end
section
variable{C:Ctx}{F:Fns}
theorem Blh{P g args m m' x}(h:(funK P g).run F args m = .v x m'):∃fn c ex st,P.funcs[g]?=some fn/\fn.body=some c/\args.length<=fn.ntmps/\(codeK P doX fn.ntmps c).run F none ⟨xArgEnv args 0 .leaf,m,[]⟩=Ha ex st/\(∀id,ex ≠ .exit id)/\xFin (resK P fn.results.toList).run st = .v x m':=by
 unfold funK at h;split at h
 ·rename_i fn hf;split at h
  ·rename_i c hc;have h':(match Nat.ble (xLen args) fn.ntmps with
    | true=>match (codeK P doX fn.ntmps c).run F none ⟨xArgEnv args 0 .leaf,m,[]⟩ with
     | .n st=>xFin (resK P fn.results.toList).run st
     | .r st=>xFin (resK P fn.results.toList).run st
     | _=>.bad
    | false=>RV.bad) = .v x m':=h
   split at h'
   ·rename_i hb;have a:=lZ6 hb;rw[Ig]at a;split at h'
    ·rename_i st hst;exact⟨fn,c,.normal,st,hf,hc,a,hst,by simp,h'⟩
    ·rename_i st hst;exact⟨fn,c,.ret,st,hf,hc,a,hst,by simp,h'⟩
    ·cases h'
   ·cases h'
  ·cases h
 ·cases h
theorem Baq(hF:FnsOk C F)(hx:∀S,Abb (goT C S) F doX){g args m m' x}(h:(funK C.P g).run F args m = .v x m'):Kept m m'/\∀R args' Y Z Z9,NoRecv Z9->VR R args args'->MemX R m Y Z Z9 ->
  CallsH C g args'.toArray Y Z (fun v Y' Z'=>∃R',XR.le R R'/\Ro.le Y Y'/\V1 R' x v/\MemX R' m' Y' Z' Z9):=by
 obtain⟨fn,c,ex,st,hf,hc,p,u,hex,a⟩:=Blh h;have b:=fun S=>Wl hF (hx S) (fun _=>⟨⟨S,rfl⟩,hx⟩) c u;unfold xFin at a;split at a
 ·rename_i m2 hd;have k:=(b (fun _ _ _ _=>True) ⟨g,.normal,none⟩ (by simp)).1;have n:=Avn hd;have key:∀r,(resK C.P fn.results.toList).run st.e m2=some r->(∀R vs,VR R r vs->V1 R x (Adi vs))->m2=m'->Kept m m'/\∀R args' Y Z Z9,NoRecv Z9->VR R args args'->MemX R m Y Z Z9 ->
    CallsH C g args'.toArray Y Z (fun v Y' Z'=>∃R',XR.le R R'/\Ro.le Y Y'/\V1 R' x v/\MemX R' m' Y' Z' Z9):=by
   intro r hr hxv q;subst q;refine⟨k.trans n,fun R args' Y Z Z9 hn hv hm=>?_⟩;refine Oy hf hc rfl (by rw[<-hv.len];exact p) ?_;refine Adw (Reach.wp (S:=fun _ _ _ _=>True) (o:=m.outs) (o':=st.m.outs) (ex:=ex) (Q:=fun ex' e' ds' Y' Z'=>ex'=ex/\∃R',XR.le R R'/\Ro.le Y Y'/\Sim R' st e' ds' Y' Z' Z9) fun S =>
    ((b S ⟨g,.normal,none⟩ (by simp)).2 trivial R (Pn args') [] Y Z Z9 hn ⟨trivial,rfl⟩ ⟨Acr hv,hm,.nil⟩).mono fun e ds Y Z h=>⟨rfl,h⟩) ?_
   rintro ex' e' ds' Y' Z' ⟨rfl,R',z,B,hs⟩;refine⟨hex,Aks hd hs.ds hs.mem fun Z'' d=>?_⟩;obtain⟨vs,i,j⟩:=Aua hs.env d _ r hr;exact Vf (by simp) j ⟨R',z,B,hxv R' vs i,d⟩
  split at a
  ·rename_i v hr;cases a;refine key _ hr (fun R vs hvs=>?_) rfl
   match vs,hvs with
   | [],hvs=>cases hvs
   | [w],hvs=>exact hvs
   | w::w'::vs,hvs=>exact absurd hvs.len (by simp)
  ·rename_i l hne hr;cases a;refine key _ hr (fun R vs hvs=>?_) rfl;have f:Adi vs = .tuple vs.toArray:=by
    unfold Adi;split
    ·rename_i v;exfalso;have:=hvs.len
     match l,this,hne with
     | [y],_,hne=>exact hne y rfl
    ·rfl
   rw[f];exact .t hvs .nil
  ·cases a
 ·cases a
end
end
section
open Go Go.Conc
def Avc:Option Cell->Option CO
 | some (.own o)=>some o
 | some (.ro o)=>some o
 | none=>none
theorem Bew(m:Mem)(k:Nat):m.obj k=Avc (m.M.get k):=by
 unfold Mem.obj Avc;cases m.M.get k with
 | none=>rfl
 | some c=>cases c<;>rfl
theorem Ach{t:Tr Cell}{k o}(h:t.get k=some (.own o))(j:Nat):Avc ((t.set k (.ro o)).get j)=Avc (t.get j):=by
 rw[Tr.get_set];by_cases hj:j=k
 ·subst hj;rw[if_pos rfl,h];rfl
 ·rw[if_neg hj]
theorem Tz:∀(n:Nat) (l:List Nat) (t:Tr Cell) (j:Nat),Avc ((xShare n l t).get j)=Avc (t.get j)
 | 0,l,t,j=>rfl
 | n+1,[],t,j=>rfl
 | n+1,k::l,t,j=>by
  have e:xShare (n+1) (k::l) t=(match t.get k with
   | some (.own (.cells c))=>xShare n (xApp (xKeysL c) l) (t.set k (.ro (.cells c)))
   | some (.own (.grow z c))=>xShare n (xApp (xKeysL c) l) (t.set k (.ro (.grow z c)))
   | some (.own (.map es))=>xShare n (xApp (xKeysO (.map es)) l) (t.set k (.ro (.map es)))
   | _=>xShare n l t):=rfl
  rw[e];split
  ·rename_i c hk;rw[Tz,Ach hk]
  ·rename_i z c hk;rw[Tz,Ach hk]
  ·rename_i es hk;rw[Tz,Ach hk]
  ·exact Tz n l t j
theorem Aag:∀(n:Nat) (l:List Nat) (t:Tr Cell) (j:Nat) (o:CO),(xShare n l t).get j=some (.own o)->t.get j=some (.own o)
 | 0,l,t,j,o,h=>h
 | n+1,[],t,j,o,h=>h
 | n+1,k::l,t,j,o,h=>by
  have e:xShare (n+1) (k::l) t=(match t.get k with
   | some (.own (.cells c))=>xShare n (xApp (xKeysL c) l) (t.set k (.ro (.cells c)))
   | some (.own (.grow z c))=>xShare n (xApp (xKeysL c) l) (t.set k (.ro (.grow z c)))
   | some (.own (.map es))=>xShare n (xApp (xKeysO (.map es)) l) (t.set k (.ro (.map es)))
   | _=>xShare n l t):=rfl
  rw[e]at h;have step:∀{l':List Nat} {o':CO},(xShare n l' (t.set k (.ro o'))).get j=some (.own o)->t.get j=some (.own o):=fun {l' o'} h=>by
   have:=Aag n _ _ j o h;rw[Tr.get_set]at this;by_cases hj:j=k
   ·rw[if_pos hj]at this;cases this
   ·rw[if_neg hj]at this;exact this
  split at h
  ·exact step h
  ·exact step h
  ·exact step h
  ·exact Aag n l t j o h
section
variable{R:XR}{m:Mem}{Y:Ro}{Z Z9:Own}
def Mem.withM(m:Mem)(t:Tr Cell):Mem:=⟨t,m.nx,m.log,m.ln,m.outs⟩
theorem Aue{C S fr cs k o}(hm:MemX R m Y Z Z9)(hk:m.M.get k=some (.own o))(ho:∀c r,ObjR R c o r->∃ob,r = .obj ob)(hd:o ≠ .dead)(h:∀Y' Z',Ro.le Y Y'->(∀p∈Z',p∈Z)->MemX R (m.withM (m.M.set k (.ro o))) Y' Z' Z9->GoesH C S fr cs Y' Z'):GoesH C S fr cs Y Z:=by
 obtain⟨L,G,hm⟩:=hm;obtain⟨b,c,r,i,x,F,t,y⟩:=hm.at hk hd;obtain⟨ob,rfl⟩:=ho c r t;obtain⟨A,B,rfl⟩:=Tx y;have nd:=hm.nd;simp only[Lo,Je]at nd;have hAB:∀p∈A++B,p.1≠k:=fun p hp e=>by
  rw[Aij]at nd;obtain⟨H,z,D⟩:=nd;rcases Ho.1 hp with hp|hp
  ·exact D p.1 (Rb (f:=Prod.fst) hp) k mC e
  ·exact(Tc.1 z).1 (e ▸ Rb (f:=Prod.fst) hp)
 have dim:∀{p},p∈A++B->p∈A++(k,b,Res.obj ob)::B:=fun {p} hp=>(Ho.1 hp).elim (Pw _) fun hp=>Ol _ (lZ0 _ hp);have u:=hm.perm;have v:Z.Perm ((b,Res.obj ob)::((A++B).map Prod.snd++(G++Z9))):=by
  simp only[Lo,Je,Gv,Sz]at u ⊢;exact u.trans Alp
 refine .ghost (Cfa v) (Rv fun Y' hle hb=>h Y' _ hle (fun p hp=>v.mem_iff.2 (lZ0 _ hp)) ?_);have gt:∀j,(m.withM (m.M.set k (.ro o))).M.get j=if j=k then some (.ro o) else m.M.get j:=fun j=>Tr.get_set ..
 refine⟨A++B,G,.refl _,?_,fun p hp=>?_,fun j oj hj hdj=>?_,fun j oj hj=>?_,hm.gar,hm.lt,hm.glob⟩
 ·rw[Lo];have:(A.map Prod.fst++B.map Prod.fst).Sublist (A.map Prod.fst++k::B.map Prod.fst):=List.Sublist.append_left (Awj ..) _;exact this.nodup nd
 ·obtain⟨a,o1,d,g,n⟩:=hm.own p (dim hp);exact⟨a,o1,d,by rw[gt,if_neg (hAB p hp)];exact g,n⟩
 ·rw[gt]at hj;by_cases hjk:j=k
  ·rw[if_pos hjk]at hj;cases hj
  ·rw[if_neg hjk]at hj;obtain⟨q,hq⟩:=hm.all j oj hj hdj;rcases Ho.1 hq with hq|hq
   ·exact⟨q,Pw _ hq⟩
   ·rcases lZ7.1 hq with e|hq
    ·exact absurd (Prod.mk.inj e).1 hjk
    ·exact⟨q,Ol _ hq⟩
 ·rw[gt]at hj;by_cases hjk:j=k
  ·rw[if_pos hjk]at hj;cases hj;subst hjk;exact⟨b,c,ob,x,hb,.of t⟩
  ·rw[if_neg hjk]at hj;obtain⟨w,a,E,d,g,n⟩:=hm.ro j oj hj;exact⟨w,a,E,d,hle _ _ g,n⟩
theorem Pc{C:Ctx}{S:Cy}{fr:Frame}{cs:List Frame}:∀(n:Nat) (l:List Nat) (m:Mem) (Y:Ro) (Z:Own),MemX R m Y Z Z9 ->
  (∀Y' Z',Ro.le Y Y'->(∀p∈Z',p∈Z)->MemX R (m.withM (xShare n l m.M)) Y' Z' Z9->GoesH C S fr cs Y' Z')->GoesH C S fr cs Y Z
 | 0,l,m,Y,Z,hm,h=>h Y Z .refl (fun p hp=>hp) hm
 | n+1,[],m,Y,Z,hm,h=>h Y Z .refl (fun p hp=>hp) hm
 | n+1,k::l,m,Y,Z,hm,h=>by
  have e:xShare (n+1) (k::l) m.M=(match m.M.get k with
   | some (.own (.cells c))=>xShare n (xApp (xKeysL c) l) (m.M.set k (.ro (.cells c)))
   | some (.own (.grow z c))=>xShare n (xApp (xKeysL c) l) (m.M.set k (.ro (.grow z c)))
   | some (.own (.map es))=>xShare n (xApp (xKeysO (.map es)) l) (m.M.set k (.ro (.map es)))
   | _=>xShare n l m.M):=rfl
  rw[e]at h;split at h
  ·rename_i c hk;refine Aue hm hk (fun _ _ ho=>by cases ho;exact⟨_,rfl⟩) (by simp) fun Y' Z' a b d=>?_;exact Pc n _ _ Y' Z' d fun Y'' Z'' f g i=>h Y'' Z'' (a.trans f) (fun p hp=>b p (g p hp)) i
  ·rename_i z c hk;refine Aue hm hk (fun _ _ ho=>by cases ho;exact⟨_,rfl⟩) (by simp) fun Y' Z' a b d=>?_;exact Pc n _ _ Y' Z' d fun Y'' Z'' f g i=>h Y'' Z'' (a.trans f) (fun p hp=>b p (g p hp)) i
  ·rename_i es hk;refine Aue hm hk (fun _ _ ho=>by cases ho;exact⟨_,rfl⟩) (by simp) fun Y' Z' a b d=>?_;exact Pc n _ _ Y' Z' d fun Y'' Z'' f g i=>h Y'' Z'' (a.trans f) (fun p hp=>b p (g p hp)) i
  ·exact Pc n l m Y Z hm h
theorem Zp{α}(k:Nat):(Tr.leaf:Tr α).get k=none:=rfl
theorem Xa:∀(t:Tr Cell) (k:Nat),(xOnlyRo t).get k=xRoOf (t.get k)
 | .leaf,k=>rfl
 | .node v l r,k=>by
  show (Tr.node (xRoOf v) (xOnlyRo l) (xOnlyRo r)).get k=_;rw[Tr.get_node,Tr.get_node];split
  ·rfl
  ·split
   ·exact Xa r _
   ·exact Xa l _
theorem Ady:∀(t:Tr Cell) (k:Nat),xNoRcv t=true->xIsRcv (t.get k)=false
 | .leaf,k,_=>rfl
 | .node v l r,k,h=>by
  have h':(match xIsRcv v with|true=>false|false=>match xNoRcv l with|true=>xNoRcv r|false=>false)=true:=h;rw[Tr.get_node];split at h'
  ·cases h'
  ·rename_i hv;split at h'
   ·rename_i hl;split
    ·exact hv
    ·split
     ·exact Ady r _ h'
     ·exact Ady l _ hl
   ·cases h'
theorem Aqt(t:Tr Cell)(k:Nat)(vs:List CV)(h:xNoRcv t=true):t.get k≠some (.own (.rcv vs)):=fun e=>by
 have:=Ady t k h;rw[e]at this;cases this
theorem Aho(t:Tr Cell)(k n:Nat)(ms:List Ub)(h:xNoRcv t=true):t.get k≠some (.own (.crowd n ms)):=fun e=>by
 have:=Ady t k h;rw[e]at this;cases this
theorem MemX.child(h:MemX R m Y Z Z9):MemX R ⟨xOnlyRo m.M,m.nx,[],0,[]⟩ Y [] []:=by
 obtain⟨L,G,h⟩:=h;have own:∀k o,xRoOf (m.M.get k)≠some (.own o):=fun k o e=>by
  unfold xRoOf at e;split at e<;>cases e
 refine⟨[],[],.refl _,by simp,fun p hp=>(by cases hp),fun k o hk _=>?_,fun k o hk=>?_,fun p hp=>(by cases hp),h.lt,h.glob⟩
 ·have hk':(xOnlyRo m.M).get k=some (.own o):=hk;rw[Xa]at hk';exact absurd hk' (own k o)
 ·have hk':(xOnlyRo m.M).get k=some (.ro o):=hk;rw[Xa]at hk';unfold xRoOf at hk';split at hk'
  ·rename_i o' hg;cases hk';exact h.ro k _ hg
  ·cases hk'
theorem MemX.noRcv(h:MemX R m Y Z Z9)(hn:NoRecv Z9)(hr:xNoRcv m.M=true):NoRecv Z:=by
 obtain⟨L,G,h⟩:=h;refine⟨fun c vs hm=>?_,fun c k Rs hm=>?_⟩
 ·rcases Ho.1 (h.perm.mem_iff.1 hm) with h1|h1
  ·obtain⟨p,hp,e⟩:=Iq.1 h1;obtain⟨d,o1,f,b,a⟩:=h.own p hp;rw[e]at a;cases a with
   | rcv hv=>exact(Aqt _ _ _ hr b).elim
  ·rcases Ho.1 h1 with h1|h1
   ·obtain⟨o,ho⟩:=h.gar _ h1;cases ho
   ·exact hn.recv c vs h1
 ·rcases Ho.1 (h.perm.mem_iff.1 hm) with h1|h1
  ·obtain⟨p,hp,e⟩:=Iq.1 h1;obtain⟨d,o1,f,b,a⟩:=h.own p hp;rw[e]at a;cases a with
   | crowd hv=>exact(Aho _ _ _ _ hr b).elim
  ·rcases Ho.1 h1 with h1|h1
   ·obtain⟨o,ho⟩:=h.gar _ h1;cases ho
   ·exact hn.crowd c k Rs h1
theorem Bbu{x}:∀{i:Nat} {Z τ:Own},Z.Perm (x::τ)->Z[i]?=some x->(Z.eraseIdx i).Perm τ:=fun {i Z τ} h hi=>by
 have b:Z.Perm (x::Z.eraseIdx i):=by
  have hlt:=(lZ4.1 hi).1;clear h;induction Z generalizing i with
  | nil=>cases hlt
  | cons a Z ih =>
   cases i with
   | zero=>cases hi;exact .refl _
   | succ i =>
    rw[Xr]at hi;exact((ih hi (by simpa using hlt)).cons a).trans (.swap ..)
 exact(b.symm.trans h).cons_inv
theorem MemX.gone(h:MemX R m Y Z Z9){k o}(hk:m.M.get k=some (.own o))(hd:o ≠ .dead):∃b c r i,R k=some (b,c)/\Z[i]?=some (b,r)/\ObjR R c o r/\MemX R (m.put k .dead) Y (Z.eraseIdx i) Z9:=by
 obtain⟨L,G,h⟩:=h;obtain⟨b,c,r,i,v,a,w,x⟩:=h.at hk hd;refine⟨b,c,r,i,v,a,w,?_⟩;obtain⟨A,B,rfl⟩:=Tx x;have nd:=h.nd;simp only[Lo,Je]at nd;have hAB:∀p∈A++B,p.1≠k:=fun p hp e=>by
  rw[Aij]at nd;obtain⟨C,y,z⟩:=nd;rcases Ho.1 hp with hp|hp
  ·exact z p.1 (Rb (f:=Prod.fst) hp) k mC e
  ·exact(Tc.1 y).1 (e ▸ Rb (f:=Prod.fst) hp)
 have dim:∀{p},p∈A++B->p∈A++(k,b,r)::B:=fun {p} hp=>(Ho.1 hp).elim (Pw _) fun hp=>Ol _ (lZ0 _ hp);refine⟨A++B,G,?_,?_,fun p hp=>?_,fun j oj hj hd=>?_,fun j oj hj=>?_,h.gar,h.lt,h.glob⟩
 ·have d:=h.perm;simp only[Lo,Je,Gv,Sz]at d ⊢;exact Bbu (d.trans Alp) a
 ·rw[Lo];have:(A.map Prod.fst++B.map Prod.fst).Sublist (A.map Prod.fst++k::B.map Prod.fst):=List.Sublist.append_left (Awj ..) _;exact this.nodup nd
 ·obtain⟨g,o1,n,t,u⟩:=h.own p (dim hp);exact⟨g,o1,n,by rw[Nc,if_neg (hAB p hp)];exact t,u⟩
 ·rw[Nc]at hj;by_cases hjk:j=k
  ·rw[if_pos hjk]at hj;cases hj;exact absurd rfl hd
  ·rw[if_neg hjk]at hj;obtain⟨q,hq⟩:=h.all j oj hj hd;rcases Ho.1 hq with hq|hq
   ·exact⟨q,Pw _ hq⟩
   ·rcases lZ7.1 hq with e|hq
    ·exact absurd (Prod.mk.inj e).1 hjk
    ·exact⟨q,Ol _ hq⟩
 ·rw[Nc]at hj;by_cases hjk:j=k
  ·rw[if_pos hjk]at hj;cases hj
  ·rw[if_neg hjk]at hj;exact h.ro j oj hj
end
end
section
open Go Go.Conc
section
variable{C:Ctx}{F:Fns}{S:Cy}
theorem Bor(hF:FnsOk C F){l₀:List Oper}:∀(r:List Oper) (st st':St),(preK C.P l₀ r).run F st=some st'->Kept st.m st'.m /\
  ∀b n R e ds Y Z Z9 pre suf tm k cs,Fu n l₀.toArray=true->b.kind ≠ .early->NoRecv Z9->Sim R st e ds Y Z Z9->l₀=pre++(r++suf)->EnvOf n tm e ->
   (∀tm' e' ds' Y' Z' R',EnvOf n tm' e'->XR.le R R'->Ro.le Y Y'->Sim R' st' e' ds' Y' Z' Z9->GoesH C S (Fr b tm' ds' (.inRegion l₀.toArray (List.range' (pre.length+r.length) suf.length)::k)) cs Y' Z') ->
   GoesH C S (Fr b tm ds (.inRegion l₀.toArray (List.range' pre.length (r.length+suf.length))::k)) cs Y Z
 | [],st,st',h=>by
  have h':some st=some st':=h;cases h';refine⟨.refl _,fun b n R e ds Y Z Z9 pre suf tm k cs hsl hk hn hs hl ht hq=>?_⟩;have:=hq tm e ds Y Z R ht .refl .refl hs;simpa using this
 | o::r,st,st',h=>by
  have h':(match (gokK l₀ o).run st.e with
   | false=>none
   | true=>match (guardK l₀ o).run st.e with
    | false=>(preK C.P l₀ r).run F ⟨(dstK o.dst).run st.e .undef,st.m,st.ds⟩
    | true=>match doOR F st ((opK C.P o.op).run st.e st.m) with
     | .v x m ds=>(preK C.P l₀ r).run F ⟨(dstK o.dst).run st.e x,m,ds⟩
     | .bad=>none)=some st':=h
  have key:∀(x:CV) (c:Mem) (a:List CD),(gokK l₀ o).run st.e=true->UqOk C l₀ o st x c a->(preK C.P l₀ r).run F ⟨(dstK o.dst).run st.e x,c,a⟩=some st'->Kept st.m st'.m /\
    ∀b n R e ds Y Z Z9 pre suf tm k cs,Fu n l₀.toArray=true->b.kind ≠ .early->NoRecv Z9->Sim R st e ds Y Z Z9->l₀=pre++(o::r++suf)->EnvOf n tm e ->
     (∀tm' e' ds' Y' Z' R',EnvOf n tm' e'->XR.le R R'->Ro.le Y Y'->Sim R' st' e' ds' Y' Z' Z9->GoesH C S (Fr b tm' ds' (.inRegion l₀.toArray (List.range' (pre.length+(o::r).length) suf.length)::k)) cs Y' Z') ->
     GoesH C S (Fr b tm ds (.inRegion l₀.toArray (List.range' pre.length ((o::r).length+suf.length))::k)) cs Y Z:=by
   intro x c a hgk hu hr;obtain⟨y,ih⟩:=Bor hF r _ _ hr;refine⟨hu.kept.1.trans y,fun b n R e ds Y Z Z9 pre suf tm k cs hsl hk hn hs hl ht hq=>?_⟩;have hi:l₀[pre.length]?=some o:=by rw[hl];simp
   have hrg:List.range' pre.length ((o::r).length+suf.length)=pre.length::List.range' (pre.length+1) (r.length+suf.length):=by
    rw[lZ9,show r.length+1+suf.length=(r.length+suf.length)+1 by omega,Abo]
   rw[hrg];refine(Bfa hsl hk (Bfo (b:=b) hu hi hgk hn hs) ht).bind ?_;rintro _ cs' Y' Z' ⟨rfl,tm',e',ds',u,⟨rfl,R',v,d,z,rfl,B,D⟩,rfl⟩;have w:Sim R' ⟨(dstK o.dst).run st.e x,c,a⟩ (Ja e o.dst v) ds' Y' Z' Z9:=⟨Ob (hs.env.mono d) B,D,by
    rw[hu.kept.2.2];exact hs.ds.mono d⟩
   have:=ih b n R' _ ds' Y' Z' Z9 (pre++[o]) suf tm' k cs' hsl hk hn w (by rw[hl];simp) u fun E i g G H f j p q t=>by
    have:=hq E i g G H f j (d.trans p) (z.trans q) t;rw[lZ3,Vy];rw[lZ9]at this;rw[show pre.length+1+r.length=pre.length+(r.length+1) by omega];exact this
   rw[lZ3,Vy]at this;exact this
  split at h'
  ·cases h'
  ·rename_i hgk;split at h'
   ·rename_i hg;exact key _ _ _ hgk (.inl ⟨hg,rfl,rfl,rfl⟩) h'
   ·rename_i hg;split at h'
    ·rename_i x m ds hov;exact key _ _ _ hgk (.inr ⟨hg,Zk hF hov⟩) h'
    ·cases h'
theorem Bul{n:Nat}{b:FB}(hb:b.kind ≠ .early)(hr:b.round=none)(hcode:∀c st ex st',(codeK C.P doX n c).run F none st=Ha ex st'->Wk (goT C S) n none c st ex st'):∀(c c':Code) (i:Nat) (l:List Oper),xTail c=some (c',i,l)->∀st st1,(codeK C.P doX n c').run F none st = .n st1 ->
  ∀R e ds Y Z Z9 tm k cs,NoRecv Z9->Sim R st e ds Y Z Z9->EnvOf n tm e ->
   (∀tm' e' ds' Y' Z' R',EnvOf n tm' e'->XR.le R R'->Ro.le Y Y'->Sim R' st1 e' ds' Y' Z' Z9->GoesH C S (Fr b tm' ds' (.code (.region i l.toArray false)::k)) cs Y' Z') ->
   GoesH C S (Fr b tm ds (.code c::k)) cs Y Z:=by
 intro c;induction c with
 | seq x y _ ihy =>
  intro c' i l h st st1 f R e ds Y Z Z9 tm k cs hn hs ht hq;have a:(match xTail y with|some (c,i,l)=>some (Code.seq x c,i,l)|none=>none)=some (c',i,l):=h;cases hy:xTail y with
  | none=>rw[hy]at a;cases a
  | some q =>
   obtain⟨cy,iy,ly⟩:=q;rw[hy]at a;cases a;have g:(match (codeK C.P doX n x).run F none st with | .n st=>(codeK C.P doX n cy).run F none st|z=>z) = .n st1:=f;split at g
   ·rename_i st2 h2;refine Eh (fr':=Fr b tm ds (.code x :: .code y::k)) (cs':=cs) (fun W=>by simp[Conc.G,stepG,stepG.exec,Fr]) ?_;refine((hcode x st .normal st2 h2 b hb).2 trivial R e ds Y Z Z9 hn ⟨trivial,hr⟩ hs) tm (.code y::k) cs ht fun tm' e' ds' Y' Z' L d ⟨R',D,E,H⟩ B=>?_;cases B;exact ihy cy _ _ hy st2 st1 g R' e' ds' Y' Z' Z9 tm' k cs hn H d fun I p m J K j t u v w=>hq I p m J K j t (D.trans u) (E.trans v) w
   ·rename_i hne;exact absurd g (hne _)
 | region id ops draw =>
  intro c' i l h st st1 f R e ds Y Z Z9 tm k cs hn hs ht hq;cases draw with
  | true=>cases h
  | false =>
   have a:some (Code.skip,id,ops.toList)=some (c',i,l):=h;cases a;have d:Go.Proofs.YtfeahfjambednaaGreatDoor.R.n st = .n st1:=f;cases d;have:=hq tm e ds Y Z R ht .refl .refl hs;rw[Ads]at this;exact this
 | _=>intro c' i l h;cases h
end
def Bjq(M:Tr Cell)(x:Nat×Option Nat×List CV):Prop:=M.get x.1=some (.ro (match x.2.1 with|none=>.cells x.2.2|some z=>.grow z x.2.2))
theorem Aei(lo:Nat)(M:Tr Cell):∀(n:Nat) (l:List Nat) (a:List (Nat×Option Nat×List CV)),(∀x∈a,Bjq M x)->∀x∈xRows lo M n l a,Bjq M x
 | 0,l,a,h,x,hx=>h x hx
 | n+1,[],a,h,x,hx=>h x hx
 | n+1,k::l,a,h,x,hx=>by
  have e:xRows lo M (n+1) (k::l) a=(match Nat.ble lo k,xHasK k a with
   | true,false=>match M.get k with
    | some (.ro (.cells c))=>xRows lo M n (xApp (xKeysL c) l) ((k,none,c)::a)
    | some (.ro (.grow z c))=>xRows lo M n (xApp (xKeysL c) l) ((k,some z,c)::a)
    | _=>xRows lo M n l a
   | _,_=>xRows lo M n l a):=rfl
  rw[e]at hx;split at hx
  ·split at hx
   ·rename_i c hc;exact Aei lo M n _ _ (fun y hy=>(lZ7.1 hy).elim (fun e=>by subst e;exact hc) (h y)) x hx
   ·rename_i z c hc;exact Aei lo M n _ _ (fun y hy=>(lZ7.1 hy).elim (fun e=>by subst e;exact hc) (h y)) x hx
   ·exact Aei lo M n _ _ h x hx
  ·exact Aei lo M n _ _ h x hx
theorem Bue{R:XR}{m:Mem}{Y:Ro}{Z Z9:Own}(hm:MemX R m Y Z Z9){x:Nat×Option Nat×List CV}(h:Bjq m.M x):∃b c y,R x.1=some (b,c)/\Y b=some y/\Bzp R c x.2.1 x.2.2 y:=by
 obtain⟨L,G,hm⟩:=hm;obtain⟨b,c,y,e,g,f,d⟩:=hm.ro _ _ h;refine⟨b,c,y,e,g,?_⟩;obtain⟨k,z,l⟩:=x;cases y with
 | cells cs t f' =>
  cases z with
  | none =>
   have a:ObjR R c (.cells l) (.obj (.cells cs t f)):=d;generalize hr:Res.obj (.cells cs t f)=r at a;cases a with
   | @cells _ l' t1 fz g1 g2=>cases hr;exact⟨l',t,f',rfl,g1⟩
  | some z =>
   have a:ObjR R c (.grow z l) (.obj (.cells cs t f)):=d;generalize hr:Res.obj (.cells cs t f)=r at a;cases a with
   | @grow _ _ l' rest t1 fz g1 g2 g3 g4=>cases hr;exact⟨l',rest,t,f',rfl,g1,g2,g3⟩
 | _ =>
  exfalso;cases z with
  | none=>cases d
  | some z=>cases d
section
variable{P:Program}{c:Nat}{R:Value->Ro->Prop}{Y:Ro}{Z:Own}{fr fr':Frame}{cs cs':List Frame}
theorem Bnq(h:∀W,stepG P false (Conc.G fr cs) W = .go (Conc.G fr' cs') W #[])(hk:MsgI P c R fr' cs' Y Z):MsgI P c R fr cs Y Z :=
 MsgI.of_goes (Eh (C:=Wn P) h (.stop (S:=fun a b c d=>a=fr'/\b=cs'/\c=Y/\d=Z) ⟨rfl,rfl,rfl,rfl⟩)) (by rintro _ _ _ _ ⟨rfl,rfl,rfl,rfl⟩;exact hk)
theorem Awf{f:FuncId}{fn:Func}{args fs:Array Value}(hf:P.funcs[f]?=some fn)(hn:(fn.name == "runtime.NumGoroutine")=false)(hb:fn.body.isNone=false)(W:World) :
  (invoke (.fn (.func f) fs) args).runT P W #[]=(.ok (.enter f (args++fs)) W,#[]):=by show (callFunc f (args++fs)).runT P W #[]=_;show (program.bind _:Sem Next).runT P W #[]=_;rw[Sem.runT_bind'];show Sem.runT P (match P.funcs[f]? with|none=>_|some fn=>_) W #[]=_;rw[hf];simp only[hn,hb];rfl
theorem Bia{f:FuncId}{fn:Func}{args fs:Array Value}(hf:P.funcs[f]?=some fn)(hn:(fn.name == "runtime.NumGoroutine")=false)(hb:fn.body.isNone=false)
  (h:MsgI P c R (Frame.enter P f (args++fs) .deferred) [Gf P] Y []):MsgI P c R (Gg P {target:=.fn (.func f) fs,args:=args}) [] Y []:=by refine Bnq (fun W=>?_) h;have hr:=Awf (args:=args) (fs:=fs) hf hn hb W;simp[Conc.G,stepG,Gg,unwind,callDeferred,-Sem.runT_eq,hr,GStep.after,seen,Gf]
theorem leaves{b:FB}{tm:Array Value}{ops:Array Oper}{fn:Func}(hf:P.funcs[b.fn]?=some fn)(hk:b.kind = .deferred)(hro:b.round=none)(hr:fn.results = #[]):QuitsIn P 5 (Conc.G (Fr b tm [] [.inRegion ops []]) [Gf P]):=by
 refine .inr ⟨rfl,Conc.G (Fr b tm [] []) [Gf P],fun w=>by simp[Conc.G,stepG,stepG.exec,Fr],?_⟩;refine .inr ⟨rfl,Conc.G {Fr b tm [] [] with mode:=.returning} [Gf P],fun w=>by simp[Conc.G,stepG,stepG.exec,Fr,hro],?_⟩;refine .inr ⟨rfl,Conc.G (Gf P) [],fun w=>?_,.inr ⟨rfl,{Conc.G (Gf P) [] with status:=.finished},fun w=>?_,.inl (rfl:GoStatus.finished=GoStatus.finished)⟩⟩
 ·have hrs:(results fn tm).runT P w #[]=(.ok (.tuple #[]) w,#[]):=by
   unfold results;rw[hr,Bbg];rfl
  simp[Conc.G,stepG,Fr,unwind,hf,-Sem.runT_eq,hrs,doReturn,hk,GStep.after,Gf,goexitEntry,seen]
 ·have hc:Frame.catches P (Gf P)=false:=by
   unfold Frame.catches Gf;cases P.funcs[P.funcs.size]?<;>rfl
  simp only[Gf,goexitEntry]at hc;simp[Conc.G,stepG,Gf,unwind,goexitEntry,hc]
end
theorem Bnp{P:Program}{g:Nat}{F:Fns}{args:List CV}{m m1:Mem}{k:Nat}{x:CV}(h:(msgK P g).run F args m=some (k,x,m1)) :
  ∃fn cd c' i l so a y st st1,P.funcs[g]?=some fn/\(fn.name == "runtime.NumGoroutine")=false/\fn.body.isNone=false/\fn.body=some cd/\fn.results = #[]/\args.length<=fn.ntmps/\xTail cd=some (c',i,l)/\l.getLast?=some so/\Fu fn.ntmps l.toArray=true /\
   (∃dd ty pos af,so=⟨dd,.send a y,ty,pos,af,none⟩)/\(codeK P doX fn.ntmps c').run F none ⟨xArgEnv args 0 .leaf,m,[]⟩ = .n st/\(preK P l l.dropLast).run F st=some st1/\st1.ds=[]/\(rdK a).run st1.e = .c k/\(rdK y).run st1.e=x/\st1.m=m1:=by
 unfold msgK at h;split at h
 ·rename_i fn hf hb;obtain⟨fn',hf',hn,hbn⟩:=Ww hb;rw[hf]at hf';cases hf';split at h
  ·rename_i cd hc hr;have d:fn.results = #[]:=by apply Array.ext';simpa using hr
   split at h
   ·rename_i c' i l ht;split at h
    ·rename_i so hl hsl;split at h
     ·rename_i a y hso;have h':(match Nat.ble (xLen args) fn.ntmps with
       | true=>match (codeK P doX fn.ntmps c').run F none ⟨xArgEnv args 0 .leaf,m,[]⟩ with
        | .n st=>match (preK P l l.dropLast).run F st with
         | some st=>match st.ds,(rdK a).run st.e with
          | [],.c k=>some (k,(rdK y).run st.e,st.m)
          | _,_=>none
         | none=>none
        | _=>none
       | false=>none)=some (k,x,m1):=h
      split at h'
      ·rename_i hble;have b:=lZ6 hble;rw[Ig]at b;split at h'
       ·rename_i st hst;split at h'
        ·rename_i st1 hst1;split at h'
         ·rename_i k1 hds hk;cases h';have f:∃dd ty pos af,so=⟨dd,.send a y,ty,pos,af,none⟩:=by
           obtain⟨dd,op,ty,pos,af,gd⟩:=so;unfold xSendOf at hso;simp only at hso;split at hso
           ·cases hso;exact⟨dd,ty,pos,af,rfl⟩
           ·cases hso
          exact⟨fn,cd,c',i,l,so,a,y,st,st1,hf,hn,hbn,hc,d,b,ht,hl,Aah hsl,f,hst,hst1,hds,hk,rfl,rfl⟩
         ·cases h'
        ·cases h'
       ·cases h'
      ·cases h'
     ·cases h
    ·cases h
   ·cases h
  ·cases h
 ·cases h
theorem Bnr{P:Program}{F:Fns}(hF:FnsOk (Wn P) F)(hx:∀S,Abb (goT (Wn P) S) F doX){g:Nat}{args:List CV}{m m1:Mem}{k:Nat}{x:CV}(h:(msgK P g).run F args m=some (k,x,m1)) :
  ∀R args' b c Y av fs,av++fs=args'.toArray->VR R args args'->MemX R m Y [] []->R k=some (b,c)->MsgI P b (Auu R (xMsgOf m.nx x m1)) (Gg P {target:=.fn (.func g) fs,args:=av}) [] Y []:=by
 obtain⟨fn,cd,c',i,l,so,a,y,st,j,hf,hnm,hbn,hc,hr,O,ht,hl,hsl,⟨dd,ty,pos,af,hso⟩,a0,V,hds,hk,hxv,T⟩:=Bnp h;intro R args' b c Y av fs K hv hm hR;refine Bia hf hnm hbn ?_;rw[K];have H:Frame.enter P g args'.toArray .deferred=Fr ⟨g,.deferred,none⟩ (args'.toArray++Array.replicate (fn.ntmps-args'.toArray.size) undef) [] [.code cd]:=by
  simp[Frame.enter,hf,hc,Fr]
 rw[H];have hll:l=l.dropLast++[so]:=by
  obtain⟨pre,rfl⟩:=List.getLast?_eq_some_iff.1 hl;simp
 refine MsgI.of_goes (S:=fun fr cs Y Z=>MsgI P b (Auu R (xMsgOf m.nx x m1)) fr cs Y Z) ?_ fun _ _ _ _ h=>h;refine Bul (C:=Wn P) (F:=F) (n:=fn.ntmps) (b:=⟨g,.deferred,none⟩) (by simp) rfl (fun c st ex st' h=>Wl (C:=Wn P) hF (hx _) (fun _=>⟨⟨_,rfl⟩,hx⟩) c h) cd c' i l ht _ st a0 R (Pn args') [] Y [] [] _ [] [Gf P] NoRecv.nil ⟨Acr hv,hm,.nil⟩ (Tn (by rw[<-hv.len];exact O)) ?_;intro tm e ds a1 a3 D I q g3 J;refine Eh (fr':=Fr ⟨g,.deferred,none⟩ tm ds [.inRegion l.toArray (List.range l.toArray.size)]) (cs':=[Gf P]) (fun W=>by simp[Conc.G,stepG,stepG.exec,Fr]) ?_;have hsz:List.range l.toArray.size=List.range' ([]:List Oper).length (l.dropLast.length+[so].length):=by
  rw[Aik,Bhp,<-lZ3,<-hll];rfl
 rw[hsz];obtain⟨_,hp⟩:=Bor (S:=fun fr cs Y Z=>MsgI P b (Auu R (xMsgOf m.nx x m1)) fr cs Y Z) hF l.dropLast st j V;refine hp ⟨g,.deferred,none⟩ fn.ntmps D e ds a1 a3 [] [] [so] tm [] [Gf P] hsl (by simp) NoRecv.nil J (by rw[Abs];exact hll) I ?_;intro t f E a2 a4 p w B w3 d;have N:E=[]:=by
  have:=d.ds;rw[hds]at this;cases this;rfl
 subst N;subst T;refine Pc 100000 (xKeysV x) j.m a2 a4 d.mem fun a5 a6 q1 q2 q3=>.stop ?_;have hxs:=Ee d.env d.mem.globR a;rw[hk]at hxs;obtain⟨b2,c2,u,u2⟩:=Bjc hxs;have hRk:p k=some (b,c):=B _ _ (q _ _ hR);rw[hRk]at u;cases u;have hys:=Ee d.env d.mem.globR y;rw[hxv]at hys;have hi:l.toArray[l.dropLast.length]?=some ⟨dd,.send a y,ty,pos,af,none⟩:=by
  rw[Me,<-hso,hll];simp
 have hrg:List.range' (([]:List Oper).length+l.dropLast.length) [so].length=[l.dropLast.length]:=by
  rw[Nq,Te];rfl
 rw[hrg];refine .send (v:=Af f y) (z:=.tuple #[]) (fun W=>?_) ?_ ⟨5,?_⟩
 ·have hst:=Np (C:=Wn P) (b:=⟨g,.deferred,none⟩) (ds:=[]) (tm:=t) (k:=[]) (cs:=[Gf P]) (rest:=[]) hi (by rw[Ij hsl w];rfl) (fun c' h'=>by cases h') W;refine hst.trans ?_;have hev:=w.eval ⟨g,.deferred,none⟩ [] [.inRegion l.toArray [l.dropLast.length]];rw[hev];have X:(execOp (Af f) ⟨dd,.send a y,ty,pos,af,none⟩).runT P W #[]=(.ok (.comm #[scase b (Af f y) (.tuple #[])] true .send) W,#[]):=by
   show (Sem.pure (Next.comm #[{chan:=Af f a,send:=some (Af f y),zero:=.tuple #[]}] true .send)).runT P W #[]=_;rw[u2];rfl
  simp only[Wn]at *;simp[stepG.apply,-Sem.runT_eq,X,GStep.after,Conc.G,Fr,seen]
 ·refine⟨p,q.trans B,hys,fun r YQ=>?_,?_⟩
  ·have ZQ:r∈xRows m.nx (xShare 100000 (xKeysV x) j.m.M) 1000 (xKeysV x) []:=YQ;exact Bue q3 (Aei _ _ _ _ _ (by simp) r ZQ)
  ·obtain⟨L,G,U⟩:=d.mem;exact U.lt
 ·show QuitsIn P 5 (Conc.G ((Fr ⟨g,.deferred,none⟩ t [] [.inRegion l.toArray [l.dropLast.length]]).finish undef) [Gf P]);rw[Ju hi];exact leaves hf rfl rfl hr
end
section
open Go Go.Conc
section
variable{P:Program}{b:FB}{n:Nat}{l₀ rest:List Oper}{Q:Env->List Deferred->Ro->Own->Prop}{e:Env}{ds:List Deferred}{Y:Ro}{Z:Own}{o o':List CV}{S:Cy}
variable{dd:Option Tmp}{ty t:TypeId}{pos:String}{af:Array Edge}{g:Option (Nat×Bool)}{x:Operand}{v z:Value}
theorem Bis{el dir c}(hT:P.underlying t=some (.chan dir el))(hz:Fw P el z)(hx:Af e x = .chan (some c))(W:World):
  (execOp (Af e) ⟨dd,.recv t x true,ty,pos,af,g⟩).runT P W #[]=(.ok (.comm #[Conc.rcase c z] true (.recv true)) W,#[]):=by
 obtain⟨ti,f,h⟩:=hz;show ((underlying t).bind _:Sem Next).runT P W #[]=_;rw[Sem.runT_bind'];have a:(underlying t).runT P W #[]=(.ok (.chan dir el) W,#[]):=by
  show Sem.runT P (match P.underlying t with|some i=>pure i|none=>_) W #[]=_;rw[hT];rfl
 rw[a];show ((zeroValue el).bind _:Sem Next).runT P W #[]=_;rw[Sem.runT_bind'];have b:(zeroValue el).runT P W #[]=(.ok z W,#[]):=by
  show Sem.runT P ((typeInfo el).bind _) W #[]=_;rw[Sem.runT_bind'];have d:(typeInfo el).runT P W #[]=(.ok ti W,#[]):=by
   show Sem.runT P (match P.info? el with|some i=>pure i|none=>_) W #[]=_;rw[f];rfl
  rw[d];simp only[h];rfl
 rw[b,hx];rfl
theorem Ayo{el dir c}(hT:P.underlying t=some (.chan dir el))(hz:Fw P el z)(hx:Af e x = .chan (some c)){i rs tm k cs}(ho:l₀.toArray[i]?=some ⟨dd,.recv t x true,ty,pos,af,g⟩)(hw:Bz l₀.toArray ⟨dd,.recv t x true,ty,pos,af,g⟩ e=true)(hs:Fu n l₀.toArray=true)(hk:b.kind ≠ .early)(ht:EnvOf n tm e):Sv P c z (Fr b tm ds (.inRegion l₀.toArray (i::rs)::k)) cs:=by
 intro W;have hev:=ht.eval b ds (.inRegion l₀.toArray (i::rs)::k);have hst:=Np (C:=Iw P) (b:=b) (ds:=ds) (tm:=tm) (k:=k) (cs:=cs) (rest:=rs) ho (by rw[Ij hs ht];exact hw) (fun c' h'=>by cases h') W;refine hst.trans ?_;rw[hev];have hk':(b.kind==CallKind.early)=false:=by cases hb:b.kind<;>simp_all<;>rfl
 have hr:=Bis (P:=P) (dd:=dd) (ty:=ty) (pos:=pos) (af:=af) (g:=g) hT hz hx W;simp only[Iw]at *;simp[stepG.apply,-Sem.runT_eq,hr,hk',GStep.after,Conc.G,Fr,seen]
theorem Bxm{el dir c i vs}(hs:Fu n l₀.toArray=true)(hk:b.kind ≠ .early)(hw:Bz l₀.toArray ⟨dd,.recv t x true,ty,pos,af,g⟩ e=true)(hT:P.underlying t=some (.chan dir el))(hz:Fw P el z)(hx:Af e x = .chan (some c))(hi:Z[i]?=some (c,Res.recv (v::vs)))(h:Ops (goT (Iw P) S) b n l₀ rest o (Ja e dd (.tuple #[v,.bool true])) ds Y (Z.set i (c,.recv vs)) o' Q):Ops (goT (Iw P) S) b n l₀ (⟨dd,.recv t x true,ty,pos,af,g⟩::rest) o e ds Y Z o' Q:=by
 intro pre a tm k cs ht hq;have ho:l₀.toArray[pre.length]?=some ⟨dd,.recv t x true,ty,pos,af,g⟩:=by subst a;simp
 rw[lZ9,Abo];have d:=h (pre++[⟨dd,.recv t x true,ty,pos,af,g⟩]) (by rw[a];simp);rw[lZ3,Vy]at d;refine GoesH.ext (K:=fun fr' cs' Y' Z'=>fr'=(Fr b tm ds (.inRegion l₀.toArray (pre.length::List.range' (pre.length+1) rest.length)::k)).finish (.tuple #[v,.bool true])/\cs'=cs/\Y'=Y/\Z'=Z.set i (c,.recv vs))
  (.inr (.inl ⟨i,c,v,vs,z,Ayo hT hz hx ho hw hs hk ht,hi,rfl,rfl,rfl,rfl⟩)) ?_
 rintro _ _ _ _ ⟨rfl,rfl,rfl,rfl⟩;rw[Ju ho];exact d _ k _ (Jj hs ht ho _) hq
theorem Bic{el dir c i}(hs:Fu n l₀.toArray=true)(hk:b.kind ≠ .early)(hw:Bz l₀.toArray ⟨dd,.recv t x true,ty,pos,af,g⟩ e=true)(hT:P.underlying t=some (.chan dir el))(hz:Fw P el z)(hx:Af e x = .chan (some c))(hi:Z[i]?=some (c,Res.recv []))(h:Ops (goT (Iw P) S) b n l₀ rest o (Ja e dd (.tuple #[z,.bool false])) ds Y (Z.eraseIdx i) o' Q):Ops (goT (Iw P) S) b n l₀ (⟨dd,.recv t x true,ty,pos,af,g⟩::rest) o e ds Y Z o' Q:=by
 intro pre a tm k cs ht hq;have ho:l₀.toArray[pre.length]?=some ⟨dd,.recv t x true,ty,pos,af,g⟩:=by subst a;simp
 rw[lZ9,Abo];have d:=h (pre++[⟨dd,.recv t x true,ty,pos,af,g⟩]) (by rw[a];simp);rw[lZ3,Vy]at d;refine GoesH.ext (K:=fun fr' cs' Y' Z'=>fr'=(Fr b tm ds (.inRegion l₀.toArray (pre.length::List.range' (pre.length+1) rest.length)::k)).finish (.tuple #[z,.bool false])/\cs'=cs/\Y'=Y/\Z'=Z.eraseIdx i)
  (.inr (.inr (.inl ⟨i,c,z,Ayo hT hz hx ho hw hs hk ht,hi,rfl,rfl,rfl,rfl⟩))) ?_
 rintro _ _ _ _ ⟨rfl,rfl,rfl,rfl⟩;rw[Ju ho];exact d _ k _ (Jj hs ht ho _) hq
theorem Bxj{c df i ch vs}(hs:Fu n l₀.toArray=true)(hk:b.kind ≠ .early)(hw:Bz l₀.toArray ⟨dd,.go c,ty,pos,af,g⟩ e=true)(hd:resolve (Af e) c ty=pure df)(hnil:∃f fs,df.target = .fn f fs)(hn:NoRecv Z)(hi:Z[i]?=some (ch,Res.chan))(hS:SendI P ch vs (Gg P df) [] Y [])(h:Ops (goT (Iw P) S) b n l₀ rest o (Ja e dd undef) ds Y (Z.set i (ch,.recv vs)) o' Q){pre}(hpre:l₀=pre++⟨dd,.go c,ty,pos,af,g⟩::rest){tm k cs}(ht:EnvOf n tm e)(hq:∀tm' e' ds' Y' Z',EnvOf n tm' e'->Q e' ds' Y' Z'->(goT (Iw P) S).Go o' (Fr b tm' ds' k) cs Y' Z'):
  GoesH (Iw P) S (Fr b tm ds (.inRegion l₀.toArray (List.range' pre.length (⟨dd,.go c,ty,pos,af,g⟩::rest:List Oper).length)::k)) cs Y Z:=by
 have ho:l₀.toArray[pre.length]?=some ⟨dd,.go c,ty,pos,af,g⟩:=by subst hpre;simp
 rw[lZ9,Abo];have a:=h (pre++[⟨dd,.go c,ty,pos,af,g⟩]) (by rw[hpre];simp);rw[lZ3,Vy]at a;have hev:=ht.eval b ds (.inRegion l₀.toArray (pre.length::List.range' (pre.length+1) rest.length)::k);have hex:execOp (Af e) ⟨dd,.go c,ty,pos,af,g⟩=(pure (.spawn df):Sem Next):=by
  show ((resolve (Af e) c ty).bind fun d=>pure (Next.spawn d))=_;rw[hd];rfl
 refine GoesH.ext (K:=fun fr' cs' Y' Z'=>fr'=(Fr b tm ds (.inRegion l₀.toArray (pre.length::List.range' (pre.length+1) rest.length)::k)).finish undef/\cs'=cs/\Y'=Y/\Z'=Z.set i (ch,.recv vs))
  (.inl ⟨df,i,ch,vs,_,fun W=>?_,hn,hi,hS,rfl,rfl,rfl,rfl⟩) ?_
 ·have hst:=Np (C:=Iw P) (b:=b) (ds:=ds) (tm:=tm) (k:=k) (cs:=cs) (rest:=List.range' (pre.length+1) rest.length) ho (by rw[Ij hs ht];exact hw) (fun c' h'=>by cases h') W;refine hst.trans ?_;rw[hev,hex];have hk':(b.kind==CallKind.early)=false:=by cases hb:b.kind<;>simp_all<;>rfl
  obtain⟨tg,ar⟩:=df;obtain⟨f,fs,hnil⟩:=hnil;simp only at hnil;subst hnil;simp[stepG.apply,Sem.runT,pure,hk',GStep.after,Conc.G,Gg,Fr,seen,Iw]
 ·rintro _ _ _ _ ⟨rfl,rfl,rfl,rfl⟩;rw[Ju ho];exact a _ k _ (Jj hs ht ho _) hq
theorem Caj{c:Call}{df:Deferred}{i ch kk:Nat}{Rs:List (Value->Ro->Prop)}{Rm:Value->Ro->Prop}(hs:Fu n l₀.toArray=true)(hk:b.kind ≠ .early)(hw:Bz l₀.toArray ⟨dd,.go c,ty,pos,af,g⟩ e=true)(hd:resolve (Af e) c ty=pure df)(hnil:∃f fs,df.target = .fn f fs)
  (hn:∀c vs,(c,Res.recv vs)∉Z) (hn1:∀c' k' Rs',(c',Res.crowd k' Rs')∈Z->Rs'≠[]->c'=ch) (hi:Z[i]?=some (ch,Res.crowd (kk+1) Rs))
  (hS:MsgI P ch Rm (Gg P df) [] Y []) (h:Ops (goT (Iw P) S) b n l₀ rest o (Ja e dd undef) ds Y (Z.set i (ch,.crowd kk (Rs++[Rm]))) o' Q) {pre:List Oper} (hpre:l₀=pre++⟨dd,.go c,ty,pos,af,g⟩::rest) {tm:Array Value} {k:List Item} {cs:List Frame} (ht:EnvOf n tm e)
  (hq:∀tm' e' ds' Y' Z',EnvOf n tm' e'->Q e' ds' Y' Z'->(goT (Iw P) S).Go o' (Fr b tm' ds' k) cs Y' Z') :
  GoesH (Iw P) S (Fr b tm ds (.inRegion l₀.toArray (List.range' pre.length (⟨dd,.go c,ty,pos,af,g⟩::rest:List Oper).length)::k)) cs Y Z:=by
 have ho:l₀.toArray[pre.length]?=some ⟨dd,.go c,ty,pos,af,g⟩:=by subst hpre;simp
 rw[lZ9,Abo];have a:=h (pre++[⟨dd,.go c,ty,pos,af,g⟩]) (by rw[hpre];simp);rw[lZ3,Vy]at a;have hev:=ht.eval b ds (.inRegion l₀.toArray (pre.length::List.range' (pre.length+1) rest.length)::k);have hex:execOp (Af e) ⟨dd,.go c,ty,pos,af,g⟩=(pure (.spawn df):Sem Next):=by
  show ((resolve (Af e) c ty).bind fun d=>pure (Next.spawn d))=_;rw[hd];rfl
 refine GoesH.ext (K:=fun fr' cs' Y' Z'=>fr'=(Fr b tm ds (.inRegion l₀.toArray (pre.length::List.range' (pre.length+1) rest.length)::k)).finish undef/\cs'=cs/\Y'=Y/\Z'=Z.set i (ch,.crowd kk (Rs++[Rm])))
  (.inr (.inr (.inr (.inl ⟨df,i,ch,kk,Rs,Rm,_,fun W=>?_,hn,hn1,hi,hS,rfl,rfl,rfl,rfl⟩)))) ?_
 ·have hst:=Np (C:=Iw P) (b:=b) (ds:=ds) (tm:=tm) (k:=k) (cs:=cs) (rest:=List.range' (pre.length+1) rest.length) ho (by rw[Ij hs ht];exact hw) (fun c' h'=>by cases h') W;refine hst.trans ?_;rw[hev,hex];have hk':(b.kind==CallKind.early)=false:=by cases hb:b.kind<;>simp_all<;>rfl
  obtain⟨tg,ar⟩:=df;obtain⟨f,fs,hnil⟩:=hnil;simp only at hnil;subst hnil;simp[stepG.apply,Sem.runT,pure,hk',GStep.after,Conc.G,Gg,Fr,seen,Iw]
 ·rintro _ _ _ _ ⟨rfl,rfl,rfl,rfl⟩;rw[Ju ho];exact a _ k _ (Jj hs ht ho _) hq
theorem MemX.oneCrowd{R:XR}{m:Mem}{Z9:Own}{kk bb cc nn:Nat}{ms:List Ub}(h:MemX R m Y Z Z9)(hn:NoRecv Z9)(hk:m.M.get kk=some (.own (.crowd nn ms)))(hr:xNoRcv (m.M.set kk (.own .dead))=true)(hR:R kk=some (bb,cc)) :
  (∀c vs,(c,Res.recv vs)∉Z)/\∀c' k' Rs',(c',Res.crowd k' Rs')∈Z->Rs'≠[]->c'=bb:=by
 obtain⟨L,G,h⟩:=h;have get:∀j,j≠kk->(m.M.set kk (.own .dead)).get j=m.M.get j:=fun j hj=>by rw[Tr.get_set,if_neg hj]
 refine⟨fun c vs hm=>?_,fun c k Rs hm hne=>?_⟩
 ·rcases Ho.1 (h.perm.mem_iff.1 hm) with h1|h1
  ·obtain⟨p,hp,e⟩:=Iq.1 h1;obtain⟨f,o1,d,b,a⟩:=h.own p hp;by_cases hj:p.1=kk
   ·rw[hj,hk]at b;cases b;rw[e]at a;cases a
   ·rw[e]at a;cases a with
    | rcv hv=>exact(Aqt _ p.1 _ hr (by rw[get _ hj];exact b)).elim
  ·rcases Ho.1 h1 with h1|h1
   ·obtain⟨o,ho⟩:=h.gar _ h1;cases ho
   ·exact hn.recv c vs h1
 ·rcases Ho.1 (h.perm.mem_iff.1 hm) with h1|h1
  ·obtain⟨p,hp,e⟩:=Iq.1 h1;obtain⟨f,o1,d,b,a⟩:=h.own p hp;by_cases hj:p.1=kk
   ·rw[hj,hR]at d;cases d;rw[e]
   ·rw[e]at a;cases a with
    | crowd hv=>exact(Aho _ p.1 _ _ hr (by rw[get _ hj];exact b)).elim
  ·rcases Ho.1 h1 with h1|h1
   ·obtain⟨o,ho⟩:=h.gar _ h1;cases ho
   ·exact absurd (hn.crowd c k Rs h1) hne
theorem Xz{lo:Nat}:∀{l:List Nat},xAllGe lo l=true->∀j∈l,lo<=j
 | a::l,h,j,hj=>by
  have h':(match Nat.ble lo a with|true=>xAllGe lo l|false=>false)=true:=h;split at h'
  ·rename_i ha;rcases lZ7.1 hj with rfl|hj
   ·exact lZ6 ha
   ·exact Xz h' j hj
  ·cases h'
theorem Arb{lo:Nat}:∀{l:List (Nat×Option Nat×List CV)},xRowsGe lo l=true->∀x∈l,∀j∈xKeysL x.2.2,lo<=j
 | a::l,h,x,hx=>by
  have h':(match xAllGe lo (xKeysL a.2.2) with|true=>xRowsGe lo l|false=>false)=true:=h;split at h'
  ·rename_i ha;rcases lZ7.1 hx with rfl|hx
   ·exact Xz ha
   ·exact Arb h' x hx
  ·cases h'
theorem Bhz{q:Ub}(h:xMsgLow q=true):∀j∈xKeysM q,q.2.2.1<=j:=fun j hj=>by
 unfold xMsgLow at h;split at h
 ·rename_i h1;rcases Ho.1 hj with hj|hj
  ·exact Xz h1 j hj
  ·obtain⟨x,hx,hj⟩:=Aqe.1 hj;exact Arb h x hx j hj
 ·cases h
theorem Bxn{c kc fin y xv}(hs:Fu n l₀.toArray=true)(hk:b.kind ≠ .early)(hw:Bz l₀.toArray ⟨dd,.send x y,ty,pos,af,g⟩ e=true)(hx:Af e x = .chan (some c))(hy:Af e y=plainV xv)(hsuf:∃l,fin=l++(xv::o))(h:Ops (Ayw P c kc fin) b n l₀ rest (xv::o) (Ja e dd undef) ds Y Z o' Q):Ops (Ayw P c kc fin) b n l₀ (⟨dd,.send x y,ty,pos,af,g⟩::rest) o e ds Y Z o' Q:=by
 intro pre a tm k cs ht hq l hl;have ho:l₀.toArray[pre.length]?=some ⟨dd,.send x y,ty,pos,af,g⟩:=by subst a;simp
 rw[lZ9,Abo];have d:=h (pre++[⟨dd,.send x y,ty,pos,af,g⟩]) (by rw[a];simp);rw[lZ3,Vy]at d;have hev:=ht.eval b ds (.inRegion l₀.toArray (pre.length::List.range' (pre.length+1) rest.length)::k);obtain⟨l',hl'⟩:=hsuf;have f:l=l'++[xv]:=by
  have:l++o=(l'++[xv])++o:=by rw[<-hl,hl'];simp
  exact List.append_cancel_right this
 subst f;have i:(l'++[xv]).reverse.map plainV=plainV xv::l'.reverse.map plainV:=by simp
 rw[i];refine .send (z:=.tuple #[]) (fun W=>?_) ?_
 ·have hst:=Np (C:=Wn P) (b:=b) (ds:=ds) (tm:=tm) (k:=k) (cs:=cs) (rest:=List.range' (pre.length+1) rest.length) ho (by rw[Ij hs ht];exact hw) (fun c' h'=>by cases h') W;refine hst.trans ?_;rw[hev];have hk':(b.kind==CallKind.early)=false:=by cases hb:b.kind<;>simp_all<;>rfl
  have hr:(execOp (Af e) ⟨dd,.send x y,ty,pos,af,g⟩).runT P W #[]=(.ok (.comm #[scase c (plainV xv) (.tuple #[])] true .send) W,#[]):=by
   show (Sem.pure (Next.comm #[{chan:=Af e x,send:=some (Af e y),zero:=.tuple #[]}] true .send)).runT P W #[]=_;rw[hx,hy];rfl
  simp only[Wn]at *;simp[stepG.apply,-Sem.runT_eq,hr,hk',GStep.after,Conc.G,Fr,seen]
 ·rw[Ju ho];exact d _ k _ (Jj hs ht ho undef) hq l' hl'
end
def Bjr(P:Program)(F:Fns):Prop:=∀g args m k outs,m.outs=[]->F.send g args m k=some outs->(∀x∈outs,xPlainV x=true)/\∀R args' b c Y,VR R args args'->MemX R m Y [] []->R k=some (b,c) ->
 SendI P b (outs.reverse.map plainV) (Gg P {target:=.fn (.func g) #[],args:=args'.toArray}) [] Y []
def Bvs(P:Program)(F:Fns):Prop:=∀g args m k x m1,F.msg g args m=some (k,x,m1)->∀R args' b c Y av fs,av++fs=args'.toArray->VR R args args'->MemX R m Y [] []->R k=some (b,c) ->
 MsgI P b (Auu R (xMsgOf m.nx x m1)) (Gg P {target:=.fn (.func g) fs,args:=av}) [] Y []
theorem Uf{C}{G:GoT C}{F}(hF:FnsOk C F)(hm:F.mn=false):Abb G F doX:=by
 intro op st x m' ds' rd h;have key:doOR F st ((opK C.P op.op).run st.e st.m) = .v x m' ds':=by
  have h':doX1 F rd st ((opK C.P op.op).run st.e st.m) = .v x m' ds':=h;cases he:(opK C.P op.op).run st.e st.m with
  | go f args=>rw[he]at h';simp only[doX1,hm]at h';cases h'
  | recv k ok=>rw[he]at h';simp only[doX1,hm]at h';cases h'
  | _=>rw[he]at h';exact h'
 exact Asu (F:=F) (Zk hF key)
theorem Bft:∀(l r:List CV),xRev l r=l.reverse++r
 | [],r=>rfl
 | a::l,r=>by
  show xRev l (a::r)=_;rw[Bft l (a::r)];simp
theorem Abg{P F}(hF:FnsOk (Iw P) F)(hS:Bjr P F)(hM:Bvs P F)(S:Cy):Abb (goT (Iw P) S) F doX:=by
 intro op st x m' ds' rd h;have h':doX1 F rd st ((opK (Iw P).P op.op).run st.e st.m) = .v x m' ds':=h;cases he:(opK (Iw P).P op.op).run st.e st.m with
 | go f args =>
  rw[he]at h';unfold doX1 at h';dsimp only at h';split at h'
  ·rename_i g0 hmn;split at h'
   ·rename_i k hnr hch;split at h'
    ·rename_i outs hgk hsd;cases h';obtain⟨hpl,a2⟩:=hS _ _ _ _ _ rfl hsd;have a1:st.m.M.get k=some (.own .chan):=Aag _ _ _ _ _ hgk;refine⟨⟨Ii _,⟨[k],rfl,rfl,fun j _ hj=>?_⟩,[],rfl,by simp⟩,fun b n l₀ rest o' Q R e ds Y Z Z9 hn hr hs hsl hk hw _ hc=>?_⟩
     ·have hjk:j≠k:=fun e=>hj (by rw[e];exact Us ..);rw[Bew,Bew];show Avc ((Tr.set _ k _).get j)=_;rw[Tr.get_set,if_neg hjk,Tz]
     ·obtain⟨y,ops,tys,hop,hf,ha⟩:=Boi he;obtain⟨dd,T,ty,pos,af,gd⟩:=op;simp only at hop;subst hop;intro pre I tm kk cs ht hq;have hv:=Ee hs.env hs.mem.globR y;rw[<-hf]at hv;obtain⟨xs',ys',c,B,K⟩:=Bpy hv;cases c;cases B;have hav:=Aac hs.env hs.mem.globR ops.toList;rw[<-ha]at hav;have J:resolve (Af e) ⟨.value y,ops,tys⟩ ty=pure {target:=.fn (.func g0) #[],args:=(ops.toList.map (Af e)).toArray}:=by
       show Deferred.ofValue (Af e y) (ops.map (Af e))=_;rw[K];show (pure {target:=.fn (.func g0) #[],args:=#[]++ops.map (Af e)}:Sem Deferred)=_;have H:#[]++ops.map (Af e)=(ops.toList.map (Af e)).toArray:=by apply Array.ext';simp
       rw[H]
      refine Pc 100000 (xKeysL args) st.m Y Z hs.mem fun Y' Z' N U hm'=>?_;have D:(st.m.withM (xShare 100000 (xKeysL args) st.m.M)).M.get k=some (.own .chan):=hgk;obtain⟨C,i,O,L,g,q,u,w⟩:=hm'.at D (by simp);cases u;have hsi:=a2 R (ops.toList.map (Af e)) C i Y' hav hm'.child g;have YQ:NoRecv Z':=(hs.mem.noRcv hn hnr).of fun p hp=>.inl (U p hp);have hob:ObjR R i (.rcv (xRev outs [])) (.recv (outs.reverse.map plainV)):=by
       rw[Bft,Tb];exact .rcv (Aye R fun y hy=>hpl y (List.mem_reverse.1 hy))
      obtain⟨G,E,a⟩:=w _ _ hob;refine Bxj (o:=st.m.outs) hsl hk hw J ⟨_,_,rfl⟩ YQ q hsi ?_ I ht hq;exact hc R undef ds Y' _ .refl N (.t .nil .nil) ⟨G,E,a.perm,a.nd,a.own,a.all,a.ro,a.gar,a.lt,a.glob⟩ hs.ds
    ·cases h'
   ·cases h'
  ·rename_i g0 y0 ys0 hmn;split at h'
   ·rename_i k x1 m1 hmsg;split at h'
    ·rename_i nn ms hgk hnr;split at h'
     ·rename_i hlow;cases h';have a1:st.m.M.get k=some (.own (.crowd (nn+1) ms)):=Aag _ _ _ _ _ hgk;refine⟨⟨Ii _,⟨[k],rfl,rfl,fun j _ hj=>?_⟩,[],rfl,by simp⟩,fun b n l₀ rest o' Q R e ds Y Z Z9 hn hr hs hsl hk hw _ hc=>?_⟩
      ·have hjk:j≠k:=fun e=>hj (by rw[e];exact Us ..);rw[Bew,Bew];show Avc ((Tr.set _ k _).get j)=_;rw[Tr.get_set,if_neg hjk,Tz]
      ·obtain⟨y,ops,tys,hop,hf,ha⟩:=Boi he;obtain⟨dd,T,ty,pos,af,gd⟩:=op;simp only at hop;subst hop;intro pre I tm kk cs ht hq;have hv:=Ee hs.env hs.mem.globR y;rw[<-hf]at hv;obtain⟨xs',ys',c,B,K⟩:=Bpy hv;cases c;have hav:=Aac hs.env hs.mem.globR ops.toList;rw[<-ha]at hav;have J:resolve (Af e) ⟨.value y,ops,tys⟩ ty=pure {target:=.fn (.func g0) ys'.toArray,args:=(ops.toList.map (Af e)).toArray}:=by
        show Deferred.ofValue (Af e y) (ops.map (Af e))=_;rw[K];show (pure {target:=.fn (.func g0) ys'.toArray,args:=#[]++ops.map (Af e)}:Sem Deferred)=_;have H:#[]++ops.map (Af e)=(ops.toList.map (Af e)).toArray:=by apply Array.ext';simp
        rw[H]
       have X:VR R (xApp args (y0::ys0)) (ops.toList.map (Af e)++ys'):=by rw[Lu];exact hav.app B
       refine Pc 100000 (xKeysL (xApp args (y0::ys0))) st.m Y Z hs.mem fun Y' Z' N U hm'=>?_;have D:(st.m.withM (xShare 100000 (xKeysL (xApp args (y0::ys0))) st.m.M)).M.get k=some (.own (.crowd (nn+1) ms)):=hgk;obtain⟨C,i,O,L,g,q,u,w⟩:=hm'.at D (by simp);obtain⟨ZQ,a0⟩:=hm'.oneCrowd hn D hnr g;cases u with
       | @crowd _ _ Rs hms =>
        have hsi:=hM _ _ _ _ _ _ hmsg R (ops.toList.map (Af e)++ys') C i Y' (ops.toList.map (Af e)).toArray ys'.toArray (by simp) X hm'.child g;have hob:ObjR R i (.crowd nn (xApp ms [xMsgOf st.m.nx x1 m1])) (.crowd nn (Rs++[Auu R (xMsgOf st.m.nx x1 m1)])):=by
         rw[Lu];exact .crowd (MsgsR.app ⟨R,.refl,fun j hj hlt=>absurd (Bhz hlow j hj) (Nat.not_le.2 hlt),rfl⟩ hms)
        obtain⟨G,E,a⟩:=w _ _ hob;refine Caj (o:=st.m.outs) hsl hk hw J ⟨_,_,rfl⟩ ZQ a0 q hsi ?_ I ht hq;exact hc R undef ds Y' _ .refl N (.t .nil .nil) ⟨G,E,a.perm,a.nd,a.own,a.all,a.ro,a.gar,a.lt,a.glob⟩ hs.ds
     ·cases h'
    ·cases h'
   ·cases h'
  ·cases h'
 | recv k ok =>
  rw[he]at h';unfold doX1 at h';dsimp only at h';split at h'
  ·obtain⟨t,y,d,el,z,hop,hT,hz,hy⟩:=Axw he;obtain⟨dd,T,ty,pos,af,gd⟩:=op;simp only at hop;subst hop;split at h'
   ·rename_i v vs hg;cases h';refine⟨(LogOk.put _ _ _).kept,fun b n l₀ rest o' Q R e ds Y Z Z9 hn hr hs hsl hk hw _ hc=>?_⟩;obtain⟨C,i,O,L,g,q,u,w⟩:=hs.mem.at hg (by simp);cases u with
    | @rcv _ vs' hv =>
     match vs',hv with
     | [],hv=>cases hv
     | v'::vs'',hv =>
      obtain⟨a3,a4⟩:=VR.cons_iff.1 hv;have hyv:=Ee hs.env hs.mem.globR y;rw[hy]at hyv;obtain⟨V,W,c,B⟩:=Bjc hyv;rw[g]at c;cases c;refine Bxm hsl hk hw hT hz B q ?_;exact hc R _ ds Y _ .refl .refl (.t (VR.cons_iff.2 ⟨a3,.b _ .nil⟩) .nil) (w _ _ (.rcv a4)) hs.ds
   ·rename_i hg;cases h';refine⟨(LogOk.put _ _ _).kept,fun b n l₀ rest o' Q R e ds Y Z Z9 hn hr hs hsl hk hw _ hc=>?_⟩;obtain⟨C,i,O,L,g,q,u,w⟩:=hs.mem.gone hg (by simp);cases u with
    | rcv hv =>
     cases hv;have hyv:=Ee hs.env hs.mem.globR y;rw[hy]at hyv;obtain⟨V,W,c,B⟩:=Bjc hyv;rw[g]at c;cases c;refine Bic hsl hk hw hT hz B q ?_;exact hc R _ ds Y _ .refl .refl (.t (.bad _ (.b _ .nil)) .nil) w hs.ds
   ·cases h'
  ·cases h'
 | _=>rw[he]at h';exact Asu (F:=F) (Zk hF (by rw[he];exact h'))
end
section
open Go Go.Conc
theorem Bwm{P F c kc fin}(hF:FnsOk (Wn P) F)(hch:F.ch=kc):Abb (Ayw P c kc fin) F doS:=by
 intro op st x m' ds' rd h;have h':doS1 F rd st ((opK (Wn P).P op.op).run st.e st.m) = .v x m' ds':=h;cases he:(opK (Wn P).P op.op).run st.e st.m with
 | send k y =>
  rw[he]at h';unfold doS1 at h';dsimp only at h';split at h'
  ·rename_i hk0 hpl;have q:k=kc:=(lZ8 hk0).trans hch;subst q;cases h';refine⟨⟨Ii _,⟨[],rfl,rfl,fun _ _ _=>rfl⟩,[y],rfl,fun z hz=>by rw[Mk.1 hz];exact hpl⟩,fun b n l₀ rest o' Q R e ds Y Z Z9 hn hr hs hsl hk hw g hc=>?_⟩;obtain⟨a,yy,hop,ha,hy⟩:=Boj he;obtain⟨dd,w,ty,pos,af,gd⟩:=op;simp only at hop;subst hop;have hav:=Ee hs.env hs.mem.globR a;rw[ha]at hav;obtain⟨i,j,d,f⟩:=Bjc hav;obtain⟨⟨cc,hcc⟩,_⟩:=hr;rw[hcc]at d;cases d;have hyv:=Ee hs.env hs.mem.globR yy;rw[hy]at hyv;refine Bxn hsl hk hw f (Boq hpl hyv) g ?_;exact hc R undef ds Y Z .refl .refl (.t .nil .nil) hs.mem.rest hs.ds
  ·cases h'
 | dclose y =>
  rw[he]at h';unfold doS1 at h';dsimp only at h';split at h'
  ·rename_i k hds;split at h'
   ·cases h';refine⟨.refl _,fun b n l₀ rest o' Q R e ds Y Z Z9 hn hr hs hsl hk hw g hc=>?_⟩;obtain⟨t,tys,hop,hg⟩:=Bbs he;obtain⟨dd,w,ty,pos,af,gd⟩:=op;simp only at hop;subst hop;obtain⟨i,j,d,f⟩:=Bjc (hs.env t _ hg);have u:b.round=none:=hr.2;have p:ds=[]:=by
     have:=hs.ds;rw[hds]at this;cases this;rfl
    subst p;refine Bxk hsl hk hw ?_;rw[u];refine Xn (C:=Wn P) rfl (show Af e (.tmp t)=_ from f) ?_;exact hc R undef _ Y Z .refl .refl (.t .nil .nil) hs.mem (.close d .nil)
   ·cases h'
  ·cases h'
 | _=>rw[he]at h';exact Asu (F:=F) (Zk hF (by rw[he];exact h'))
theorem Biw{P g F args m k outs}(h:(sendK P g).run F args m k=some outs):
  ∃fn c ex st,P.funcs[g]?=some fn/\(fn.name == "runtime.NumGoroutine")=false/\fn.body.isNone=false/\fn.body=some c/\fn.results = #[]/\args.length<=fn.ntmps/\(codeK P doS fn.ntmps c).run ⟨false,k,F.code,F.call,F.send,F.msg⟩ none ⟨xArgEnv args 0 .leaf,m,[]⟩=Ha ex st/\(∀id,ex ≠ .exit id)/\st.ds=[.close k]/\st.m.outs=outs:=by
 unfold sendK at h;split at h
 ·rename_i fn hf hb;obtain⟨fn',hf',hn,hbn⟩:=Ww hb;rw[hf]at hf';cases hf';split at h
  ·rename_i c hc hr;have h':(match Nat.ble (xLen args) fn.ntmps with
    | true=>match (codeK P doS fn.ntmps c).run ⟨false,k,F.code,F.call,F.send,F.msg⟩ none ⟨xArgEnv args 0 .leaf,m,[]⟩ with
     | .n st=>xFinS k st
     | .r st=>xFinS k st
     | _=>none
    | false=>none)=some outs:=h
   have i:fn.results = #[]:=by apply Array.ext';simpa using hr
   have key:∀ex st,(codeK P doS fn.ntmps c).run ⟨false,k,F.code,F.call,F.send,F.msg⟩ none ⟨xArgEnv args 0 .leaf,m,[]⟩=Ha ex st->(∀id,ex ≠ .exit id)->xFinS k st=some outs->args.length<=fn.ntmps ->
     ∃fn c ex st,P.funcs[g]?=some fn/\(fn.name == "runtime.NumGoroutine")=false/\fn.body.isNone=false/\fn.body=some c/\fn.results = #[]/\args.length<=fn.ntmps/\(codeK P doS fn.ntmps c).run ⟨false,k,F.code,F.call,F.send,F.msg⟩ none ⟨xArgEnv args 0 .leaf,m,[]⟩=Ha ex st/\(∀id,ex ≠ .exit id)/\st.ds=[.close k]/\st.m.outs=outs:=by
    intro ex st d e a f;unfold xFinS at a;split at a
    ·rename_i j hd;split at a
     ·rename_i hj;have hj:=lZ8 hj;subst hj;cases a;exact⟨fn,c,ex,st,hf,hn,hbn,hc,i,f,d,e,hd,rfl⟩
     ·cases a
    ·cases a
   split at h'
   ·rename_i hble;have b:=lZ6 hble;rw[Ig]at b;split at h'
    ·rename_i st hst;exact key .normal st hst (by simp) h' b
    ·rename_i st hst;exact key .ret st hst (by simp) h' b
    ·cases h'
   ·cases h'
  ·cases h
 ·cases h
theorem Bfk{P F}(hF:FnsOk (Wn P) F){g args m k outs}(ho:m.outs=[])(h:(sendK P g).run F args m k=some outs):
  (∀x∈outs,xPlainV x=true)/\∀R args' b c Y,VR R args args'->MemX R m Y [] []->R k=some (b,c)->SendI P b (outs.reverse.map plainV) (Gg P {target:=.fn (.func g) #[],args:=args'.toArray}) [] Y []:=by
 obtain⟨fn,cd,ex,st,hf,hnm,hbn,hc,hr,p,t,hex,hds,a⟩:=Biw h;have hF':FnsOk (Wn P) ⟨false,k,F.code,F.call,F.send,F.msg⟩:=⟨hF.call,hF.code⟩;have f:∀b,Wk (Ayw P b k outs) fn.ntmps none cd ⟨xArgEnv args 0 .leaf,m,[]⟩ ex st:=fun b =>
  Wl (G:=Ayw P b k outs) hF' (Bwm hF' rfl) (fun h=>by cases h) cd t
 refine⟨fun x hx=>?_,fun R args' b c Y hv hm hR=>?_⟩
 ·obtain⟨w,hw,hp⟩:=(f 0 ⟨g,.deferred,none⟩ (by simp)).1.outs;have hw':outs=w:=by rw[<-a,hw];show w++m.outs=w;rw[ho,Tb]
  exact hp x (hw' ▸ hx)
 ·refine Abt hf hnm hbn ?_;have i:Frame.enter P g args'.toArray .deferred=Fr ⟨g,.deferred,none⟩ (args'.toArray++Array.replicate (fn.ntmps-args'.toArray.size) undef) [] [.code cd]:=by
   simp[Frame.enter,hf,hc,Fr]
  rw[i];have q:=(f b ⟨g,.deferred,none⟩ (by simp)).2 ⟨[],by rw[a];rfl⟩ R (Pn args') [] Y [] [] NoRecv.nil ⟨⟨c,hR⟩,rfl⟩ ⟨Acr hv,hm,.nil⟩;have hgo:=q _ [] [Gf P] (Tn (by rw[<-hv.len];exact p)) (fun tm' e' ds' Y' Z' d v ⟨R',u,y,hs⟩ e=>?_)
  ·exact hgo outs (by show outs=outs++m.outs;rw[ho,Tb])
  ·intro l hl;rw[a]at hl;have n:l=[]:=List.append_left_eq_self.1 hl.symm;subst n;have hd:=hs.ds;rw[hds]at hd;cases hd with
   | @close _ b2 c2 tys ty _ ds2 hk2 hd2 =>
    cases hd2;have fin:∀d,SendI P b [] {Fr ⟨g,.deferred,none⟩ tm' [Lj b2 tys ty #[false]] d with mode:=.returning} [Gf P] Y' Z':=fun d=>by
     have j:b2=b:=by rw[u _ _ hR]at hk2;cases hk2;rfl
     subst j;exact .close (Aky (b:=⟨g,.deferred,none⟩) hf rfl hr)
    cases ex with
    | normal =>
     cases e;exact Fa (fr':={Fr ⟨g,.deferred,none⟩ tm' [Lj b2 tys ty #[false]] [] with mode:=.returning}) (fun W=>by simp[Conc.G,stepG,stepG.exec,Fr]) (fin _)
    | exit id=>exact absurd rfl (hex id)
    | ret =>
     obtain⟨pre,rfl⟩:=e;exact Fa (fr':={Fr ⟨g,.deferred,none⟩ tm' [Lj b2 tys ty #[false]] (.code .ret::(pre++[])) with mode:=.returning}) (fun W=>by simp[Conc.G,stepG,stepG.exec,Fr]) (fin _)
theorem Xl(P:Program):∀n,FnsOk (Wn P) (xWF P n)/\(xWF P n).mn=false
 | 0=>⟨⟨fun _ _ _ _ _ h=>(by cases h),fun _ _ _ _ _ _ h=>(Gm h).elim⟩,rfl⟩
 | n+1=>by
  obtain⟨ih,im⟩:=Xl P n;refine⟨⟨fun g a m x m' h=>?_,fun k rd c st ex st' h b S hb=>?_⟩,rfl⟩
  ·have h':(funK P g).run (xWF P n) a m = .v x m':=h;exact Baq (C:=Wn P) ih (fun S=>Uf ih im) h'
  ·have h':(codeK P doX k c).run (xWF P n) rd st=Ha ex st':=h;exact Wl (C:=Wn P) (G:=goT (Wn P) S) ih (Uf ih im) (fun _=>⟨⟨S,rfl⟩,fun S=>Uf ih im⟩) c h' b hb
theorem Bfs(P:Program):∀n,FnsOk (Iw P) (xFns P n)/\Bjr P (xFns P n)/\Bvs P (xFns P n)
 | 0=>⟨⟨fun _ _ _ _ _ h=>(by cases h),fun _ _ _ _ _ _ h=>(Gm h).elim⟩,fun _ _ _ _ _ _ h=>(by cases h),fun _ _ _ _ _ _ h=>(by cases h)⟩
 | n+1=>by
  obtain⟨ih,is,im⟩:=Bfs P n;refine⟨⟨fun g a m x m' h=>?_,fun k rd c st ex st' h b S hb=>?_⟩,fun g a m k e ho h=>?_,fun g a m k x d h=>?_⟩
  ·have h':(funK P g).run (xFns P n) a m = .v x m':=h;exact Baq (C:=Iw P) ih (fun S=>Abg ih is im S) h'
  ·have h':(codeK P doX k c).run (xFns P n) rd st=Ha ex st':=h;exact Wl (C:=Iw P) (G:=goT (Iw P) S) ih (Abg ih is im S) (fun _=>⟨⟨S,rfl⟩,fun S=>Abg ih is im S⟩) c h' b hb
  ·have h':(sendK P g).run (xWF P n) a m k=some e:=h;exact Bfk (Xl P n).1 ho h'
  ·have h':(msgK P g).run (xWF P n) a m=some (k,x,d):=h;exact Bnr (Xl P n).1 (fun S=>Uf (Xl P n).1 (Xl P n).2) h'
def xIsRes:Option Cell->Bool
 | some (.own (.rcv _))=>true
 | some (.own .chan)=>true
 | some (.own (.crowd _ (_::_)))=>true
 | _=>false
def xNoRes(t:Tr Cell):Bool:=Tr.rec (motive:=fun _=>Bool) true (fun v _ _ a b=>match xIsRes v with|true=>false|false=>match a with|true=>b|false=>false) t
theorem Ty:∀(t:Tr Cell) (k:Nat),xNoRes t=true->xIsRes (t.get k)=false
 | .leaf,k,_=>rfl
 | .node v l r,k,h=>by
  have h':(match xIsRes v with|true=>false|false=>match xNoRes l with|true=>xNoRes r|false=>false)=true:=h;rw[Tr.get_node];split at h'
  ·cases h'
  ·rename_i hv;split at h'
   ·rename_i hl;split
    ·exact hv
    ·split
     ·exact Ty r _ h'
     ·exact Ty l _ hl
   ·cases h'
theorem Ghost.drops{Y:Ro}{Z:Own}:∀{X:Own},(∀p∈X,(∃o,p.2=Res.obj o)∨∃n,p.2=Res.crowd n [])->Ghost Y (X++Z) Y Z
 | [],_=>.refl
 | (b,r)::X,h=>by
  have ih:Ghost Y (X++Z) Y Z:=Ghost.drops fun p hp=>h p (lZ0 _ hp);rcases h (b,r) mC with⟨o,ho⟩|⟨n,ho⟩
  ·simp only at ho;subst ho;exact Ghost.trans .drop ih
  ·simp only at ho;subst ho;exact Ghost.trans .dropC ih
theorem MemX.drop{R m Y Z Z9}(h:MemX R m Y Z Z9)(hr:xNoRes m.M=true):Ghost Y Z Y Z9:=by
 obtain⟨L,G,h⟩:=h;refine(Cfa h.perm).trans ?_;rw[<-Gv];refine Ghost.drops fun p hp=>?_;rcases Ho.1 hp with hp|hp
 ·obtain⟨q,hq,rfl⟩:=Iq.1 hp;obtain⟨k,b,r⟩:=q;obtain⟨c,o,e,a,d⟩:=h.own (k,b,r) hq;have hn:=Ty m.M k hr;simp only at a d;rw[a]at hn;cases d with
  | cells=>exact .inl ⟨_,rfl⟩
  | grow=>exact .inl ⟨_,rfl⟩
  | map=>exact .inl ⟨_,rfl⟩
  | loop=>exact .inl ⟨_,rfl⟩
  | defd=>exact .inl ⟨_,rfl⟩
  | iter=>exact .inl ⟨_,rfl⟩
  | chan=>cases hn
  | rcv=>cases hn
  | @crowd n ms Rs hms =>
   cases ms with
   | nil =>
    cases Rs with
    | nil=>exact .inr ⟨_,rfl⟩
    | cons=>exact hms.elim
   | cons=>cases hn
 ·exact .inl (h.gar p hp)
theorem Bnn{Y Z t}(hro:∀k o,t.get k=some (.ro o)->k<16/\∃x,Y k=some x/\∀R:XR,(∀k,k<16->R k=some (k,0))->ObjO R 0 o x)(hown:∀k o,t.get k≠some (.own o)):MemX (fun k=>if k<16 then some (k,0) else none) ⟨t,16,[],0,[]⟩ Y Z Z:=by
 have hR:∀k,k<16->(fun k=>if k<16 then some (k,0) else none:XR) k=some (k,0):=fun k hk=>if_pos hk;refine⟨[],[],.refl _,by simp,fun p hp=>(by cases hp),fun k o hk _=>absurd hk (hown k o),fun k o hk=>?_,fun p hp=>(by cases hp),fun k q hk=>?_,hR⟩
 ·obtain⟨hlt,x,a,b⟩:=hro k o hk;exact⟨k,0,x,hR k hlt,a,b _ hR⟩
 ·have hk':(if k<16 then some (k,0) else none)=some q:=hk;split at hk'
  ·assumption
  ·cases hk'
def xRenN(lo nx j:Nat):Nat:=match Nat.ble lo j with|true=>Nat.add (Nat.sub j lo) nx|false=>j
def xRenV(φ:Nat->Nat):CV->CV:=CV.rec (motive_1:=fun _=>CV) (motive_2:=fun _=>List CV) .bad (fun x=>.b x) (fun k n=>.i k n) (fun x=>.s x) .pn (fun k o=>.p (φ k) o) .sn (fun k o n kn c=>.sl (φ k) o n kn c) .mn (fun k=>.m (φ k)) .cn (fun _=>.bad) .fn (fun g _ _ a b=>.f g a b) (fun _=>.bad) .n (fun t _ a=>.a t a) (fun _ a=>.g a) (fun _ a=>.t a) [] (fun _ _ a b=>a::b)
def xRenL(φ:Nat->Nat)(l:List CV):List CV:=CV.rec_1 (motive_1:=fun _=>CV) (motive_2:=fun _=>List CV) .bad (fun x=>.b x) (fun k n=>.i k n) (fun x=>.s x) .pn (fun k o=>.p (φ k) o) .sn (fun k o n kn c=>.sl (φ k) o n kn c) .mn (fun k=>.m (φ k)) .cn (fun _=>.bad) .fn (fun g _ _ a b=>.f g a b) (fun _=>.bad) .n (fun t _ a=>.a t a) (fun _ a=>.g a) (fun _ a=>.t a) [] (fun _ _ a b=>a::b) l
theorem Aad(φ:Nat->Nat)(a:CV)(l:List CV):xRenL φ (a::l)=xRenV φ a::xRenL φ l:=rfl
theorem Byp(φ:Nat->Nat)(g:Nat)(xs ys:List CV):xRenV φ (.f g xs ys) = .f g (xRenL φ xs) (xRenL φ ys):=rfl
theorem Byo(φ:Nat->Nat)(t:Nat)(v:CV):xRenV φ (.a t v) = .a t (xRenV φ v):=rfl
theorem Byq(φ:Nat->Nat)(l:List CV):xRenV φ (.g l) = .g (xRenL φ l):=rfl
theorem Byr(φ:Nat->Nat)(l:List CV):xRenV φ (.t l) = .t (xRenL φ l):=rfl
def keysR(l:List CV):List Nat:=CV.rec_1 (motive_1:=fun _=>List Nat) (motive_2:=fun _=>List Nat) [] (fun _=>[]) (fun _ _=>[]) (fun _=>[]) [] (fun k _=>[k]) [] (fun k _ _ _ _=>[k]) [] (fun k=>[k]) [] (fun _=>[]) [] (fun _ _ _ a b=>xApp a b) (fun _=>[]) [] (fun _ _ a=>a) (fun _ a=>a) (fun _ a=>a) [] (fun _ _ a b=>xApp a b) l
theorem Yh:∀(l:List CV),keysR l=xKeysL l
 | []=>rfl
 | a::l=>by
  show xApp (xKeysV a) (keysR l)=xApp (xKeysV a) (xKeysL l);rw[Yh l]
theorem Bsw(g:Nat)(xs ys:List CV):xKeysV (.f g xs ys)=xKeysL xs++xKeysL ys:=by show xApp (keysR xs) (keysR ys)=_;rw[Yh,Yh,Lu]
theorem Bsv(t:Nat)(v:CV):xKeysV (.a t v)=xKeysV v:=rfl
theorem Bsx(l:List CV):xKeysV (.g l)=xKeysL l:=Yh l
theorem Bsy(l:List CV):xKeysV (.t l)=xKeysL l:=Yh l
theorem Es(a:CV)(l:List CV):xKeysL (a::l)=xKeysV a++xKeysL l:=Lu ..
def RenOk(φ:Nat->Nat)(R R':XR)(ks:List Nat):Prop:=∀j∈ks,∀z,R j=some z->R' (φ j)=some z
theorem RenOk.l{φ:Nat->Nat}{R R':XR}{a b:List Nat}(h:RenOk φ R R' (a++b)):RenOk φ R R' a:=fun j hj=>h j (Pw _ hj)
theorem RenOk.r{φ:Nat->Nat}{R R':XR}{a b:List Nat}(h:RenOk φ R R' (a++b)):RenOk φ R R' b:=fun j hj=>h j (Ol _ hj)
theorem VR.ren{φ:Nat->Nat}{R R':XR}{l:List CV}{l':List Value}(h:VR R l l'):RenOk φ R R' (xKeysL l)->VR R' (xRenL φ l) l':=by
 induction h with
 | nil=>exact fun _=>.nil
 | bad v _ ih=>intro k;rw[Es]at k;exact .bad v (ih k.r)
 | b x _ ih=>intro k;rw[Es]at k;exact .b x (ih k.r)
 | i a n _ ih=>intro k;rw[Es]at k;exact .i a n (ih k.r)
 | s x _ ih=>intro k;rw[Es]at k;exact .s x (ih k.r)
 | pn _ ih=>intro k;rw[Es]at k;exact .pn (ih k.r)
 | p h1 _ ih=>intro k;rw[Es]at k;exact .p (k.l _ (Mk.2 rfl) _ h1) (ih k.r)
 | sn _ ih=>intro k;rw[Es]at k;exact .sn (ih k.r)
 | slK h1 _ ih=>intro k;rw[Es]at k;exact .slK (k.l _ (Mk.2 rfl) _ h1) (ih k.r)
 | slU h1 _ ih=>intro k;rw[Es]at k;exact .slU (k.l _ (Mk.2 rfl) _ h1) (ih k.r)
 | mn _ ih=>intro k;rw[Es]at k;exact .mn (ih k.r)
 | m h1 _ ih=>intro k;rw[Es]at k;exact .m (k.l _ (Mk.2 rfl) _ h1) (ih k.r)
 | cn _ ih=>intro k;rw[Es]at k;exact .cn (ih k.r)
 | c h1 _ ih=>intro k;rw[Es]at k;exact .bad _ (ih k.r)
 | fn _ ih=>intro k;rw[Es]at k;exact .fn (ih k.r)
 | f g _ _ _ ih1 ih2 ih =>
  intro k;rw[Es,Bsw]at k;rw[Aad,Byp];exact .f g (ih1 k.l.l) (ih2 k.l.r) (ih k.r)
 | y h1 _ ih=>intro k;rw[Es]at k;exact .bad _ (ih k.r)
 | n _ ih=>intro k;rw[Es]at k;exact .n (ih k.r)
 | a t _ _ ih1 ih =>
  intro k;rw[Es,Bsv]at k;rw[Aad,Byo];refine .a t (ih1 ?_) (ih k.r);rw[Es,show xKeysL []=[] from rfl,Tb];exact k.l
 | g _ _ ih1 ih =>
  intro k;rw[Es,Bsx]at k;rw[Aad,Byq];exact .g (ih1 k.l) (ih k.r)
 | t _ _ ih1 ih =>
  intro k;rw[Es,Bsy]at k;rw[Aad,Byr];exact .t (ih1 k.l) (ih k.r)
def rowO:Option Nat->List CV->CO
 | none,l=>.cells l
 | some z,l=>.grow z l
def xSetRows(φ:Nat->Nat)(l:List (Nat×Option Nat×List CV)):Tr Cell->Tr Cell:=List.rec (motive:=fun _=>Tr Cell->Tr Cell) (fun M=>M) (fun a _ ih M=>ih (M.set (φ a.1) (.ro (rowO a.2.1 (xRenL φ a.2.2))))) l
def xRowKeys(l:List (Nat×Option Nat×List CV)):List Nat:=List.rec (motive:=fun _=>List Nat) [] (fun a _ ih=>a.1::ih) l
def xRecvM(m:Mem)(k n:Nat)(q:Ub)(rest:List Ub):Option (CV×Mem):=match xAllGe q.2.2.1 (xRowKeys q.2.1) with
 | true=>some (xRenV (xRenN q.2.2.1 m.nx) q.1,⟨xSetRows (xRenN q.2.2.1 m.nx) q.2.1 (m.put k (.crowd n rest)).M,Nat.add m.nx (Nat.sub q.2.2.2 q.2.2.1),k::m.log,Nat.succ m.ln,m.outs⟩)
 | false=>none
theorem Si(φ:Nat->Nat):∀(l:List (Nat×Option Nat×List CV)) (M:Tr Cell) (j:Nat),(xSetRows φ l M).get j=M.get j∨∃x∈l,j=φ x.1/\(xSetRows φ l M).get j=some (.ro (rowO x.2.1 (xRenL φ x.2.2)))
 | [],M,j=>.inl rfl
 | a::l,M,j=>by
  have e:xSetRows φ (a::l) M=xSetRows φ l (M.set (φ a.1) (.ro (rowO a.2.1 (xRenL φ a.2.2)))):=rfl;rw[e];rcases Si φ l (M.set (φ a.1) (.ro (rowO a.2.1 (xRenL φ a.2.2)))) j with h|⟨x,hx,h1,h2⟩
  ·rw[Tr.get_set]at h;by_cases hj:j=φ a.1
   ·rw[if_pos hj]at h;exact .inr ⟨a,Us ..,hj,h⟩
   ·rw[if_neg hj]at h;exact .inl h
  ·exact .inr ⟨x,lZ0 _ hx,h1,h2⟩
theorem Yx{x:Nat×Option Nat×List CV}:∀{l:List (Nat×Option Nat×List CV)},x∈l->x.1∈xRowKeys l
 | a::l,h=>by
  show x.1∈a.1::xRowKeys l;rcases lZ7.1 h with rfl|h
  ·exact Us ..
  ·exact lZ0 _ (Yx h)
theorem Bpi{R:XR}{m:Mem}{Y:Ro}{Z Z9:Own}{k n:Nat}{ms:List Ub}(hm:MemX R m Y Z Z9)(hk:m.M.get k=some (.own (.crowd n ms))):∃b c i Rs,R k=some (b,c)/\Z[i]?=some (b,Res.crowd n Rs)/\ms.length=Rs.length /\
  ∀(j:Nat) (r:Value->Ro->Prop) (v:Value) (Y1 Y':Ro),Rs[j]?=some r->r v Y1->Ro.le Y Y'->Ro.le Y1 Y'->∃q,ms[j]?=some q/\∀x m',xRecvM m k n q (ms.eraseIdx j)=some (x,m') ->
   ∃R',XR.le R R'/\V1 R' x v/\MemX R' m' Y' (Z.set i (b,Res.crowd n (Rs.eraseIdx j))) Z9:=by
 obtain⟨L,G,h⟩:=hm;obtain⟨b,c,r0,i,E,F,V,W⟩:=h.at hk (by simp);cases V with
 | @crowd _ _ Rs hms =>
  refine⟨b,c,i,Rs,E,F,hms.len,fun j r v Y1 Y' hj hv hle ZQ=>?_⟩;obtain⟨q,O,⟨R0,P,T,rfl⟩,U⟩:=hms.at hj;refine⟨q,O,fun x m' hx=>?_⟩;obtain⟨d,r1,r2,r3,r4⟩:=hv;unfold xRecvM at hx;split at hx
  ·rename_i hge;cases hx
   let lo:=q.2.2.1
   let R':XR:=fun j=>if j<m.nx then R j else d (j-m.nx+lo)
   have hlt:XR.le R R':=fun j z hz=>by
    show (if j<m.nx then R j else _)=_;rw[if_pos (h.lt _ _ hz)];exact hz
   have D:∀ks,(∀j∈ks,j∈xKeysM q)->RenOk (xRenN lo m.nx) d R' ks:=fun ks hks j hj z hz=>by
    unfold xRenN;cases hb:Nat.ble lo j with
    | true =>
     have hb:=lZ6 hb;show (if (j-lo)+m.nx<m.nx then _ else d ((j-lo)+m.nx-m.nx+lo))=_;rw[if_neg (by omega),show (j-lo)+m.nx-m.nx+lo=j by omega];exact hz
    | false =>
     have hb:j<lo:=by
      rcases Re j lo with a|a
      ·exact a
      ·rw[Bmg a]at hb;cases hb
     have a:=T j (hks j hj) hb;obtain⟨z0,J⟩:=Bbf.1 a;have:z0=z:=by have:=r1 _ _ J;rw[hz]at this;exact(Option.some.inj this).symm
     subst this;exact hlt _ _ (P _ _ J)
   have a0:=h.put (o':=.crowd n (ms.eraseIdx j)) (r':=.crowd n (Rs.eraseIdx j)) W E F (.crowd U);refine⟨R',hlt,?_,?_⟩
   ·have:VR d [q.1] [v]:=r2;exact this.ren (D _ fun j hj=>by
     rw[Es,show xKeysL []=[] from rfl,Tb]at hj;exact Pw _ hj)
   ·obtain⟨L',G',hp⟩:=a0;have H:∀x∈q.2.1,m.nx<=xRenN lo m.nx x.1:=fun x hx=>by
     have a:lo<=x.1:=Xz hge _ (Yx hx);unfold xRenN;rw[Bmg a];exact Nat.le_add_left _ _
    have old:∀j,j<m.nx->(xSetRows (xRenN lo m.nx) q.2.1 (m.put k (.crowd n (ms.eraseIdx j))).M).get j=(m.put k (.crowd n (ms.eraseIdx j))).M.get j:=fun j hj=>by
     rcases Si (xRenN lo m.nx) q.2.1 (m.put k (.crowd n (ms.eraseIdx j))).M j with a|⟨x,hx,e,_⟩
     ·exact a
     ·exact absurd (H x hx) (by omega)
    have a7:∀(M:Tr Cell) j',j'<m.nx->(xSetRows (xRenN lo m.nx) q.2.1 M).get j'=M.get j':=fun M j' hj'=>by
     rcases Si (xRenN lo m.nx) q.2.1 M j' with a|⟨x,hx,e,_⟩
     ·exact a
     ·exact absurd (H x hx) (by omega)
    refine⟨L',G',hp.perm,hp.nd,fun p hpp=>?_,fun j' o hj' hd=>?_,fun j' o hj'=>?_,hp.gar,fun j' z hz=>?_,fun j' hj'=>hlt _ _ (h.glob j' hj')⟩
    ·obtain⟨u,o1,f,w,g⟩:=hp.own p hpp;refine⟨u,o1,hlt _ _ f,?_,g.mono hlt⟩;exact(a7 _ _ (h.lt _ _ f)).trans w
    ·rcases Si (xRenN lo m.nx) q.2.1 (m.put k (.crowd n (ms.eraseIdx j))).M j' with a|⟨x,hx,e,a⟩
     ·exact hp.all j' o (a.symm.trans hj') hd
     ·have:some (Cell.own o)=some (.ro (rowO x.2.1 (xRenL (xRenN lo m.nx) x.2.2))):=hj'.symm.trans a;cases this
    ·rcases Si (xRenN lo m.nx) q.2.1 (m.put k (.crowd n (ms.eraseIdx j))).M j' with a|⟨x,hx,e,a⟩
     ·obtain⟨B,u,y,f,w,g⟩:=hp.ro j' o (a.symm.trans hj');exact⟨B,u,y,hlt _ _ f,hle _ _ w,g.mono hlt⟩
     ·have X:some (Cell.ro o)=some (.ro (rowO x.2.1 (xRenL (xRenN lo m.nx) x.2.2))):=hj'.symm.trans a;cases X;obtain⟨B,u,y,f,w,g⟩:=r3 x hx;have hr:=D [x.1];have YQ:R' (xRenN lo m.nx x.1)=some (B,u):=by
       have a:lo<=x.1:=Xz hge _ (Yx hx);unfold xRenN;rw[Bmg a];show (if (x.1-lo)+m.nx<m.nx then _ else d ((x.1-lo)+m.nx-m.nx+lo))=_;rw[if_neg (by omega),show (x.1-lo)+m.nx-m.nx+lo=x.1 by omega];exact f
      refine⟨B,u,y,by rw[e];exact YQ,ZQ _ _ w,?_⟩;have I:∀{l l':_},VR d l l'->l=x.2.2->VR R' (xRenL (xRenN lo m.nx) l) l':=fun {l l'} hl el=>hl.ren (D _ fun j hj=>by
       subst el;exact Ol _ (Aqe.2 ⟨x,hx,hj⟩))
      obtain⟨kx,zx,lx⟩:=x;cases zx with
      | none =>
       obtain⟨l',t,fz,rfl,C⟩:=g;exact⟨(0,0),.cells (I C rfl) (Aog _)⟩
      | some z =>
       obtain⟨l',rest,t,fz,rfl,C,K,N⟩:=g;exact⟨(0,0),.grow (I C rfl) K N (Aog _)⟩
    ·by_cases hj':j'<m.nx
     ·exact Nn hj' (Bmw _ _)
     ·have hz':d (j'-m.nx+lo)=some z:=by
       have:(if j'<m.nx then R j' else d (j'-m.nx+lo))=some z:=hz
       rwa[if_neg hj']at this
      have:=r4 _ _ hz';show j'<m.nx+(q.2.2.2-lo);omega
  ·cases hx
end
section
theorem Acv{en:List MapEntry}{ck:Nat}(hB:BornOk en ck){e:MapEntry}(he:e∈en):en[e.born]?=some e/\e.born<ck:=by obtain⟨i,hi⟩:=Sr he;have:=hB.at_ i e hi;rw[this];exact⟨hi,by rw[hB.ck];exact(lZ4.1 hi).1⟩
theorem Bjf{P:Program}{Y:Ro}{Z:Own}{r b i ck:Nat}{en:List MapEntry}{sn:List Nat}{ty:TypeId}{Q:Value->Own->Prop}(hB:BornOk en ck)(hi:Z[i]?=some (r,.obj (.mapIter (some b) ck sn.toArray ck)))(hm:Has Y Z b (.map en.toArray ck))
  (h0:(∀j,j<en.length->j∈sn)->Q (.tuple #[.bool false]) Z)
  (h1:∀j e,en[j]?=some e->j∉sn->Q (.tuple #[.bool true,e.key,e.val]) (Z.set i (r,.obj (.mapIter (some b) ck (sn++[j]).toArray ck)))) :
  wpS P Y (Instr.next (.pointer (some ⟨r,0,none⟩)) false ty) Z Q:=by
 show wpS P Y ((getObj r).bind _) Z _;rw[Ad];refine⟨_,.inr (lZ5 hi),rfl,?_⟩;show wpS P Y ((getObj b).bind _) Z _;rw[Ad];refine⟨_,hm,rfl,?_⟩;have hg:(!sn.toArray.isEmpty && !en.toArray.isEmpty&&en.toArray.all (·.born>=ck))=false:=by
  cases en with
  | nil=>simp
  | cons e l' =>
   have d:=(Acv hB (Us (a:=e) (l:=l'))).2;have:(e::l').toArray.all (·.born>=ck)=false:=by
    rw[<-Array.all_toList,Aqj,Px (by omega)];rfl
   rw[this,Bec]
 show wpS P Y (if (!sn.toArray.isEmpty && !en.toArray.isEmpty&&en.toArray.all (·.born>=ck))=true then _ else _) Z _;rw[if_neg (by rw[hg];exact Bool.false_ne_true)];have w:∀(q:MapEntry->Bool),(en.toArray.filter q).toList=en.filter q:=fun q=>by
  rw[Bmh]
 generalize hleft:en.toArray.filter (fun e=>!sn.toArray.contains e.born)=left;have f:left.toList=en.filter (fun e=>!sn.toArray.contains e.born):=by rw[<-hleft];exact w _
 have y:left.filter (·.born<ck)=left:=by
  apply Array.ext';rw[Bmh,List.filter_eq_self];intro e he;rw[f]at he;exact Qn (Acv hB (Ql.1 he).1).2
 have x:left.filter (·.born>=ck) = #[]:=by
  apply Array.ext';rw[Bmh];show _=[];rw[List.filter_eq_nil_iff];intro e he;rw[f]at he;have c:=(Acv hB (Ql.1 he).1).2;have g:¬e.born>=ck:=by omega
  simpa using g
 have k:∀j,sn.toArray.contains j=true↔j∈sn:=fun j=>by rw[List.contains_toArray,Awk]
 have z:∀e,e∈en.filter (fun e=>!sn.toArray.contains e.born)->e∈en/\e.born∉sn:=fun e he=>by
  obtain⟨d,c⟩:=Ql.1 he;refine⟨d,fun g=>?_⟩;rw[(k _).2 g]at c;cases c
 dsimp only;simp only[y,x,Adt];have hgo:∀e,e∈en/\e.born∉sn->wpS P Y (Sem.bind (setObj r (.mapIter (some b) ck (sn.toArray.push e.born) ck)) fun _=>Sem.pure (.tuple #[.bool true,e.key,e.val])) Z Q:=by
  rintro e ⟨d,c⟩;rw[Ad];refine⟨rfl,i,_,hi,rfl,?_⟩;have:=h1 e.born e (Acv hB d).1 c;have n:(sn++[e.born]).toArray=sn.toArray.push e.born:=by simp
  rw[n]at this;exact this
 cases hl:left.toList with
 | nil =>
  have:left = #[]:=by apply Array.ext';exact hl
  subst this;have v:∀j,j<en.length->j∈sn:=fun j hj=>by
   rcases Classical.em (j∈sn) with h|h
   ·exact h
   ·exfalso;have hej:=Qj hj;have hb:=hB.at_ j _ hej;have:en[j]∈en.filter (fun e=>!sn.toArray.contains e.born):=Ql.2 ⟨Awv hj,by
     rw[hb];cases hc:sn.toArray.contains j with
     | false=>rfl
     | true=>exact absurd ((k _).1 hc) h⟩
    rw[<-f]at this;cases this
  have u:((if (#[]:Array MapEntry).isEmpty=true then #[none] else #[])++Array.map some (#[]:Array MapEntry)) = #[none]:=by simp
  rw[u];show wpS P Y (Sem.bind (choose (.mapNext 1)) _) Z _;rw[Ad];exact h0 v
 | cons e0 l' =>
  have hne:left.isEmpty=false:=by
   rw[<-Array.isEmpty_toList,hl];rfl
  have hsz:left.size=l'.length+1:=by rw[<-Array.length_toList,hl];rfl
  have hat:∀j,j<left.size->∃e,left[j]?=some e/\(e∈en/\e.born∉sn):=fun j hj=>by
   refine⟨left[j],Blv hj,?_⟩;have m:left[j]∈left.toList:=Array.getElem_mem_toList hj;rw[f]at m;exact z _ m
  rw[hne];simp only[Aii,if_false,Abm,Array.size_map];show wpS P Y (Sem.bind (choose (.mapNext left.size)) _) Z _;rw[Ad];show (if (Question.mapNext left.size).forced=true then _ else _);split
  ·obtain⟨e,d,c⟩:=hat 0 (by omega);simp only[wpS,Bds,d,Aoq];exact hgo e c
  ·intro t;obtain⟨e,d,c⟩:=hat (t%left.size) (Axb _ (by omega));have p:(Question.mapNext left.size).cut t=t%left.size:=rfl;simp only[wpS,p,Bds,d,Aoq];exact hgo e c
end
end
end Go.Proofs.YtfeahfjambednaaGreatDoor
