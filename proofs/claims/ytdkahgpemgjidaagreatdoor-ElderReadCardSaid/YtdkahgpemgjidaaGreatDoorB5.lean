/- Part 5 of what all laws of layer 8 need: a logic of programs that start goroutines, and what the functions yield. -/
import Derived.Test.YtdkahgpemgjidaaGreatDoorB4
import Derived.KernelRfl
set_option linter.unusedVariables false
set_option linter.unusedSimpArgs false
set_option maxRecDepth 100000
set_option maxHeartbeats 4000000
namespace Go.Proofs.YtdkahgpemgjidaaGreatDoor
section
open Go Go.Conc
noncomputable def xRenN(lo nx j:Nat):Nat:=match Nat.ble lo j with|true=>Nat.add (Nat.sub j lo) nx|false=>j
noncomputable def xRenV(φ:Nat→Nat):CV→CV:=CV.rec (motive_1:=fun _=>CV) (motive_2:=fun _=>List CV) .bad (fun x=>.b x) (fun k n=>.i k n) (fun x=>.s x) .pn (fun k o=>.p (φ k) o) .sn (fun k o n kn c=>.sl (φ k) o n kn c) .mn (fun k=>.m (φ k)) .cn (fun _=>.bad) .fn (fun g _ _ a b=>.f g a b) (fun _=>.bad) .n (fun t _ a=>.a t a) (fun _ a=>.g a) (fun _ a=>.t a) [] (fun _ _ a b=>a::b)
noncomputable def xRenL(φ:Nat→Nat)(l:List CV):List CV:=CV.rec_1 (motive_1:=fun _=>CV) (motive_2:=fun _=>List CV) .bad (fun x=>.b x) (fun k n=>.i k n) (fun x=>.s x) .pn (fun k o=>.p (φ k) o) .sn (fun k o n kn c=>.sl (φ k) o n kn c) .mn (fun k=>.m (φ k)) .cn (fun _=>.bad) .fn (fun g _ _ a b=>.f g a b) (fun _=>.bad) .n (fun t _ a=>.a t a) (fun _ a=>.g a) (fun _ a=>.t a) [] (fun _ _ a b=>a::b) l
theorem Qa(φ:Nat→Nat)(a:CV)(l:List CV):xRenL φ (a::l)=xRenV φ a::xRenL φ l:=rfl
theorem Bfm(φ:Nat→Nat)(g:Nat)(xs ys:List CV):xRenV φ (.f g xs ys) = .f g (xRenL φ xs) (xRenL φ ys):=rfl
theorem Bfl(φ:Nat→Nat)(t:Nat)(v:CV):xRenV φ (.a t v) = .a t (xRenV φ v):=rfl
theorem Bfn(φ:Nat→Nat)(l:List CV):xRenV φ (.g l) = .g (xRenL φ l):=rfl
theorem Bfo(φ:Nat→Nat)(l:List CV):xRenV φ (.t l) = .t (xRenL φ l):=rfl
noncomputable def keysR(l:List CV):List Nat:=CV.rec_1 (motive_1:=fun _=>List Nat) (motive_2:=fun _=>List Nat) [] (fun _=>[]) (fun _ _=>[]) (fun _=>[]) [] (fun k _=>[k]) [] (fun k _ _ _ _=>[k]) [] (fun k=>[k]) [] (fun _=>[]) [] (fun _ _ _ a b=>xApp a b) (fun _=>[]) [] (fun _ _ a=>a) (fun _ a=>a) (fun _ a=>a) [] (fun _ _ a b=>xApp a b) l
theorem Oq:∀(l:List CV),keysR l=xKeysL l
 | []=>rfl
 | a::l=>by
  show xApp (xKeysV a) (keysR l)=xApp (xKeysV a) (xKeysL l)
  rw[Oq l]
theorem Ban(g:Nat)(xs ys:List CV):xKeysV (.f g xs ys)=xKeysL xs++xKeysL ys:=by
 show xApp (keysR xs) (keysR ys)=_
 rw[Oq,Oq,Et]
theorem Bam(t:Nat)(v:CV):xKeysV (.a t v)=xKeysV v:=rfl
theorem Bao(l:List CV):xKeysV (.g l)=xKeysL l:=Oq l
theorem Bap(l:List CV):xKeysV (.t l)=xKeysL l:=Oq l
theorem Bf(a:CV)(l:List CV):xKeysL (a::l)=xKeysV a++xKeysL l:=Et ..
/-- Numbers are told otherwise. -/
def RenOk(φ:Nat→Nat)(R R':XR)(ks:List Nat):Prop:=∀j∈ks,∀z,R j=some z→R' (φ j)=some z
theorem RenOk.l{φ:Nat→Nat}{R R':XR}{a b:List Nat}(h:RenOk φ R R' (a++b)):RenOk φ R R' a:=fun j hj=>h j (Ia _ hj)
theorem RenOk.r{φ:Nat→Nat}{R R':XR}{a b:List Nat}(h:RenOk φ R R' (a++b)):RenOk φ R R' b:=fun j hj=>h j (Hb _ hj)
theorem VR.ren{φ:Nat→Nat}{R R':XR}{l:List CV}{l':List Value}(h:VR R l l'):RenOk φ R R' (xKeysL l)→VR R' (xRenL φ l) l':=by
 induction h with
 | nil=>exact fun _=>.nil
 | bad v _ ih=>intro k;rw[Bf]at k;exact .bad v (ih k.r)
 | b x _ ih=>intro k;rw[Bf]at k;exact .b x (ih k.r)
 | i a n _ ih=>intro k;rw[Bf]at k;exact .i a n (ih k.r)
 | s x _ ih=>intro k;rw[Bf]at k;exact .s x (ih k.r)
 | pn _ ih=>intro k;rw[Bf]at k;exact .pn (ih k.r)
 | p h1 _ ih=>intro k;rw[Bf]at k;exact .p (k.l _ (Jd.2 rfl) _ h1) (ih k.r)
 | sn _ ih=>intro k;rw[Bf]at k;exact .sn (ih k.r)
 | slK h1 _ ih=>intro k;rw[Bf]at k;exact .slK (k.l _ (Jd.2 rfl) _ h1) (ih k.r)
 | slU h1 _ ih=>intro k;rw[Bf]at k;exact .slU (k.l _ (Jd.2 rfl) _ h1) (ih k.r)
 | mn _ ih=>intro k;rw[Bf]at k;exact .mn (ih k.r)
 | m h1 _ ih=>intro k;rw[Bf]at k;exact .m (k.l _ (Jd.2 rfl) _ h1) (ih k.r)
 | cn _ ih=>intro k;rw[Bf]at k;exact .cn (ih k.r)
 | c h1 _ ih=>intro k;rw[Bf]at k;exact .bad _ (ih k.r)
 | fn _ ih=>intro k;rw[Bf]at k;exact .fn (ih k.r)
 | f g _ _ _ ih1 ih2 ih =>
  intro k
  rw[Bf,Ban]at k
  rw[Qa,Bfm]
  exact .f g (ih1 k.l.l) (ih2 k.l.r) (ih k.r)
 | y h1 _ ih=>intro k;rw[Bf]at k;exact .bad _ (ih k.r)
 | n _ ih=>intro k;rw[Bf]at k;exact .n (ih k.r)
 | a t _ _ ih1 ih =>
  intro k
  rw[Bf,Bam]at k
  rw[Qa,Bfl]
  refine .a t (ih1 ?_) (ih k.r)
  rw[Bf,show xKeysL []=[] from rfl,Jt]
  exact k.l
 | g _ _ ih1 ih =>
  intro k
  rw[Bf,Bao]at k
  rw[Qa,Bfn]
  exact .g (ih1 k.l) (ih k.r)
 | t _ _ ih1 ih =>
  intro k
  rw[Bf,Bap]at k
  rw[Qa,Bfo]
  exact .t (ih1 k.l) (ih k.r)
noncomputable def rowO:Option Nat→List CV→CO
 | none,l=>.cells l
 | some z,l=>.grow z l
noncomputable def xSetRows(φ:Nat→Nat)(l:List (Nat×Option Nat×List CV)):Tr Cell→Tr Cell:=List.rec (motive:=fun _=>Tr Cell→Tr Cell) (fun M=>M) (fun a _ ih M=>ih (M.set (φ a.1) (.ro (rowO a.2.1 (xRenL φ a.2.2))))) l
noncomputable def xRowKeys(l:List (Nat×Option Nat×List CV)):List Nat:=List.rec (motive:=fun _=>List Nat) [] (fun a _ ih=>a.1::ih) l
noncomputable def xRecvM(m:Mem)(k n:Nat)(q:Ll)(rest:List Ll):Option (CV×Mem):=match xAllGe q.2.2.1 (xRowKeys q.2.1) with
 | true=>some (xRenV (xRenN q.2.2.1 m.nx) q.1,⟨xSetRows (xRenN q.2.2.1 m.nx) q.2.1 (m.put k (.crowd n rest)).M,Nat.add m.nx (Nat.sub q.2.2.2 q.2.2.1),k::m.log,Nat.succ m.ln,m.outs⟩)
 | false=>none
theorem Ji(φ:Nat→Nat):∀(l:List (Nat×Option Nat×List CV)) (M:Tr Cell) (j:Nat),(xSetRows φ l M).get j=M.get j∨∃x∈l,j=φ x.1∧(xSetRows φ l M).get j=some (.ro (rowO x.2.1 (xRenL φ x.2.2)))
 | [],M,j=>.inl rfl
 | a::l,M,j=>by
  have e:xSetRows φ (a::l) M=xSetRows φ l (M.set (φ a.1) (.ro (rowO a.2.1 (xRenL φ a.2.2)))):=rfl
  rw[e]
  rcases Ji φ l (M.set (φ a.1) (.ro (rowO a.2.1 (xRenL φ a.2.2)))) j with h|⟨x,hx,h1,h2⟩
  ·rw[Tr.get_set]at h
   by_cases hj:j=φ a.1
   ·rw[if_pos hj]at h
    exact .inr ⟨a,Me ..,hj,h⟩
   ·rw[if_neg hj]at h
    exact .inl h
  ·exact .inr ⟨x,lZ0 _ hx,h1,h2⟩
theorem Pc{x:Nat×Option Nat×List CV}:∀{l:List (Nat×Option Nat×List CV)},x∈l→x.1∈xRowKeys l
 | a::l,h=>by
  show x.1∈a.1::xRowKeys l
  rcases lZ5.1 h with rfl|h
  ·exact Me ..
  ·exact lZ0 _ (Pc h)
theorem Axv{R:XR}{m:Mem}{ρ:Ro}{σ σ₀:Own}{k n:Nat}{ms:List Ll}(hm:MemX R m ρ σ σ₀)(hk:m.M.get k=some (.own (.crowd n ms))):∃b c i Rs,R k=some (b,c)∧σ[i]?=some (b,Res.crowd n Rs)∧ms.length=Rs.length ∧
  ∀(j:Nat) (r:Value→Ro→Prop) (v:Value) (ρ1 ρ':Ro),Rs[j]?=some r→r v ρ1→Ro.le ρ ρ'→Ro.le ρ1 ρ'→∃q,ms[j]?=some q∧∀x m',xRecvM m k n q (ms.eraseIdx j)=some (x,m') →
   ∃R',XR.le R R'∧V1 R' x v∧MemX R' m' ρ' (σ.set i (b,Res.crowd n (Rs.eraseIdx j))) σ₀:=by
 obtain⟨L,G,h⟩:=hm
 obtain⟨b,c,r0,i,E,F,V,W⟩:=h.at hk (by simp)
 cases V with
 | @crowd _ _ Rs hms =>
  refine⟨b,c,i,Rs,E,F,hms.len,fun j r v ρ1 ρ' hj hv hle Z=>?_⟩
  obtain⟨q,O,⟨R0,P,T,rfl⟩,U⟩:=hms.at hj
  refine⟨q,O,fun x m' hx=>?_⟩
  obtain⟨d,r1,r2,r3,r4⟩:=hv
  unfold xRecvM at hx
  split at hx
  ·rename_i hge
   cases hx
   let lo:=q.2.2.1
   let R':XR:=fun j=>if j<m.nx then R j else d (j-m.nx+lo)
   have hlt:XR.le R R':=fun j z hz=>by
    show (if j<m.nx then R j else _)=_
    rw[if_pos (h.lt _ _ hz)];exact hz
   have D:∀ks,(∀j∈ks,j∈xKeysM q)→RenOk (xRenN lo m.nx) d R' ks:=fun ks hks j hj z hz=>by
    unfold xRenN
    cases hb:Nat.ble lo j with
    | true =>
     have hb:=lZ2 hb
     show (if (j-lo)+m.nx<m.nx then _ else d ((j-lo)+m.nx-m.nx+lo))=_
     rw[if_neg (by omega),show (j-lo)+m.nx-m.nx+lo=j by omega];exact hz
    | false =>
     have hb:j<lo:=by
      rcases Mi j lo with a|a
      ·exact a
      ·rw[Avm a]at hb;cases hb
     have a:=T j (hks j hj) hb
     obtain⟨z0,J⟩:=Amj.1 a
     have:z0=z:=by have:=r1 _ _ J;rw[hz]at this;exact(Option.some.inj this).symm
     subst this
     exact hlt _ _ (P _ _ J)
   have a0:=h.put (o':=.crowd n (ms.eraseIdx j)) (r':=.crowd n (Rs.eraseIdx j)) W E F (.crowd U)
   refine⟨R',hlt,?_,?_⟩
   ·have:VR d [q.1] [v]:=r2
    exact this.ren (D _ fun j hj=>by
     rw[Bf,show xKeysL []=[] from rfl,Jt]at hj
     exact Ia _ hj)
   ·obtain⟨L',G',hp⟩:=a0
    have H:∀x∈q.2.1,m.nx≤xRenN lo m.nx x.1:=fun x hx=>by
     have a:lo≤x.1:=Of hge _ (Pc hx)
     unfold xRenN
     rw[Avm a]
     exact Nat.le_add_left _ _
    have old:∀j,j<m.nx→(xSetRows (xRenN lo m.nx) q.2.1 (m.put k (.crowd n (ms.eraseIdx j))).M).get j=(m.put k (.crowd n (ms.eraseIdx j))).M.get j:=fun j hj=>by
     rcases Ji (xRenN lo m.nx) q.2.1 (m.put k (.crowd n (ms.eraseIdx j))).M j with a|⟨x,hx,e,_⟩
     ·exact a
     ·exact absurd (H x hx) (by omega)
    have a7:∀(M:Tr Cell) j',j'<m.nx→(xSetRows (xRenN lo m.nx) q.2.1 M).get j'=M.get j':=fun M j' hj'=>by
     rcases Ji (xRenN lo m.nx) q.2.1 M j' with a|⟨x,hx,e,_⟩
     ·exact a
     ·exact absurd (H x hx) (by omega)
    refine⟨L',G',hp.perm,hp.nd,fun p hpp=>?_,fun j' o hj' hd=>?_,fun j' o hj'=>?_,hp.gar,fun j' z hz=>?_,fun j' hj'=>hlt _ _ (h.glob j' hj')⟩
    ·obtain⟨u,o1,f,w,g⟩:=hp.own p hpp
     refine⟨u,o1,hlt _ _ f,?_,g.mono hlt⟩
     exact(a7 _ _ (h.lt _ _ f)).trans w
    ·rcases Ji (xRenN lo m.nx) q.2.1 (m.put k (.crowd n (ms.eraseIdx j))).M j' with a|⟨x,hx,e,a⟩
     ·exact hp.all j' o (a.symm.trans hj') hd
     ·have:some (Cell.own o)=some (.ro (rowO x.2.1 (xRenL (xRenN lo m.nx) x.2.2))):=hj'.symm.trans a
      cases this
    ·rcases Ji (xRenN lo m.nx) q.2.1 (m.put k (.crowd n (ms.eraseIdx j))).M j' with a|⟨x,hx,e,a⟩
     ·obtain⟨B,u,y,f,w,g⟩:=hp.ro j' o (a.symm.trans hj')
      exact⟨B,u,y,hlt _ _ f,hle _ _ w,g.mono hlt⟩
     ·have X:some (Cell.ro o)=some (.ro (rowO x.2.1 (xRenL (xRenN lo m.nx) x.2.2))):=hj'.symm.trans a
      cases X
      obtain⟨B,u,y,f,w,g⟩:=r3 x hx
      have hr:=D [x.1]
      have Y:R' (xRenN lo m.nx x.1)=some (B,u):=by
       have a:lo≤x.1:=Of hge _ (Pc hx)
       unfold xRenN
       rw[Avm a]
       show (if (x.1-lo)+m.nx<m.nx then _ else d ((x.1-lo)+m.nx-m.nx+lo))=_
       rw[if_neg (by omega),show (x.1-lo)+m.nx-m.nx+lo=x.1 by omega];exact f
      refine⟨B,u,y,by rw[e];exact Y,Z _ _ w,?_⟩
      have I:∀{l l':_},VR d l l'→l=x.2.2→VR R' (xRenL (xRenN lo m.nx) l) l':=fun {l l'} hl el=>hl.ren (D _ fun j hj=>by
       subst el
       exact Hb _ (Avv.2 ⟨x,hx,hj⟩))
      obtain⟨kx,zx,lx⟩:=x
      cases zx with
      | none =>
       obtain⟨l',t,fz,rfl,C⟩:=g
       exact⟨(0,0),.cells (I C rfl) (Aay _)⟩
      | some z =>
       obtain⟨l',rest,t,fz,rfl,C,K,N⟩:=g
       exact⟨(0,0),.grow (I C rfl) K N (Aay _)⟩
    ·by_cases hj':j'<m.nx
     ·exact Je hj' (Avx _ _)
     ·have hz':d (j'-m.nx+lo)=some z:=by
       have:(if j'<m.nx then R j' else d (j'-m.nx+lo))=some z:=hz
       rwa[if_neg hj']at this
      have:=r4 _ _ hz'
      show j'<m.nx+(q.2.2.2-lo)
      omega
  ·cases hx
end
section
open Go
theorem Se{en:List MapEntry}{ck:Nat}(hB:BornOk en ck){e:MapEntry}(he:e∈en):en[e.born]?=some e∧e.born<ck:=by
 obtain⟨i,hi⟩:=We he
 have:=hB.at_ i e hi
 rw[this]
 exact⟨hi,by rw[hB.ck];exact(lZ8.1 hi).1⟩
theorem Atf{P:Program}{ρ:Ro}{σ:Own}{r b i ck:Nat}{en:List MapEntry}{sn:List Nat}{ty:TypeId}{Q:Value→Own→Prop}(hB:BornOk en ck)(hi:σ[i]?=some (r,.obj (.mapIter (some b) ck sn.toArray ck)))(hm:Has ρ σ b (.map en.toArray ck))
  (h0:(∀j,j<en.length→j∈sn)→Q (.tuple #[.bool false]) σ)
  (h1:∀j e,en[j]?=some e→j∉sn→Q (.tuple #[.bool true,e.key,e.val]) (σ.set i (r,.obj (.mapIter (some b) ck (sn++[j]).toArray ck)))) :
  wpS P ρ (Instr.next (.pointer (some ⟨r,0,none⟩)) false ty) σ Q:=by
 show wpS P ρ ((getObj r).bind _) σ _
 rw[Ad]
 refine⟨_,.inr (lZ3 hi),rfl,?_⟩
 show wpS P ρ ((getObj b).bind _) σ _
 rw[Ad]
 refine⟨_,hm,rfl,?_⟩
 have hg:(!sn.toArray.isEmpty && !en.toArray.isEmpty&&en.toArray.all (·.born≥ck))=false:=by
  cases en with
  | nil=>simp
  | cons e l' =>
   have d:=(Se hB (Me (a:=e) (l:=l'))).2
   have:(e::l').toArray.all (·.born≥ck)=false:=by
    rw[←Array.all_toList,Yt,Sq (by omega)];rfl
   rw[this,Ait]
 show wpS P ρ (if (!sn.toArray.isEmpty && !en.toArray.isEmpty&&en.toArray.all (·.born≥ck))=true then _ else _) σ _
 rw[if_neg (by rw[hg];exact Bool.false_ne_true)]
 have w:∀(q:MapEntry→Bool),(en.toArray.filter q).toList=en.filter q:=fun q=>by
  rw[Avn]
 generalize hleft:en.toArray.filter (fun e=>!sn.toArray.contains e.born)=left
 have f:left.toList=en.filter (fun e=>!sn.toArray.contains e.born):=by rw[←hleft];exact w _
 have y:left.filter (·.born<ck)=left:=by
  apply Array.ext'
  rw[Avn,List.filter_eq_self]
  intro e he
  rw[f]at he
  exact Nl (Se hB (Lp.1 he).1).2
 have x:left.filter (·.born≥ck) = #[]:=by
  apply Array.ext'
  rw[Avn]
  show _=[]
  rw[List.filter_eq_nil_iff]
  intro e he
  rw[f]at he
  have c:=(Se hB (Lp.1 he).1).2
  have g:¬e.born≥ck:=by omega
  simpa using g
 have k:∀j,sn.toArray.contains j=true↔j∈sn:=fun j=>by rw[List.contains_toArray,List.contains_iff_mem]
 have z:∀e,e∈en.filter (fun e=>!sn.toArray.contains e.born)→e∈en∧e.born∉sn:=fun e he=>by
  obtain⟨d,c⟩:=Lp.1 he
  refine⟨d,fun g=>?_⟩
  rw[(k _).2 g]at c;cases c
 dsimp only
 simp only[y,x,Sn]
 have hgo:∀e,e∈en∧e.born∉sn→wpS P ρ (Sem.bind (setObj r (.mapIter (some b) ck (sn.toArray.push e.born) ck)) fun _=>Sem.pure (.tuple #[.bool true,e.key,e.val])) σ Q:=by
  rintro e ⟨d,c⟩
  rw[Ad]
  refine⟨rfl,i,_,hi,rfl,?_⟩
  have:=h1 e.born e (Se hB d).1 c
  have n:(sn++[e.born]).toArray=sn.toArray.push e.born:=by simp
  rw[n]at this
  exact this
 cases hl:left.toList with
 | nil =>
  have:left = #[]:=by apply Array.ext';exact hl
  subst this
  have v:∀j,j<en.length→j∈sn:=fun j hj=>by
   rcases Classical.em (j∈sn) with h|h
   ·exact h
   ·exfalso
    have hej:=Qq hj
    have hb:=hB.at_ j _ hej
    have:en[j]∈en.filter (fun e=>!sn.toArray.contains e.born):=Lp.2 ⟨Aot hj,by
     rw[hb]
     cases hc:sn.toArray.contains j with
     | false=>rfl
     | true=>exact absurd ((k _).1 hc) h⟩
    rw[←f]at this
    cases this
  have u:((if (#[]:Array MapEntry).isEmpty=true then #[none] else #[])++Array.map some (#[]:Array MapEntry)) = #[none]:=by simp
  rw[u]
  show wpS P ρ (Sem.bind (choose (.mapNext 1)) _) σ _
  rw[Ad]
  exact h0 v
 | cons e0 l' =>
  have hne:left.isEmpty=false:=by
   rw[←Array.isEmpty_toList,hl];rfl
  have hsz:left.size=l'.length+1:=by rw[←Array.length_toList,hl];rfl
  have hat:∀j,j<left.size→∃e,left[j]?=some e∧(e∈en∧e.born∉sn):=fun j hj=>by
   refine⟨left[j],Avh hj,?_⟩
   have m:left[j]∈left.toList:=Array.getElem_mem_toList hj
   rw[f]at m
   exact z _ m
  rw[hne]
  simp only[Zc,if_false,Rk,Array.size_map]
  show wpS P ρ (Sem.bind (choose (.mapNext left.size)) _) σ _
  rw[Ad]
  show (if (Question.mapNext left.size).forced=true then _ else _)
  split
  ·obtain⟨e,d,c⟩:=hat 0 (by omega)
   simp only[wpS,Aoq,d,Ze]
   exact hgo e c
  ·intro t
   obtain⟨e,d,c⟩:=hat (t%left.size) (Nat.mod_lt _ (by omega))
   have p:(Question.mapNext left.size).cut t=t%left.size:=rfl
   simp only[wpS,p,Aoq,d,Ze]
   exact hgo e c
end
section
open Go Go.Conc
structure KNT where
 run:Fns→St→(St→Bool)→Bool
structure KNC where
 run:Fns→St→(R→Bool)→Bool
/-- Each message,with the others. -/
noncomputable def xPicks(f:Ll→List Ll→Bool)(l:List Ll):List Ll→Bool:=List.rec (motive:=fun _=>List Ll→Bool) (fun _=>true) (fun a l ih pre=>match f a (xApp pre l) with|true=>ih (xApp pre [a])|false=>false) l
noncomputable def xNextOp:Op→Option Operand
 | .next x false=>some x
 | _=>none
noncomputable def xHasN(k:Nat)(l:List Nat):Bool:=List.rec (motive:=fun _=>Bool) false (fun a _ ih=>match Nat.beq a k with|true=>true|false=>ih) l
/-- Each entry that has not been shown. -/
noncomputable def xNexts(f:Nat→CV×CV→Bool)(seen:List Nat)(l:List (CV×CV)):Nat→Bool:=List.rec (motive:=fun _=>Nat→Bool) (fun _=>true)
 (fun a _ ih i=>match xHasN i seen with
  | true=>ih (Nat.succ i)
  | false=>match f i a with|true=>ih (Nat.succ i)|false=>false) l
noncomputable def xAllSeen(seen:List Nat)(n:Nat):Bool:=Nat.rec (motive:=fun _=>Bool) true (fun i ih=>match xHasN i seen with|true=>ih|false=>false) n
/-- The next entry,whichever. -/
noncomputable def ndN(st:St)(r:Nat)(k:CV→Mem→Bool):Bool:=match st.m.M.get r with
 | some (.own (.iter mk n seen))=>match st.m.obj mk with
  | some (.map es)=>match Nat.beq (xLen es) n with
   | true=>match xAllSeen seen n with
    | true=>k (.t [.b false]) st.m
    | false=>xNexts (fun i a=>k (.t [.b true,a.1,a.2]) (st.m.put r (.iter mk n (xApp seen [i])))) seen es 0
   | false=>false
  | _=>false
 | _=>false
noncomputable def ndT(P:Program)(l:List Oper):List Oper→KNT
 | []=>⟨fun _ st k=>k st⟩
 | o::r=>match opK P o.op,dstK o.dst,guardK l o,gokK l o,ndT P l r with
  | ⟨f⟩,⟨d⟩,⟨g⟩,⟨gk⟩,⟨t⟩=>⟨fun F st k=>match gk st.e with
   | false=>false
   | true=>match g st.e with
    | false=>t F ⟨d st.e .undef,st.m,st.ds⟩ k
    | true=>match xNextOp o.op with
     | some x=>match (rdK x).run st.e with
      | .p r 0=>ndN st r (fun y m=>t F ⟨d st.e y,m,st.ds⟩ k)
      | _=>false
     | none=>match f st.e st.m with
      | .recv c false=>match st.m.M.get c with
       | some (.own (.crowd n (q::ms)))=>xPicks (fun q rest=>match xRecvM st.m c n q rest with
        | some (x,m)=>t F ⟨d st.e x,m,st.ds⟩ k
        | none=>false) (q::ms) []
       | _=>false
      | y=>match doX1 F none st y with
       | .v x m ds=>t F ⟨d st.e x,m,ds⟩ k
       | .bad=>false⟩
/-- It receives one value from somewhere. -/
noncomputable def xRecvOp(o:Oper):Bool:=match o.op with
 | .recv _ _ false=>true
 | .next _ false=>true
 | _=>false
noncomputable def xHasR(ids:List Nat):Code→Bool
 | .region i ops _=>match xHasN i ids with|true=>true|false=>ops.toList.any xRecvOp
 | .seq a b=>xHasR ids a||xHasR ids b
 | .cond _ a b=>xHasR ids a||xHasR ids b
 | .block _ a=>xHasR ids a
 | .loop a=>xHasR ids a
 | .scope a=>xHasR ids a
 | _=>false
noncomputable def detN(P:Program)(n:Nat)(c:Code):KNC:=match codeK P doX n c with
 | ⟨f⟩=>⟨fun F st k=>match f F none st with | .bad=>false|y=>k y⟩
noncomputable def xLoopN(f:Fns→St→(R→Bool)→Bool)(F:Fns)(k:R→Bool)(n:Nat):St→Bool:=Nat.rec (motive:=fun _=>St→Bool) (fun _=>false)
 (fun _ ih st=>f F st (fun y=>match y with | .n st=>ih st|y=>k y)) n
/-- One operation. -/
noncomputable def xStepA(P:Program)(F:Fns)(l:List Oper)(st:St)(o:Oper):Option St:=match (gokK l o).run st.e with
 | true=>match (match (guardK l o).run st.e with|false=>OV.v .undef st.m st.ds|true=>doOR F st ((opK P o.op).run st.e st.m)) with
  | .v x m ds=>some ⟨(dstK o.dst).run st.e x,m,ds⟩
  | .bad=>none
 | false=>none
/-- It may be taken first,and looks at nothing. -/
noncomputable def xPureA(P:Program)(l:List Oper)(li:List Bool)(st:St)(i:Nat):Option St:=match xTake l li i,l[i]? with
 | true,some o=>match (gokK l o).run st.e with
  | true=>match (guardK l o).run st.e with
   | false=>some ⟨(dstK o.dst).run st.e .undef,st.m,st.ds⟩
   | true=>match (opK P o.op).run st.e st.m with
    | .v x m=>match Nat.beq m.nx st.m.nx with|true=>some ⟨(dstK o.dst).run st.e x,st.m,st.ds⟩|false=>none
    | _=>none
  | false=>none
 | _,_=>none
noncomputable def xFirstP(f:Nat→Option St)(l:List Nat):Option (Nat×St):=List.rec (motive:=fun _=>Option (Nat×St)) none (fun a _ ih=>match f a with|some s=>some (a,s)|none=>ih) l
noncomputable def xAllN(f:Nat→Bool)(l:List Nat):Bool:=List.rec (motive:=fun _=>Bool) true (fun a _ ih=>match f a with|true=>ih|false=>false) l
/-- A drawn region,in every order. -/
noncomputable def ndA(P:Program)(F:Fns)(l:List Oper)(k:St→Bool)(n:Nat):List Bool→St→Bool:=Nat.rec (motive:=fun _=>List Bool→St→Bool) (fun li st=>match Dl l li with|[]=>k st|_::_=>false)
 (fun _ ih li st=>match Dl l li with
  | []=>k st
  | a::r=>match xFirstP (xPureA P l li st) (a::r) with
   | some (i,st')=>ih (li.set i true) st'
   | none=>xAllN (fun i=>match l[i]? with|some o=>(match xStepA P F l st o with|some st'=>ih (li.set i true) st'|none=>false)|none=>false) (a::r)) n
noncomputable def ndReg(P:Program)(ids:List Nat)(n i:Nat)(ops:Array Oper)(draw:Bool):KNC:=match ops.toList.any xRecvOp,draw,xSlotsN n ops.toList with
 | true,false,true=>match ndT P ops.toList ops.toList with|⟨t⟩=>⟨fun F st k=>t F st (fun st=>k (.n st))⟩
 | true,_,_=>⟨fun _ _ _=>false⟩
 | false,true,true=>match xHasN i ids,Apw ops.toList,P.follows .mixedOrders with
  | true,true,true=>⟨fun F st k=>ndA P F ops.toList (fun st=>k (.n st)) ops.toList.length (List.replicate ops.toList.length false) st⟩
  | _,_,_=>detN P n (.region i ops true)
 | false,_,_=>detN P n (.region i ops draw)
noncomputable def ndK(P:Program)(ids:List Nat)(n:Nat):Code→KNC
 | .seq a b=>match xHasR ids (.seq a b) with
  | false=>detN P n (.seq a b)
  | true=>match ndK P ids n a,ndK P ids n b with|⟨f⟩,⟨g⟩=>⟨fun F st k=>f F st (fun y=>match y with | .n st=>g F st k|y=>k y)⟩
 | .cond c a b=>match xHasR ids (.cond c a b) with
  | false=>detN P n (.cond c a b)
  | true=>match rdK c,ndK P ids n a,ndK P ids n b with|⟨c⟩,⟨f⟩,⟨g⟩=>⟨fun F st k=>match c st.e with | .b true=>f F st k | .b false=>g F st k|_=>false⟩
 | .block id a=>match xHasR ids a with
  | false=>detN P n (.block id a)
  | true=>match ndK P ids n a with|⟨f⟩=>⟨fun F st k=>f F st (fun y=>match y with | .x j st=>(match Nat.beq j id with|true=>k (.n st)|false=>k (.x j st))|y=>k y)⟩
 | .loop a=>match xHasR ids a with
  | false=>detN P n (.loop a)
  | true=>match ndK P ids n a with|⟨f⟩=>⟨fun F st k=>xLoopN f F k 1000000 st⟩
 | .scope a=>match xHasR ids a with
  | false=>detN P n (.scope a)
  | true=>match ndK P ids n a with|⟨f⟩=>⟨fun F st k=>f F st k⟩
 | .region i ops draw=>ndReg P ids n i ops draw
 | c=>detN P n c
section
variable{P:Program}{b:FB}{n:Nat}{l₀ rest:List Oper}{e:Env}{ds:List Deferred}{ρ:Ro}{σ:Own}{S:Cy}
variable{dd:Option Tmp}{ty t:TypeId}{pos:String}{af:Array Edge}{g:Option (Nat×Bool)}{x:Operand}{v z:Value}
theorem Asr{el:TypeId}{dir:ChanDir}{c:Nat}(hT:P.underlying t=some (.chan dir el))(hz:Fw P el z)(hx:Af e x = .chan (some c))(W:World) :
  (execOp (Af e) ⟨dd,.recv t x false,ty,pos,af,g⟩).runT P W #[]=(.ok (.comm #[Conc.rcase c z] true (.recv false)) W,#[]):=by
 obtain⟨ti,f,h⟩:=hz
 show ((underlying t).bind _:Sem Next).runT P W #[]=_
 rw[Sem.runT_bind']
 have a:(underlying t).runT P W #[]=(.ok (.chan dir el) W,#[]):=by
  show Sem.runT P (match P.underlying t with|some i=>pure i|none=>_) W #[]=_
  rw[hT];rfl
 rw[a]
 show ((zeroValue el).bind _:Sem Next).runT P W #[]=_
 rw[Sem.runT_bind']
 have b:(zeroValue el).runT P W #[]=(.ok z W,#[]):=by
  show Sem.runT P ((typeInfo el).bind _) W #[]=_
  rw[Sem.runT_bind']
  have d:(typeInfo el).runT P W #[]=(.ok ti W,#[]):=by
   show Sem.runT P (match P.info? el with|some i=>pure i|none=>_) W #[]=_
   rw[f];rfl
  rw[d]
  simp only[h]
  rfl
 rw[b,hx]
 rfl
theorem Axu{el:TypeId}{dir:ChanDir}{c:Nat}(hT:P.underlying t=some (.chan dir el))(hz:Fw P el z)(hx:Af e x = .chan (some c)){i:Nat}{rs:List Nat}{tm:Array Value}{k:List Item}{cs:List Frame}(ho:l₀.toArray[i]?=some ⟨dd,.recv t x false,ty,pos,af,g⟩)(hw:Bz l₀.toArray ⟨dd,.recv t x false,ty,pos,af,g⟩ e=true)
  (hs:Fu n l₀.toArray=true) (hk:b.kind ≠ .early) (ht:EnvOf n tm e):Aeg P c z false (Fr b tm ds (.inRegion l₀.toArray (i::rs)::k)) cs:=by
 intro W
 have hev:=ht.eval b ds (.inRegion l₀.toArray (i::rs)::k)
 have hst:=Np (C:=Iw P) (b:=b) (ds:=ds) (tm:=tm) (k:=k) (cs:=cs) (rest:=rs) ho (by rw[Ij hs ht];exact hw) (fun c' h'=>by cases h') W
 refine hst.trans ?_
 rw[hev]
 have hk':(b.kind==CallKind.early)=false:=by cases hb:b.kind<;>simp_all<;>rfl
 have hr:=Asr (P:=P) (dd:=dd) (ty:=ty) (pos:=pos) (af:=af) (g:=g) hT hz hx W
 simp only[Iw]at *
 simp[stepG.apply,-Sem.runT_eq,hr,hk',GStep.after,Conc.G,Fr,seen]
end
theorem Ajm{f:Ll→List Ll→Bool}:∀(l pre:List Ll),xPicks f l pre=true→∀(j:Nat) q,l[j]?=some q→f q (pre++l.eraseIdx j)=true
 | [],pre,_,j,q,hj=>by cases hj
 | a::l,pre,h,j,q,hj=>by
  have h':(match f a (xApp pre l) with|true=>xPicks f l (xApp pre [a])|false=>false)=true:=h
  rw[Et,Et]at h'
  split at h'
  ·rename_i ha
   cases j with
   | zero=>cases hj;exact ha
   | succ j =>
    have:=Ajm l (pre++[a]) h' j q (by simpa using hj)
    rw[lZ6]at this
    exact this
  ·cases h'
theorem Sk{k:Nat}:∀{l:List Nat},xHasN k l=true↔k∈l
 | []=>by constructor<;>intro h<;>cases h
 | a::l=>by
  have e:xHasN k (a::l)=(match Nat.beq a k with|true=>true|false=>xHasN k l):=rfl
  rw[e]
  by_cases h:a=k
  ·subst h
   have:Nat.beq a a=true:=by simp
   rw[this];simp
  ·rw[Bcy h,lZ5]
   constructor
   ·intro b;exact .inr (Sk.1 b)
   ·rintro (b|b)
    ·exact absurd b.symm h
    ·exact Sk.2 b
theorem Ajh{f:Nat→CV×CV→Bool}{seen:List Nat}:∀(l:List (CV×CV)) (o:Nat),xNexts f seen l o=true→∀(j:Nat) a,l[j]?=some a→o+j∉seen→f (o+j) a=true
 | [],o,_,j,a,hj,_=>by cases hj
 | a0::l,o,h,j,a,hj,hn=>by
  have h':(match xHasN o seen with|true=>xNexts f seen l (Nat.succ o)|false=>match f o a0 with|true=>xNexts f seen l (Nat.succ o)|false=>false)=true:=h
  have rest:xNexts f seen l (Nat.succ o)=true:=by
   split at h'
   ·exact h'
   ·split at h'
    ·exact h'
    ·cases h'
  cases j with
  | zero =>
   cases hj
   split at h'
   ·rename_i hs;exact absurd (Sk.1 hs) hn
   ·split at h'
    ·rename_i hf;exact hf
    ·cases h'
  | succ j =>
   have:=Ajh l (o+1) rest j a (by simpa using hj) (by rw[show o+1+j=o+(j+1) by omega];exact hn)
   rw[show o+1+j=o+(j+1) by omega]at this
   exact this
theorem Xd{seen:List Nat}:∀{n:Nat},xAllSeen seen n=false→∃j,j<n∧j∉seen
 | 0,h=>by cases h
 | n+1,h=>by
  have h':(match xHasN n seen with|true=>xAllSeen seen n|false=>false)=false:=h
  split at h'
  ·obtain⟨j,a,b⟩:=Xd h'
   exact⟨j,Air a,b⟩
  ·rename_i hs
   exact⟨n,Arl _,fun hm=>by rw[Sk.2 hm]at hs;cases hs⟩
theorem Ve{seen:List Nat}:∀{n:Nat},xAllSeen seen n=true→∀j,j<n→j∈seen
 | 0,_,j,hj=>absurd hj (Aiz _)
 | n+1,h,j,hj=>by
  have h':(match xHasN n seen with|true=>xAllSeen seen n|false=>false)=true:=h
  split at h'
  ·rename_i hs
   rcases Nat.lt_succ_iff_lt_or_eq.1 hj with h1|h1
   ·exact Ve h' j h1
   ·subst h1;exact Sk.1 hs
  ·cases h'
/-- The next entry: what the run says of it. -/
theorem Awm{P:Program}{R:XR}{st:St}{e:Env}{ds:List Deferred}{ρ:Ro}{σ σ₀:Own}{r:Nat}{x:Operand}{k:CV→Mem→Bool}{ty:TypeId}{Q:Value→Own→Prop}(hs:Sim R st e ds ρ σ σ₀)(hx:(rdK x).run st.e = .p r 0)(h:ndN st r k=true)
  (hq:∀y m' v σ',k y m'=true→V1 R y v→MemX R m' ρ σ' σ₀→Q v σ'):wpS P ρ (Instr.next (Af e x) false ty) σ Q:=by
 have hv:=Bc hs.env hs.mem.globR x
 rw[hx]at hv
 obtain⟨N,T,hR,J⟩:=Akq hv
 unfold ndN at h
 split at h
 ·rename_i mk n seen hr
  split at h
  ·rename_i es ho
   split at h
   ·rename_i hn
    have hn:=lZ4 hn
    rw[Df]at hn
    have I:=hs.mem
    obtain⟨L,G,hm⟩:=hs.mem
    obtain⟨O,U,X,W,u,w,K,M⟩:=hm.at hr (by simp)
    rw[hR]at u;cases u
    obtain⟨b,c,en,ck,g,C,i,D,q⟩:=hm.map ho
    cases K with
    | iter hRm =>
     rw[g]at hRm;cases hRm
     have H:en.length=es.length:=by have:=i.len;simpa using this.symm
     have hck:ck=n:=by rw[q.ck,H,hn]
     subst hck
     rw[J]
     refine Atf q w C (fun F=>?_) fun j ej hej hj=>?_
     ·have hk:k (.t [.b false]) st.m=true:=by
       cases hs':xAllSeen seen ck with
       | true=>rw[hs']at h;exact h
       | false =>
        obtain⟨j,V,E⟩:=Xd hs'
        exact absurd (F j (by omega)) E
      exact hq _ _ _ _ hk (.t (.b _ .nil) .nil) I
     ·have hjl:j<es.length:=by have:=(lZ8.1 hej).1;omega
      have hea:=Qq hjl
      have hk:k (.t [.b true,es[j].1,es[j].2]) (st.m.put r (.iter mk ck (xApp seen [j])))=true:=by
       cases hs':xAllSeen seen ck with
       | true=>exact absurd (Ve hs' j (by omega)) hj
       | false =>
        rw[hs']at h
        have:=Ajh es 0 h j es[j] hea (by rw[Nn];exact hj)
        rw[Nn]at this
        exact this
      obtain⟨Y,a,z⟩:=i.at (d:=j) (v:=es[j].1) (by rw[Mg,hea];rfl)
      obtain⟨Z,f,B⟩:=D.at (d:=j) (v:=es[j].2) (by rw[Mg,hea];rfl)
      rw[Mg,hej]at a f
      cases a;cases f
      refine hq _ _ _ _ hk (.t (VR.cons_iff.2 ⟨.b _ .nil,VR.cons_iff.2 ⟨z,B⟩⟩) .nil) ?_
      have:=hm.put (o':=.iter mk ck (xApp seen [j])) (r':=.obj (.mapIter (some b) ck (seen++[j]).toArray ck)) M hR w (by rw[Et];exact .iter g)
      exact this
   ·cases h
  ·cases h
 ·cases h
end
section
open Go Go.Conc
theorem Ath{C:Ctx}{b:FB}{n:Nat}{Q:Hu}{e:Env}{ds:List Deferred}{ρ:Ro}{σ:Own}{c:Code}(h:WpC C b n c Q e ds ρ σ):WpC C b n (.scope c) Q e ds ρ σ:=by
 intro tm k cs ht
 refine Eh (fr':=Fr b tm ds (.code c :: .inScope c::k)) (cs':=cs) (fun W=>by simp[Conc.G,stepG,stepG.exec,Fr]) ?_
 refine(h.stops tm (.inScope c::k) cs ht).bind ?_
 rintro _ _ ρ' σ' ⟨rfl,ex,tm',e',ds',g,a,d,f,rfl⟩
 by_cases hn:ex = .normal
 ·subst hn
  cases f
  exact Eh (fr':=Fr b tm' ds' k) (fun W=>by simp[Conc.G,stepG,stepG.exec,Fr]) (.stop (.inl ⟨rfl,.normal,tm',e',ds',k,a,d,rfl,rfl⟩))
 ·exact .stop (.inl ⟨rfl,ex,tm',e',ds',g,a,d,He hn (fun id=>rfl) f,rfl⟩)
theorem Acj{f:Nat→Option St}:∀{l:List Nat} {i:Nat} {s:St},xFirstP f l=some (i,s)→i∈l∧f i=some s
 | a::l,i,s,h=>by
  have h':(match f a with|some s=>some (a,s)|none=>xFirstP f l)=some (i,s):=h
  split at h'
  ·rename_i s' hs
   cases h'
   exact⟨Me ..,hs⟩
  ·obtain⟨b,c⟩:=Acj h'
   exact⟨lZ0 _ b,c⟩
theorem Anv{f:Nat→Bool}:∀{l:List Nat},xAllN f l=true→∀i∈l,f i=true
 | a::l,h,i,hi=>by
  have h':(match f a with|true=>xAllN f l|false=>false)=true:=h
  split at h'
  ·rename_i ha
   rcases lZ5.1 hi with rfl|hi
   ·exact ha
   ·exact Anv h' i hi
  ·cases h'
/-- Whatever order is picked. -/
theorem Bee{P:Program}{F:Fns}(hF:FnsOk (Iw P) F){l:List Oper}(hsel:Apw l=true){k:St→Bool}{b:FB}{R0:XR}{ρ0:Ro}{σ₀:Own}(hn:NoRecv σ₀):∀(fuel:Nat) (li:List Bool) (lv:List LvE) (st:St) (R:XR) (e:Env) (ds:List Deferred) (ρ:Ro) (σ:Own),ndA P F l k fuel li st=true→(∀p∈lv,p.2=none)→XR.le R0 R→Ro.le ρ0 ρ→Sim R st e ds ρ σ σ₀ →
  Vy (Iw P) b l.toArray (fun e' ds' ρ' σ'=>∃st' R',k st'=true∧XR.le R0 R'∧Ro.le ρ0 ρ'∧Sim R' st' e' ds' ρ' σ' σ₀) (wtL l) LvS fuel lv li.toArray e ds ρ σ:=by
 have hS:∀{lv:List LvE} {ρ:Ro} {σ:Own},(∀p∈lv,p.2=none)→∀p∈lv,LvS p ρ σ:=fun hlv p hp=>by
  unfold LvS;rw[hlv p hp];trivial
 intro fuel
 induction fuel with
 | zero =>
  intro li lv st R e ds ρ σ h hlv hR hρ hs
  have h':(match Dl l li with|[]=>k st|_::_=>false)=true:=h
  split at h'
  ·rename_i hr
   exact Tv (by rw[Hh];exact hr) ⟨st,R,h',hR,hρ,hs⟩ (hS hlv) 0
  ·cases h'
 | succ fuel ih =>
  intro li lv st R e ds ρ σ h hlv hR hρ hs
  have h':(match Dl l li with
   | []=>k st
   | a::r=>match xFirstP (xPureA P l li st) (a::r) with
    | some (i,st')=>ndA P F l k fuel (li.set i true) st'
    | none=>xAllN (fun i=>match l[i]? with|some o=>(match xStepA P F l st o with|some st'=>ndA P F l k fuel (li.set i true) st'|none=>false)|none=>false) (a::r))=true:=h
  split at h'
  ·rename_i hr
   exact Tv (by rw[Hh];exact hr) ⟨st,R,h',hR,hρ,hs⟩ (hS hlv) _
  ·rename_i a r hr
   split at h'
   ·rename_i i st' hf
    obtain⟨hi,hp⟩:=Acj hf
    rw[←hr]at hi
    unfold xPureA at hp
    split at hp
    ·rename_i o htk ho
     have d:Ahv l li i=true:=by
      unfold xTake at htk
      rw[Gm]at htk
      exact htk.2
     have f:xMild o.op=true:=by
      unfold xTake at htk
      rw[ho]at htk
      simp only[Gm]at htk
      exact htk.1.1
     have ho':l.toArray[i]?=some o:=by rw[Gk];exact ho
     have hfs:=Region.free_spec (md:=.any) (ops:=l.toArray) (i:=i) (oi:=o) ho' (Ahw d)
     have key:∀x,st'=⟨(dstK o.dst).run st.e x,st.m,st.ds⟩→(∃v,V1 R x v∧YieldsH P l.toArray (LvS (i,none)) o v e)→Vy (Iw P) b l.toArray (fun e' ds' ρ' σ'=>∃st' R',k st'=true∧XR.le R0 R'∧Ro.le ρ0 ρ'∧Sim R' st' e' ds' ρ' σ' σ₀) (wtL l) LvS (fuel+1) lv li.toArray e ds ρ σ:=by
      rintro x rfl ⟨v,hv,hy⟩
      refine Re ho' (Region.noSelect_spec (Alr hsel)) (Agv rfl) fuel lv _ e ds ρ σ hfs (Gp.1 hi) hy ?_
      rw[Fk]
      refine ih _ ((i,none)::lv) _ R _ ds ρ σ h' (fun p hp=>?_) hR hρ ⟨Gz hs.env hv,hs.mem,hs.ds⟩
      rcases lZ5.1 hp with rfl|hp
      ·rfl
      ·exact hlv p hp
     split at hp
     ·rename_i hgk
      split at hp
      ·rename_i hgd
       cases hp
       exact key .undef rfl ⟨undef,.t .nil .nil,.inr ⟨by rw[Hn hs.env hgk];exact hgd,rfl⟩⟩
      ·rename_i hgd
       split at hp
       ·rename_i x m he
        split at hp
        ·rename_i hnx
         cases hp
         refine key x rfl ?_
         rcases Apg o.op R st.e e st.m x m hs.env hs.mem.globR he with⟨_,v,hv,hw⟩|⟨_,hw,_⟩
         ·refine⟨v,hv,.inl ⟨by rw[Hn hs.env hgk];exact hgd,fun ρ' σ' _=>?_⟩⟩
          obtain⟨dd,op,ty,pos,af,gd⟩:=o
          exact hw ρ' σ' dd ty pos af gd
         ·exact absurd (lZ4 hnx) (hw f)
        ·cases hp
       ·cases hp
     ·cases hp
    ·cases hp
   ·refine Xe (rs:=Dl l li) (Hh _ _) (by rw[hr];simp) (hS hlv) fun j hj=>?_
    rw[hr]at hj
    have hj':=Anv h' j hj
    split at hj'
    ·rename_i o ho
     split at hj'
     ·rename_i st' hst
      unfold xStepA at hst
      split at hst
      ·rename_i hgk
       split at hst
       ·rename_i x m1 ds1 hov
        cases hst
        have hdo:UqOk (Iw P) l o st x m1 ds1:=by
         split at hov
         ·rename_i hgd;cases hov;exact .inl ⟨hgd,rfl,rfl,rfl⟩
         ·rename_i hgd;exact .inr ⟨hgd,Pu hF hov⟩
        have hds:=hdo.kept.2.2
        refine(Apq (b:=b) hdo ho hgk hn hs).mono ?_
        rintro z y u w ⟨rfl,R',v,c,g,rfl,n,q⟩
        rw[Fk]
        refine ih _ _ _ R' _ _ u w hj' (fun p hp=>hlv p (Lp.1 hp).1) (hR.trans c) (hρ.trans g) ⟨Gz (hs.env.mono c) n,q,?_⟩
        rw[hds];exact hs.ds.mono c
       ·cases hst
      ·cases hst
     ·cases hj'
    ·cases hj'
section
variable{P:Program}{F:Fns}
theorem Zp(hF:FnsOk (Iw P) F)(hx:∀S,Rd (goT (Iw P) S) F doX)(S:Cy){l₀:List Oper}:∀(r:List Oper) (st:St) (k:St→Bool),(ndT P l₀ r).run F st k=true→∀b n R e ds ρ σ σ₀ o o',Fu n l₀.toArray=true→b.kind ≠ .early→NoRecv σ₀→b.round=none→Sim R st e ds ρ σ σ₀ →
  Ops (goT (Iw P) S) b n l₀ r o e ds ρ σ o' (fun e' ds' ρ' σ'=>∃st' R',k st'=true∧XR.le R R'∧Ro.le ρ ρ'∧Sim R' st' e' ds' ρ' σ' σ₀)
 | [],st,k,h,b,n,R,e,ds,ρ,σ,σ₀,o,o',hsl,hk,hn,hr,hs=>by
  have:=Bcq (G:=goT (Iw P) S) (b:=b) (n:=n) (o:=o) (l₀:=l₀) (e:=e) (ds:=ds) (ρ:=ρ) (σ:=σ) (Q:=fun e' ds' ρ' σ'=>∃st' R',k st'=true∧XR.le R R'∧Ro.le ρ ρ'∧Sim R' st' e' ds' ρ' σ' σ₀) ⟨st,R,h,.refl,.refl,hs⟩
  exact this
 | op::r,st,k,h,b,n,R,e,ds,ρ,σ,σ₀,o,o',hsl,hk,hn,hr,hs=>by
  have h':(match (gokK l₀ op).run st.e with
   | false=>false
   | true=>match (guardK l₀ op).run st.e with
    | false=>(ndT P l₀ r).run F ⟨(dstK op.dst).run st.e .undef,st.m,st.ds⟩ k
    | true=>match xNextOp op.op with
     | some x=>match (rdK x).run st.e with
      | .p a 0=>ndN st a (fun y m=>(ndT P l₀ r).run F ⟨(dstK op.dst).run st.e y,m,st.ds⟩ k)
      | _=>false
     | none=>match (opK P op.op).run st.e st.m with
      | .recv c false=>match st.m.M.get c with
       | some (.own (.crowd n (q::ms)))=>xPicks (fun q rest=>match xRecvM st.m c n q rest with
        | some (x,m)=>(ndT P l₀ r).run F ⟨(dstK op.dst).run st.e x,m,st.ds⟩ k
        | none=>false) (q::ms) []
       | _=>false
      | y=>match doX1 F none st y with
       | .v x m ds=>(ndT P l₀ r).run F ⟨(dstK op.dst).run st.e x,m,ds⟩ k
       | .bad=>false)=true:=h
  split at h'
  ·cases h'
  ·rename_i hgk
   split at h'
   ·rename_i hg
    refine Awr hsl hk (by rw[Hn hs.env hgk];exact hg) ?_
    exact Zp hF hx S r _ k h' b n R _ ds ρ σ σ₀ o o' hsl hk hn hr ⟨Gz hs.env (.t .nil .nil),hs.mem,hs.ds⟩
   ·rename_i hg
    have hw:Bz l₀.toArray op e=true:=by rw[Hn hs.env hgk];exact hg
    split at h'
    ·rename_i x hnx
     split at h'
     ·rename_i a hxr
      obtain⟨dd,T,ty,pos,af,gd⟩:=op
      have hop:T = .next x false:=by
       unfold xNextOp at hnx
       simp only at hnx
       split at hnx
       ·cases hnx;rfl
       ·cases hnx
      subst hop
      refine Bem hsl hk hw ?_
      show wpS P ρ ((Instr.next (Af e x) false ty).bind fun v=>Sem.pure (Next.value v)) σ _
      rw[Ad]
      refine Awm hs hxr h' fun y m' v σ' hk' hv hm'=>?_
      have ih:=Zp hF hx S r _ k hk' b n R (Ja e dd v) ds ρ σ' σ₀ o o' hsl hk hn hr ⟨Gz hs.env hv,hm',hs.ds⟩
      exact ih
     ·cases h'
    split at h'
    ·rename_i c hop
     split at h'
     ·rename_i kk q0 ms0 hcell
      obtain⟨t,y,d,el,z,N,hT,hz,hy⟩:=Ajl hop
      obtain⟨dd,T,ty,pos,af,gd⟩:=op
      simp only at N
      subst N
      have hyv:=Bc hs.env hs.mem.globR y
      rw[hy]at hyv
      obtain⟨bc,cc,w1,w2⟩:=Atc hyv
      obtain⟨b1,c1,i,Rs,V,u2,W,u4⟩:=Axv hs.mem hcell
      rw[w1]at V;cases V
      intro pre u tm kk' cs ht hq
      have ho:l₀.toArray[pre.length]?=some ⟨dd,.recv t y false,ty,pos,af,gd⟩:=by subst u;simp
      rw[lZ7,Um]
      have hne:Rs≠[]:=fun Y=>by rw[Y]at W;cases W
      refine GoesH.ext (K:=fun fr' cs' ρ' σ'=>∃(j:Nat) (a:Value→Ro→Prop) (v:Value) (f:Ro),Rs[j]?=some a∧a v f∧Ro.le ρ ρ'∧Ro.le f ρ'∧fr'=(Fr b tm ds (.inRegion l₀.toArray (pre.length::List.range' (pre.length+1) r.length)::kk')).finish v∧cs'=cs∧σ'=σ.set i (bc,Res.crowd kk (Rs.eraseIdx j)))
       (.inr (.inr (.inr (.inr ⟨i,bc,kk,Rs,z,false,Axu hT hz w2 ho hw hsl hk ht,u2,hne,fun j a v f ρ' w B g C=>⟨j,a,v,f,w,B,g,C,rfl,rfl,rfl⟩⟩)))) ?_
      rintro _ _ ρ' _ ⟨j,a,v,f,w,B,g,C,rfl,rfl,rfl⟩
      obtain⟨q,Z,g2⟩:=u4 j a v f ρ' w B g C
      have hpk:=Ajm _ _ h' j q Z
      rw[Qt]at hpk
      cases hrm:xRecvM st.m c kk q ((q0::ms0).eraseIdx j) with
      | none=>simp only[hrm]at hpk;cases hpk
      | some xm =>
       obtain⟨x,m'⟩:=xm
       simp only[hrm]at hpk
       obtain⟨R',L,s2,s3⟩:=g2 x m' hrm
       have O:=Zp hF hx S r _ k hpk b n R' (Ja e dd v) ds ρ' _ σ₀ o o' hsl hk hn hr ⟨Gz (hs.env.mono L) s2,s3,hs.ds.mono L⟩ (pre++[⟨dd,.recv t y false,ty,pos,af,gd⟩]) (by rw[u];simp)
       rw[lZ1,Nk]at O
       rw[Ju ho]
       exact O _ kk' _ (Jj hsl ht ho _) fun tm' e' ds' ρ'' σ'' D ⟨st',R'',E,H,I,J⟩=>hq tm' e' ds' ρ'' σ'' D ⟨st',R'',E,L.trans H,g.trans I,J⟩
     ·cases h'
    ·split at h'
     ·rename_i x m1 ds1 hdo
      obtain⟨_,hc⟩:=hx S op st x m1 ds1 none hdo
      have:=hc b n l₀ r o' (fun e' ds' ρ' σ'=>∃st' R',k st'=true∧XR.le R R'∧Ro.le ρ ρ'∧Sim R' st' e' ds' ρ' σ' σ₀) R e ds ρ σ σ₀ hn ⟨trivial,hr⟩ hs hsl hk hw trivial fun R' v X ρ' σ' U q2 q3 q4 q5=>by
       have ih:=Zp hF hx S r _ k h' b n R' (Ja e op.dst v) X ρ' σ' σ₀ m1.outs o' hsl hk hn hr ⟨Gz (hs.env.mono U) q3,q4,q5⟩
       intro pre u tm kk' cs ht hq
       exact ih pre u tm kk' cs ht fun tm' e' ds' ρ'' σ'' D ⟨st',R'',E,H,I,J⟩=>hq tm' e' ds' ρ'' σ'' D ⟨st',R'',E,U.trans H,q2.trans I,J⟩
      exact this
     ·cases h'
/-- A nondeterministic run: each way out satisfies the continuation. -/
def Bgf(P:Program)(n:Nat)(c:Code)(st:St)(k:Go.Proofs.YtdkahgpemgjidaaGreatDoor.R→Bool):Prop:=∀b R e ds ρ σ σ₀,b.kind ≠ .early→NoRecv σ₀→b.round=none→Sim R st e ds ρ σ σ₀ →
 WpC (Iw P) b n c (fun ex e' ds' ρ' σ'=>∃st' R',k (Cr ex st')=true∧XR.le R R'∧Ro.le ρ ρ'∧Sim R' st' e' ds' ρ' σ' σ₀) e ds ρ σ
theorem Oj(hF:FnsOk (Iw P) F)(hx:∀S,Rd (goT (Iw P) S) F doX){n:Nat}{c:Code}{st:St}{k:Go.Proofs.YtdkahgpemgjidaaGreatDoor.R→Bool}(h:(detN P n c).run F st k=true):Bgf P n c st k:=by
 have h':(match (codeK P doX n c).run F none st with | .bad=>false|y=>k y)=true:=h
 intro b R e ds ρ σ σ₀ hk hn hr hs
 have key:∀ex st',(codeK P doX n c).run F none st=Cr ex st'→k (Cr ex st')=true→WpC (Iw P) b n c (fun ex e' ds' ρ' σ'=>∃st' R',k (Cr ex st')=true∧XR.le R R'∧Ro.le ρ ρ'∧Sim R' st' e' ds' ρ' σ' σ₀) e ds ρ σ:=fun ex st' a hkk=>by
  refine Adw (Reach.wp (S:=fun _ _ _ _=>True) (o:=st.m.outs) (o':=st'.m.outs) (ex:=ex) (Q:=fun ex' e' ds' ρ' σ'=>ex'=ex∧∃R',XR.le R R'∧Ro.le ρ ρ'∧Sim R' st' e' ds' ρ' σ' σ₀) fun S =>
   ((Pt (G:=goT (Iw P) S) hF (hx S) (fun _=>⟨⟨S,rfl⟩,hx⟩) c a b hk).2 trivial R e ds ρ σ σ₀ hn ⟨trivial,hr⟩ hs).mono fun e ds ρ σ h=>⟨rfl,h⟩) ?_
  rintro ex' e' ds' ρ' σ' ⟨rfl,R',d,f,g⟩
  exact⟨st',R',hkk,d,f,g⟩
 cases hc:(codeK P doX n c).run F none st with
 | n st'=>rw[hc]at h';exact key .normal st' hc h'
 | x id st'=>rw[hc]at h';exact key (.exit id) st' hc h'
 | r st'=>rw[hc]at h';exact key .ret st' hc h'
 | bad=>rw[hc]at h';cases h'
theorem Bef(hF:FnsOk (Iw P) F)(hx:∀S,Rd (goT (Iw P) S) F doX){ids:List Nat}{n:Nat}:∀(c:Code) (st:St) (k:Go.Proofs.YtdkahgpemgjidaaGreatDoor.R→Bool),(ndK P ids n c).run F st k=true→Bgf P n c st k:=by
 intro c
 induction c with
 | seq x y ihx ihy =>
  intro st k h
  rw[ndK]at h
  split at h
  ·exact Oj hF hx h
  ·have h':(ndK P ids n x).run F st (fun r=>match r with | .n st=>(ndK P ids n y).run F st k|r=>k r)=true:=h
   intro b R e ds ρ σ σ₀ hk hn hr hs
   refine Ai fun K hK=>Adw (ihx st _ h' b R e ds ρ σ σ₀ hk hn hr hs) ?_
   rintro ex e' ds' ρ' σ' ⟨st',R',f,a,d,g⟩
   cases ex with
   | normal =>
    refine hK _ _ _ _ (Adw (ihy st' k f b R' e' ds' ρ' σ' σ₀ hk hn hr g) ?_)
    rintro ex e'' D ρ'' σ'' ⟨v,R'',w,z,B,C⟩
    exact⟨v,R'',w,a.trans z,d.trans B,C⟩
   | exit id=>exact⟨st',R',f,a,d,g⟩
   | ret=>exact⟨st',R',f,a,d,g⟩
 | cond q x y ihx ihy =>
  intro st k h
  rw[ndK]at h
  split at h
  ·exact Oj hF hx h
  ·have h':(match (rdK q).run st.e with | .b true=>(ndK P ids n x).run F st k | .b false=>(ndK P ids n y).run F st k|_=>false)=true:=h
   intro b R e ds ρ σ σ₀ hk hn hr hs
   have hv:=Bc hs.env hs.mem.globR q
   split at h'
   ·rename_i hq
    rw[hq]at hv
    exact Bp (Aag hv) (fun _=>ihx st k h' b R e ds ρ σ σ₀ hk hn hr hs) (fun h=>by cases h)
   ·rename_i hq
    rw[hq]at hv
    exact Bp (Aag hv) (fun h=>by cases h) (fun _=>ihy st k h' b R e ds ρ σ σ₀ hk hn hr hs)
   ·cases h'
 | block id x ihx =>
  intro st k h
  rw[ndK]at h
  split at h
  ·exact Oj hF hx h
  ·have h':(ndK P ids n x).run F st (fun r=>match r with | .x j st=>(match Nat.beq j id with|true=>k (.n st)|false=>k (.x j st))|r=>k r)=true:=h
   intro b R e ds ρ σ σ₀ hk hn hr hs
   refine Ao (Adw (ihx st _ h' b R e ds ρ σ σ₀ hk hn hr hs) ?_)
   rintro ex e' ds' ρ' σ' ⟨st',R',f,a,d,g⟩
   cases ex with
   | normal=>exact⟨st',R',f,a,d,g⟩
   | exit j =>
    have u:(match Nat.beq j id with|true=>k (.n st')|false=>k (.x j st'))=true:=f
    by_cases hj:j=id
    ·subst hj
     have hb:Nat.beq j j=true:=by simp
     rw[hb]at u
     simp only[Qy,if_true]
     exact⟨st',R',u,a,d,g⟩
    ·rw[Bcy hj]at u
     simp only[Qy,hj,if_false]
     exact⟨st',R',u,a,d,g⟩
   | ret=>exact⟨st',R',f,a,d,g⟩
 | loop x ihx =>
  intro st k h
  rw[ndK]at h
  split at h
  ·exact Oj hF hx h
  ·have h':xLoopN (ndK P ids n x).run F k 1000000 st=true:=h
   intro b R e ds ρ σ σ₀ hk hn hr hs
   refine Cc (fun m e' ds' ρ' σ'=>∃st' R',xLoopN (ndK P ids n x).run F k m st'=true∧XR.le R R'∧Ro.le ρ ρ'∧Sim R' st' e' ds' ρ' σ' σ₀) (m:=1000000) ⟨st,R,h',.refl,.refl,hs⟩ ?_
   rintro m e' ds' ρ' σ' ⟨st',R',f,a,d,g⟩
   cases m with
   | zero=>cases f
   | succ m =>
    have u:(ndK P ids n x).run F st' (fun r=>match r with | .n st=>xLoopN (ndK P ids n x).run F k m st|r=>k r)=true:=f
    refine Adw (ihx st' _ u b R' e' ds' ρ' σ' σ₀ hk hn hr g) ?_
    rintro ex e'' D ρ'' σ'' ⟨v,R'',w,z,B,C⟩
    cases ex with
    | normal=>exact⟨m,Arl _,v,R'',w,a.trans z,d.trans B,C⟩
    | exit id=>exact⟨v,R'',w,a.trans z,d.trans B,C⟩
    | ret=>exact⟨v,R'',w,a.trans z,d.trans B,C⟩
 | region i ops draw =>
  intro st k h
  have t:(ndReg P ids n i ops draw).run F st k=true:=h
  clear h
  unfold ndReg at t
  split at t
  ·rename_i hsl
   have h':(ndT P ops.toList ops.toList).run F st (fun st=>k (.n st))=true:=t
   intro b R e ds ρ σ σ₀ hk hn hr hs
   have hw:WpC (Iw P) b n (.region i ops.toList.toArray false) (fun ex e' ds' ρ' σ'=>∃st' R',k (Cr ex st')=true∧XR.le R R'∧Ro.le ρ ρ'∧Sim R' st' e' ds' ρ' σ' σ₀) e ds ρ σ :=
    Reach.wp (S:=fun _ _ _ _=>True) (o:=st.m.outs) (o':=st.m.outs) (ex:=.normal) fun S=>Ajs (Zp hF hx S ops.toList st _ h' b n R e ds ρ σ σ₀ st.m.outs st.m.outs (Qi hsl) hk hn hr hs)
   rw[Sm]at hw
   exact hw
  ·cases t
  ·rename_i hsl
   split at t
   ·rename_i hsel hm
    have h':ndA P F ops.toList (fun st=>k (.n st)) ops.toList.length (List.replicate ops.toList.length false) st=true:=t
    intro b R e ds ρ σ σ₀ hk hn hr hs
    have hA:=Bee (b:=b) hF hsel hn _ _ [] st R e ds ρ σ h' (fun p hp=>(by cases hp)) .refl .refl hs
    have hw:WpC (Iw P) b n (.region i ops.toList.toArray true) (fun ex e' ds' ρ' σ'=>∃st' R',k (Cr ex st')=true∧XR.le R R'∧Ro.le ρ ρ'∧Sim R' st' e' ds' ρ' σ' σ₀) e ds ρ σ:=by
     refine Vk [] (fun _ _=>True) hm (Qi hsl) hk ?_
     have:=Xi hA
     simpa[Cr]using this
    rw[Sm]at hw
    exact hw
   ·exact Oj hF hx t
  ·exact Oj hF hx t
 | scope x ihx =>
  intro st k h
  rw[ndK]at h
  split at h
  ·exact Oj hF hx h
  ·have h':(ndK P ids n x).run F st k=true:=h
   intro b R e ds ρ σ σ₀ hk hn hr hs
   exact Ath (ihx st _ h' b R e ds ρ σ σ₀ hk hn hr hs)
 | _=>intro st k h;exact Oj hF hx h
end
end
section
open Go Go.Conc
noncomputable def eqLs{α:Type}(f:α→α→Bool)(x:List α):List α→Bool:=List.rec (motive:=fun _=>List α→Bool) (fun y=>match y with|[]=>true|_::_=>false)
 (fun a _ ih y=>match y with|[]=>false|b::y=>match f a b with|true=>ih y|false=>false) x
theorem Ix{α:Type}{f:α→α→Bool}(hf:∀a b,f a b=true→a=b):∀{x y:List α},eqLs f x y=true→x=y
 | [],[],_=>rfl
 | [],_::_,h=>by cases h
 | _::_,[],h=>by cases h
 | a::x,b::y,h=>by
  have h':(match f a b with|true=>eqLs f x y|false=>false)=true:=h
  split at h'
  ·rename_i hab
   rw[hf a b hab,Ix hf h']
  ·cases h'
noncomputable def eqV:Nat→CV→CV→Bool
 | 0,_,_=>false
 | d+1,x,y=>match x,y with
  | .bad,.bad=>true
  | .b a,.b b=>a==b
  | .i k a,.i k' b=>match xKind k k' with|true=>xEqI a b|false=>false
  | .s a,.s b=>xEqS a b
  | .pn,.pn=>true
  | .p k o,.p k' o'=>match Nat.beq k k' with|true=>Nat.beq o o'|false=>false
  | .sn,.sn=>true
  | .sl k o n kn c,.sl k' o' n' kn' c'=>match Nat.beq k k',Nat.beq o o',Nat.beq n n',kn==kn',Nat.beq c c' with|true,true,true,true,true=>true|_,_,_,_,_=>false
  | .mn,.mn=>true
  | .m k,.m k'=>Nat.beq k k'
  | .cn,.cn=>true
  | .fn,.fn=>true
  | .f g xs ys,.f g' xs' ys'=>match Nat.beq g g',eqLs (eqV d) xs xs',eqLs (eqV d) ys ys' with|true,true,true=>true|_,_,_=>false
  | .n,.n=>true
  | .a t v,.a t' v'=>match Nat.beq t t',eqV d v v' with|true,true=>true|_,_=>false
  | .g l,.g l'=>eqLs (eqV d) l l'
  | .t l,.t l'=>eqLs (eqV d) l l'
  | _,_=>false
theorem Ol:∀(d:Nat) (x y:CV),eqV d x y=true→x=y
 | 0,x,y,h=>by cases h
 | d+1,x,y,h=>by
  have ih:=Ol d
  unfold eqV at h
  split at h
  ·rfl
  ·rw[eq_of_beq h]
  ·split at h
   ·rename_i hk
    rw[Ql]at h
    rw[Fb hk,eq_of_beq h]
   ·cases h
  ·rw[Ny]at h
   rw[eq_of_beq h]
  ·rfl
  ·split at h
   ·rename_i hk
    rw[lZ4 hk,lZ4 h]
   ·cases h
  ·rfl
  ·split at h
   ·rename_i h1 h2 h3 h4 h5
    rw[lZ4 h1,lZ4 h2,lZ4 h3,eq_of_beq h4,lZ4 h5]
   ·cases h
  ·rfl
  ·rw[lZ4 h]
  ·rfl
  ·rfl
  ·split at h
   ·rename_i h1 h2 h3
    rw[lZ4 h1,Ix ih h2,Ix ih h3]
   ·cases h
  ·rfl
  ·split at h
   ·rename_i h1 h2
    rw[lZ4 h1,ih _ _ h2]
   ·cases h
  ·rw[Ix ih h]
  ·rw[Ix ih h]
  ·cases h
end
section
open Go Go.Conc
noncomputable def finN(h:Tr CV→Mem→Option (List CV))(st:St)(k:CV→Mem→Bool):Bool:=match xFin h st with
 | .v x m=>k x m
 | .bad=>false
structure KFN where
 run:Fns→List CV→Mem→(CV→Mem→Bool)→Bool
noncomputable def ndFun(P:Program)(ids:List Nat)(g:Nat):KFN:=match P.funcs[g]? with
 | some fn=>match fn.body with
  | some c=>match ndK P ids fn.ntmps c,resK P fn.results.toList,fn.ntmps with
   | ⟨f⟩,⟨h⟩,n=>⟨fun F args m k=>match Nat.ble (xLen args) n with
    | true=>f F ⟨xArgEnv args 0 .leaf,m,[]⟩ (fun r=>match r with
     | .n st=>finN h st k
     | .r st=>finN h st k
     | _=>false)
    | false=>false⟩
  | none=>⟨fun _ _ _ _=>false⟩
 | none=>⟨fun _ _ _ _=>false⟩
section
variable{C:Ctx}{F:Fns}
/-- A function is left. -/
theorem Bdr{fn:Func}{st:St}{x:CV}{m':Mem}{R':XR}{e:Env}{ds:List Deferred}{ρ:Ro}{σ σ₀:Own}(h:xFin (resK C.P fn.results.toList).run st = .v x m')(hs:Sim R' st e ds ρ σ σ₀) :
  Aki C fn (fun v ρ' σ'=>ρ'=ρ∧V1 R' x v∧MemX R' m' ρ' σ' σ₀) e ρ ds σ:=by
 unfold xFin at h
 split at h
 ·rename_i m2 hd
  have key:∀r,(resK C.P fn.results.toList).run st.e m2=some r→(∀vs,VR R' r vs→V1 R' x (Adi vs))→m2=m'→Aki C fn (fun v ρ' σ'=>ρ'=ρ∧V1 R' x v∧MemX R' m' ρ' σ' σ₀) e ρ ds σ:=by
   intro r hr hxv f
   subst f
   refine Yc hd hs.ds hs.mem fun σ'' a=>?_
   obtain⟨vs,c,d⟩:=Agn (P:=C.P) hs.env a _ r hr
   exact Vf (rs:=fn.results.toList) (by simp) d ⟨rfl,hxv vs c,a⟩
  split at h
  ·rename_i v hr
   cases h
   refine key _ hr (fun vs hvs=>?_) rfl
   match vs,hvs with
   | [],hvs=>cases hvs
   | [w],hvs=>exact hvs
   | w::w'::vs,hvs=>exact absurd hvs.len (by simp)
  ·rename_i l hne hr
   cases h
   refine key _ hr (fun vs hvs=>?_) rfl
   have b:Adi vs = .tuple vs.toArray:=by
    unfold Adi
    split
    ·rename_i v
     exfalso
     have:=hvs.len
     match l,this,hne with
     | [y],_,hne=>exact hne y rfl
    ·rfl
   rw[b]
   exact .t hvs .nil
  ·cases h
 ·cases h
end
theorem Ake{C:Ctx}{fn:Func}{K K':Value→Ro→Own→Prop}{e:Env}{ρ:Ro}(hk:∀v ρ σ,K v ρ σ→K' v ρ σ):∀{ds:List Deferred} {σ:Own},Aki C fn K e ρ ds σ→Aki C fn K' e ρ ds σ
 | [],σ,h=>Eu (fun v σ' hv=>hk v ρ σ' hv) _ _ h
 | _::_,_,⟨r,i,h1,h2,h3⟩=>⟨r,i,h1,h2,Ake hk h3⟩
theorem Awl{P:Program}{F:Fns}(hF:FnsOk (Iw P) F)(hx:∀S,Rd (goT (Iw P) S) F doX){ids:List Nat}{g:Nat}{args:List CV}{m:Mem}{k:CV→Mem→Bool}(h:(ndFun P ids g).run F args m k=true) :
  ∀R args' ρ σ σ₀,NoRecv σ₀→VR R args args'→MemX R m ρ σ σ₀→CallsH (Iw P) g args'.toArray ρ σ (fun v ρ' σ'=>∃x m' R',k x m'=true∧XR.le R R'∧Ro.le ρ ρ'∧V1 R' x v∧MemX R' m' ρ' σ' σ₀):=by
 unfold ndFun at h
 split at h
 ·rename_i fn hf
  split at h
  ·rename_i c hc
   have h':(match Nat.ble (xLen args) fn.ntmps with
    | true=>(ndK P ids fn.ntmps c).run F ⟨xArgEnv args 0 .leaf,m,[]⟩ (fun r=>match r with
     | .n st=>finN (resK P fn.results.toList).run st k
     | .r st=>finN (resK P fn.results.toList).run st k
     | _=>false)
    | false=>false)=true:=h
   split at h'
   ·rename_i hb
    have d:=lZ2 hb
    rw[Df]at d
    intro R args' ρ σ σ₀ hn hv hm
    refine Oy hf hc rfl (by rw[←hv.len];exact d) ?_
    refine Adw (Bef hF hx c _ _ h' ⟨g,.normal,none⟩ R (Pn args') [] ρ σ σ₀ (by simp) hn rfl ⟨Sa hv,hm,.nil⟩) ?_
    rintro ex e' ds' ρ' σ' ⟨st',R',b,j,p,q⟩
    have fin:finN (resK P fn.results.toList).run st' k=true→Aki (Iw P) fn (fun v ρ' σ'=>∃x m' R',k x m'=true∧XR.le R R'∧Ro.le ρ ρ'∧V1 R' x v∧MemX R' m' ρ' σ' σ₀) e' ρ' ds' σ':=fun a=>by
     unfold finN at a
     split at a
     ·rename_i x m' hxf
      have:=Bdr (C:=Iw P) hxf q
      exact Ake (fun v ρ'' σ'' ⟨e,f,i⟩=>⟨x,m',R',a,j,e ▸ p,f,i⟩) this
     ·cases a
    cases ex with
    | normal=>exact⟨by simp,fin b⟩
    | exit id=>cases b
    | ret=>exact⟨by simp,fin b⟩
   ·cases h'
  ·cases h
 ·cases h
end
section
open Go Go.Conc
noncomputable def eqP2(x y:CV×CV):Bool:=match eqV 50 x.1 y.1 with|true=>eqV 50 x.2 y.2|false=>false
noncomputable def eqO:CO→CO→Bool
 | .cells l,.cells l'=>eqLs (eqV 50) l l'
 | .grow n l,.grow n' l'=>match Nat.beq n n' with|true=>eqLs (eqV 50) l l'|false=>false
 | .map es,.map es'=>eqLs eqP2 es es'
 | .dead,.dead=>true
 | _,_=>false
noncomputable def eqCl:Cell→Cell→Bool
 | .own o,.own o'=>eqO o o'
 | .ro o,.ro o'=>eqO o o'
 | _,_=>false
theorem Ue{a b:CO}(h:eqO a b=true):a=b:=by
 unfold eqO at h
 split at h
 ·rw[Ix (Ol 50) h]
 ·split at h
  ·rename_i hn;rw[lZ4 hn,Ix (Ol 50) h]
  ·cases h
 ·refine congrArg _ (Ix (fun x y h=>?_) h)
  unfold eqP2 at h
  split at h
  ·rename_i h1
   exact Prod.ext (Ol 50 _ _ h1) (Ol 50 _ _ h)
  ·cases h
 ·rfl
 ·cases h
theorem Azx{a b:Cell}(h:eqCl a b=true):a=b:=by
 unfold eqCl at h
 split at h
 ·rw[Ue h]
 ·rw[Ue h]
 ·cases h
noncomputable def treeOf(l:List (Nat×Cell)):Tr Cell:=List.rec (motive:=fun _=>Tr Cell) .leaf (fun a _ ih=>ih.set a.1 a.2) l
theorem Vr(a:Nat×Cell)(l:List (Nat×Cell)):treeOf (a::l)=(treeOf l).set a.1 a.2:=rfl
theorem Dz:∀(l:List (Nat×Cell)) (k:Nat) (c:Cell),(treeOf l).get k=some c→(k,c)∈l
 | [],k,c,h=>by rw[show treeOf [] = .leaf from rfl,Acw]at h;cases h
 | a::l,k,c,h=>by
  rw[Vr,Tr.get_set]at h
  split at h
  ·rename_i hk
   cases h
   subst hk
   exact Me ..
  ·exact lZ0 _ (Dz l k c h)
/-- The own blocks that are not spoken of are put aside. -/
theorem MemX.cut{R:XR}{m:Mem}{ρ:Ro}{σ σ₀:Own}{cs:List (Nat×Cell)}(h:MemX R m ρ σ σ₀)(hc:∀k c,(k,c)∈cs→m.M.get k=some c) :
  ∃L':List (Nat×Nat×Res),(∀p∈L',(treeOf cs).get p.1=none∧∃c o,R p.1=some (p.2.1,c)∧m.M.get p.1=some (.own o)∧ObjR R c o p.2.2)∧(L'.map Prod.fst).Nodup∧(∀k o,m.M.get k=some (.own o)→o ≠ .dead→(treeOf cs).get k=none→∃q,(k,q)∈L') ∧
   MemX R ⟨treeOf cs,m.nx,[],0,[]⟩ ρ σ (L'.map Prod.snd++σ₀):=by
 obtain⟨L,G,h⟩:=h
 let q:Nat×Nat×Res→Bool:=fun p=>((treeOf cs).get p.1).isSome
 refine⟨L.filter fun p=>!q p,fun p hp=>?_,?_,fun k o hk hd hn=>?_,L.filter q,G,?_,?_,fun p hp=>?_,fun k o hk hd=>?_,fun k o hk=>?_,h.gar,h.lt,h.glob⟩
 ·obtain⟨b,a⟩:=Lp.1 hp
  refine⟨?_,h.own p b⟩
  have:((treeOf cs).get p.1).isSome=false:=by simpa[q]using a
  simpa using this
 ·exact h.nd.sublist (List.filter_sublist.map _)
 ·obtain⟨z,hz⟩:=h.all k o hk hd
  exact⟨z,Lp.2 ⟨hz,by simp[q,hn]⟩⟩
 ·have b:(L.filter q++L.filter fun p=>!q p).Perm L:=List.filter_append_perm q L
  have a:=b.map Prod.snd
  rw[Ga]at a
  refine h.perm.trans ?_
  have g:((L.map Prod.snd)++(G++σ₀)).Perm (((L.filter q).map Prod.snd++(L.filter fun p=>!q p).map Prod.snd)++(G++σ₀)):=a.symm.append_right _
  refine g.trans ?_
  rw[lZ6]
  refine List.Perm.append_left _ ?_
  rw[←lZ6,←lZ6]
  exact List.perm_append_comm.append_right _
 ·exact h.nd.sublist (List.filter_sublist.map _)
 ·obtain⟨b,a⟩:=Lp.1 hp
  obtain⟨c,o,d,e,f⟩:=h.own p b
  refine⟨c,o,d,?_,f⟩
  show (treeOf cs).get p.1=_
  cases hg:(treeOf cs).get p.1 with
  | none=>simp[q,hg]at a
  | some c' =>
   have:=hc _ _ (Dz cs _ _ hg)
   rw[e]at this
   exact this.symm
 ·have hk':(treeOf cs).get k=some (.own o):=hk
  have:=hc _ _ (Dz cs _ _ hk')
  obtain⟨z,hz⟩:=h.all k o this hd
  exact⟨z,Lp.2 ⟨hz,by simp[q,hk']⟩⟩
 ·have hk':(treeOf cs).get k=some (.ro o):=hk
  exact h.ro k o (hc _ _ (Dz cs _ _ hk'))
noncomputable def xSame(j:Nat):Nat:=j
noncomputable def renE(es:List (CV×CV)):List (CV×CV):=List.rec (motive:=fun _=>List (CV×CV)) [] (fun a _ ih=>(xRenV xSame a.1,xRenV xSame a.2)::ih) es
/-- An object whose numbers are listed;what is no data becomes what nothing is compared with. -/
noncomputable def renO:CO→CO
 | .cells l=>.cells (xRenL xSame l)
 | .grow n l=>.grow n (xRenL xSame l)
 | .map es=>.map (renE es)
 | .dead=>.dead
 | _=>.defd
noncomputable def renCl:Cell→Cell
 | .own o=>.own (renO o)
 | .ro o=>.ro (renO o)
noncomputable def keysE2(es:List (CV×CV)):List Nat:=List.rec (motive:=fun _=>List Nat) [] (fun a _ ih=>xApp (xKeysV a.1) (xApp (xKeysV a.2) ih)) es
noncomputable def keysO2:CO→List Nat
 | .cells l=>xKeysL l
 | .grow _ l=>xKeysL l
 | .map es=>keysE2 es
 | _=>[]
noncomputable def keysCl:Cell→List Nat
 | .own o=>keysO2 o
 | .ro o=>keysO2 o
noncomputable def xAllBe(n:Nat)(l:List Nat):Bool:=List.rec (motive:=fun _=>Bool) true (fun a _ ih=>match Nat.ble (Nat.succ a) n with|true=>ih|false=>false) l
theorem Ahc{n:Nat}:∀{l:List Nat},xAllBe n l=true→∀j∈l,j<n
 | a::l,h,j,hj=>by
  have h':(match Nat.ble (Nat.succ a) n with|true=>xAllBe n l|false=>false)=true:=h
  split at h'
  ·rename_i ha
   rcases lZ5.1 hj with rfl|hj
   ·exact lZ2 ha
   ·exact Ahc h' j hj
  ·cases h'
/-- Numbers below n alone. -/
def XR.below(R:XR)(n:Nat):XR:=fun j=>if j<n then R j else none
theorem Sc{R:XR}{n:Nat}{l:List Nat}(h:xAllBe n l=true):RenOk xSame R (R.below n) l:=fun j hj z hz=>by
 show (if j<n then R j else none)=some z
 rw[if_pos (Ahc h j hj)];exact hz
theorem Atw{R R':XR}{n:Nat}(h:XR.le R R')(hn:∀k q,R k=some q→k<n):XR.le R (R'.below n):=fun k q hk=>by
 show (if k<n then R' k else none)=some q
 rw[if_pos (hn k q hk)];exact h k q hk
theorem V1.below{R:XR}{n:Nat}{x:CV}{v:Value}(h:V1 R x v)(hk:xAllBe n (xKeysV x)=true):V1 (R.below n) (xRenV xSame x) v:=by
 have a:VR R [x] [v]:=h
 have:=a.ren (φ:=xSame) (R':=R.below n) (by
  rw[Bf]
  intro j hj z hz
  rcases lZ9.1 hj with hj|hj
  ·exact Sc hk j hj z hz
  ·cases hj)
 exact this
theorem Aks{R:XR}{n:Nat}{l:List CV}{l':List Value}(h:VR R l l')(hk:xAllBe n (xKeysL l)=true):VR (R.below n) (xRenL xSame l) l':=h.ren (Sc hk)
theorem Adp:∀(es:List (CV×CV)),(∀j∈xKeysL (es.map Prod.fst),j∈keysE2 es)∧(∀j∈xKeysL (es.map Prod.snd),j∈keysE2 es)∧(renE es).map Prod.fst=xRenL xSame (es.map Prod.fst)∧(renE es).map Prod.snd=xRenL xSame (es.map Prod.snd)
 | []=>⟨fun _ h=>h,fun _ h=>h,rfl,rfl⟩
 | a::es=>by
  obtain⟨h1,h2,h3,h4⟩:=Adp es
  have e:keysE2 (a::es)=xKeysV a.1++(xKeysV a.2++keysE2 es):=by
   show xApp (xKeysV a.1) (xApp (xKeysV a.2) (keysE2 es))=_
   rw[Et,Et]
  refine⟨fun j hj=>?_,fun j hj=>?_,?_,?_⟩
  ·rw[Ez,Bf]at hj
   rw[e]
   rcases lZ9.1 hj with hj|hj
   ·exact Ia _ hj
   ·exact Hb _ (Hb _ (h1 j hj))
  ·rw[Ez,Bf]at hj
   rw[e]
   rcases lZ9.1 hj with hj|hj
   ·exact Hb _ (Ia _ hj)
   ·exact Hb _ (Hb _ (h2 j hj))
  ·show xRenV xSame a.1::(renE es).map Prod.fst=_
   rw[h3];rfl
  ·show xRenV xSame a.2::(renE es).map Prod.snd=_
   rw[h4];rfl
theorem ObjR.below{R:XR}{c n:Nat}{o:CO}{r:Res}(h:ObjR R c o r)(hd:renO o ≠ .defd)(hk:xAllBe n (keysO2 o)=true):ObjR (R.below n) c (renO o) r:=by
 cases h with
 | cells h1 h2=>exact .cells (Aks h1 hk) h2
 | grow h1 h2 h3 h4=>exact .grow (Aks h1 hk) h2 h3 h4
 | @map es en ck h1 h2 h3 =>
  obtain⟨a,b,d,e⟩:=Adp es
  refine .map (es:=renE es) ?_ ?_ h3
  ·rw[d];exact h1.ren fun j hj=>Sc hk j (a j hj)
  ·rw[e];exact h2.ren fun j hj=>Sc hk j (b j hj)
 | loop=>exact absurd rfl hd
 | defd=>exact absurd rfl hd
 | chan=>exact absurd rfl hd
 | rcv=>exact absurd rfl hd
 | crowd=>exact absurd rfl hd
 | iter=>exact absurd rfl hd
theorem ObjO.below{R:XR}{c n:Nat}{o:CO}{x:Obj}(h:ObjO R c o x)(hd:renO o ≠ .defd)(hk:xAllBe n (keysO2 o)=true):ObjO (R.below n) c (renO o) x:=let ⟨f,h⟩:=h;⟨f,h.below hd hk⟩
theorem Ast{o:CO}(h:renO o ≠ .dead):o ≠ .dead:=fun e=>h (by rw[e];rfl)
/-- A call that is known: function,first number,arguments,the cells that it looks at;its value,the cells that it leaves,the last number. -/
structure EntC where
 ids:List Nat:=[]
 g:Nat
 nx:Nat
 args:List CV
 cs:List (Nat×Cell)
 x:CV
 outs:List (Nat×Cell)
 nx':Nat
noncomputable def xEvery(f:Nat×Cell→Bool)(l:List (Nat×Cell)):Bool:=List.rec (motive:=fun _=>Bool) true (fun a _ ih=>match f a with|true=>ih|false=>false) l
theorem Ln{f:Nat×Cell→Bool}:∀{l:List (Nat×Cell)},xEvery f l=true→∀a∈l,f a=true
 | a::l,h,b,hb=>by
  have h':(match f a with|true=>xEvery f l|false=>false)=true:=h
  split at h'
  ·rename_i ha
   rcases lZ5.1 hb with rfl|hb
   ·exact ha
   ·exact Ln h' b hb
  ·cases h'
noncomputable def eqAt(M:Tr Cell)(a:Nat×Cell):Bool:=match M.get a.1 with|some c=>eqCl c a.2|none=>false
theorem Aod{M:Tr Cell}{a:Nat×Cell}(h:eqAt M a=true):M.get a.1=some a.2:=by
 unfold eqAt at h
 split at h
 ·rename_i c hc
  rw[hc,Azx h]
 ·cases h
noncomputable def layO(outs:List (Nat×Cell))(M:Tr Cell):Tr Cell:=List.rec (motive:=fun _=>Tr Cell) M (fun a _ ih=>ih.set a.1 a.2) outs
theorem Arn(a:Nat×Cell)(l:List (Nat×Cell))(M:Tr Cell):layO (a::l) M=(layO l M).set a.1 a.2:=rfl
theorem Zg(M:Tr Cell)(k:Nat):∀l:List (Nat×Cell),(layO l M).get k=match (treeOf l).get k with|some c=>some c|none=>M.get k
 | []=>by rw[show treeOf [] = .leaf from rfl,Acw];rfl
 | a::l=>by
  rw[Arn,Vr,Tr.get_set,Tr.get_set]
  split
  ·rfl
  ·exact Zg M k l
noncomputable def keysE(l:List (Nat×Cell))(r:List Nat):List Nat:=List.rec (motive:=fun _=>List Nat) r (fun a _ ih=>a.1::ih) l
theorem Aim(r:List Nat):∀l:List (Nat×Cell),keysE l r=l.map Prod.fst++r
 | []=>rfl
 | a::l=>congrArg (a.1::·) (Aim r l)
noncomputable def isAt(t:Tr Cell)(k:Nat):Bool:=match t.get k with|some _=>true|none=>false
/-- A cell as it is wanted. -/
noncomputable def eqAtR(n:Nat)(M:Tr Cell)(a:Nat×Cell):Bool:=match M.get a.1 with
 | some c=>match xAllBe n (keysCl c),Nat.ble (Nat.succ a.1) n with
  | true,true=>eqCl (renCl c) a.2
  | _,_=>false
 | none=>false
theorem Ahq{n:Nat}{M:Tr Cell}{a:Nat×Cell}(h:eqAtR n M a=true):∃c,M.get a.1=some c∧eqCl (renCl c) a.2=true∧xAllBe n (keysCl c)=true∧a.1<n:=by
 unfold eqAtR at h
 split at h
 ·rename_i c hc
  split at h
  ·rename_i h1 h2
   exact⟨c,hc,h,h1,lZ2 h2⟩
  ·cases h
 ·cases h
/-- What the run must have come to. -/
noncomputable def chkE(E:EntC)(x:CV)(m:Mem):Bool:=match eqV 50 (xRenV xSame x) E.x,xAllBe E.nx' (xKeysV x),xEvery (eqAtR E.nx' m.M) E.outs,xEvery (fun a=>match isAt (treeOf E.outs) a.1 with|true=>true|false=>eqAtR E.nx' m.M a) E.cs,xNoRes m.M with
 | true,true,true,true,true=>true
 | _,_,_,_,_=>false
noncomputable def fineE(E:EntC):Bool:=match xEvery (fun a=>match isAt (treeOf E.cs) a.1 with|true=>true|false=>Nat.ble E.nx a.1) E.outs,Nat.ble E.nx E.nx' with
 | true,true=>true
 | _,_=>false
noncomputable def runE(P:Program)(F:Fns)(E:EntC):Bool:=match fineE E with
 | true=>(ndFun P E.ids E.g).run F E.args ⟨treeOf E.cs,E.nx,[],0,[]⟩ (chkE E)
 | false=>false
noncomputable def memE(E:EntC)(m:Mem):Mem:=⟨layO E.outs m.M,E.nx',keysE E.outs m.log,xLen E.outs+m.ln,m.outs⟩
/-- It is such a call. -/
noncomputable def fitE(E:EntC)(args:List CV)(m:Mem):Bool:=match Nat.beq m.nx E.nx,eqLs (eqV 50) args E.args,xEvery (eqAt m.M) E.cs,xNoRes m.M with
 | true,true,true,true=>true
 | _,_,_,_=>false
theorem NoRecv.resL{R:XR}{m:Mem}{σ₀:Own}{L':List (Nat×Nat×Res)}(hn:NoRecv σ₀)(hr:xNoRes m.M=true)(hL:∀p∈L',∃c o,R p.1=some (p.2.1,c)∧m.M.get p.1=some (.own o)∧ObjR R c o p.2.2):NoRecv (L'.map Prod.snd++σ₀):=by
 refine⟨fun c vs hm=>?_,fun c k Rs hm=>?_⟩
 ·rcases lZ9.1 hm with h1|h1
  ·obtain⟨p,hp,e⟩:=Gb.1 h1
   obtain⟨d,o1,f,b,a⟩:=hL p hp
   have hg:=Lb m.M p.1 hr
   rw[b]at hg
   rw[e]at a
   cases a with
   | rcv hv=>cases hg
  ·exact hn.recv c vs h1
 ·rcases lZ9.1 hm with h1|h1
  ·obtain⟨p,hp,e⟩:=Gb.1 h1
   obtain⟨d,o1,f,b,a⟩:=hL p hp
   have hg:=Lb m.M p.1 hr
   rw[b]at hg
   rw[e]at a
   cases a with
   | @crowd n ms Rs hms =>
    cases ms with
    | nil =>
     cases Rs with
     | nil=>rfl
     | cons=>exact hms.elim
    | cons=>cases hg
  ·exact hn.crowd c k Rs h1
/-- No data: nothing is compared with it. -/
theorem Ahu{a b:CO}(h:eqO a b=true):b ≠ .defd:=fun e=>by
 subst e
 cases a<;>cases h
theorem Aca{n:Nat}{M:Tr Cell}{k:Nat}{o:CO}(h:eqAtR n M (k,.own o)=true):∃o1,M.get k=some (.own o1)∧renO o1=o∧renO o1 ≠ .defd∧xAllBe n (keysO2 o1)=true∧k<n:=by
 obtain⟨c,b,a,d,e⟩:=Ahq h
 cases c with
 | own o1 =>
  have h':eqO (renO o1) o=true:=a
  exact⟨o1,b,Ue h',by rw[Ue h'];exact Ahu h',d,e⟩
 | ro o1=>cases a
theorem Ahr{n:Nat}{M:Tr Cell}{k:Nat}{o:CO}(h:eqAtR n M (k,.ro o)=true):∃o1,M.get k=some (.ro o1)∧renO o1=o∧renO o1 ≠ .defd∧xAllBe n (keysO2 o1)=true∧k<n:=by
 obtain⟨c,b,a,d,e⟩:=Ahq h
 cases c with
 | ro o1 =>
  have h':eqO (renO o1) o=true:=a
  exact⟨o1,b,Ue h',by rw[Ue h'];exact Ahu h',d,e⟩
 | own o1=>cases a
/-- The run's memory,laid over what was put aside. -/
theorem MemX.join{E:EntC}{R R':XR}{m m1:Mem}{ρ ρ':Ro}{σ σ' σ₀:Own}{L':List (Nat×Nat×Res)}(hm:MemX R m ρ σ σ₀)(hR:XR.le R R')(hρ:Ro.le ρ ρ')(hnx:m.nx=E.nx)(hcs:∀a∈E.cs,m.M.get a.1=some a.2)
  (c1:∀p∈L',(treeOf E.cs).get p.1=none∧∃c o,R p.1=some (p.2.1,c)∧m.M.get p.1=some (.own o)∧ObjR R c o p.2.2) (c2:(L'.map Prod.fst).Nodup) (c3:∀k o,m.M.get k=some (.own o)→o ≠ .dead→(treeOf E.cs).get k=none→∃q,(k,q)∈L')
  (h1:MemX R' m1 ρ' σ' (L'.map Prod.snd++σ₀)) (o1:∀a∈E.outs,eqAtR E.nx' m1.M a=true) (o2:∀a∈E.cs,(treeOf E.outs).get a.1=none→eqAtR E.nx' m1.M a=true) (o3:xNoRes m1.M=true) (o4:E.nx≤E.nx') (o5:∀a∈E.outs,(treeOf E.cs).get a.1=none→E.nx≤a.1) :
  XR.le R (R'.below E.nx')∧∃σ'',Ghost ρ' σ' ρ' σ''∧MemX (R'.below E.nx') (memE E m) ρ' σ'' σ₀:=by
 obtain⟨L,G,hm⟩:=hm
 obtain⟨t,H,h1⟩:=h1
 have hlt:∀k q,R k=some q→k<E.nx':=fun k q hk=>by
  have:=hm.lt k q hk
  rw[hnx]at this
  exact Je this o4
 have hRb:=Atw hR hlt
 refine⟨hRb,?_⟩
 have bel:∀{k q},k<E.nx'→R' k=some q→R'.below E.nx' k=some q:=fun {k q} hk hq=>by
  show (if k<E.nx' then R' k else none)=some q
  rw[if_pos hk];exact hq
 have ct:∀k c,(treeOf E.cs).get k=some c→m.M.get k=some c:=fun k c h=>hcs (k,c) (Dz _ _ _ h)
 have old:∀k q,R k=some q→(treeOf E.cs).get k=none→(treeOf E.outs).get k=none:=fun k q hk hn=>by
  cases ho:(treeOf E.outs).get k with
  | none=>rfl
  | some c =>
   have:=o5 (k,c) (Dz _ _ _ ho) hn
   have J:=hm.lt k q hk
   rw[hnx]at J
   exact absurd J (Nat.not_lt.2 this)
 have mg:∀k,(memE E m).M.get k=match (treeOf E.outs).get k with|some c=>some c|none=>m.M.get k:=fun k=>Zg m.M k E.outs
 have mk:∀k c,((treeOf E.outs).get k=some c∨((treeOf E.outs).get k=none∧(treeOf E.cs).get k=some c))→(memE E m).M.get k=some c∧eqAtR E.nx' m1.M (k,c)=true:=fun k c h=>by
  rcases h with h|⟨h,h'⟩
  ·exact⟨by rw[mg,h],o1 (k,c) (Dz _ _ _ h)⟩
  ·exact⟨by rw[mg,h];exact ct _ _ h',o2 (k,c) (Dz _ _ _ h') h⟩
 let q:Nat×Nat×Res→Bool:=fun p=>((treeOf E.outs).get p.1).isSome||((treeOf E.cs).get p.1).isSome
 have qn:∀{p},q p=true→∃c,(treeOf E.outs).get p.1=some c∨((treeOf E.outs).get p.1=none∧(treeOf E.cs).get p.1=some c):=fun {p} hq=>by
  cases ho:(treeOf E.outs).get p.1 with
  | some c=>exact⟨c,.inl rfl⟩
  | none =>
   simp only[q,ho,Aip,Aox]at hq
   obtain⟨c,hc⟩:=Amj.1 hq
   exact⟨c,.inr ⟨rfl,hc⟩⟩
 have drop:∀p∈(t.filter fun p=>!q p).map Prod.snd,(∃o,p.2=Res.obj o)∨∃n,p.2=Res.crowd n []:=fun p hp=>by
  obtain⟨p',hp',rfl⟩:=Gb.1 hp
  obtain⟨c,o,f,g,i⟩:=h1.own p' (Lp.1 hp').1
  have hg:=Lb m1.M p'.1 o3
  rw[g]at hg
  generalize p'.2.2=r at i
  cases i with
  | cells=>exact .inl ⟨_,rfl⟩
  | grow=>exact .inl ⟨_,rfl⟩
  | map=>exact .inl ⟨_,rfl⟩
  | loop=>exact .inl ⟨_,rfl⟩
  | defd=>exact .inl ⟨_,rfl⟩
  | iter=>exact .inl ⟨_,rfl⟩
  | chan=>cases hg
  | rcv=>cases hg
  | @crowd n ms Rs hms =>
   cases ms with
   | nil =>
    cases Rs with
    | nil=>exact .inr ⟨_,rfl⟩
    | cons=>exact hms.elim
   | cons=>cases hg
 refine⟨((t.filter q++L').map Prod.snd)++(H++σ₀),(Ghost.perm ?_).trans (Ghost.drops drop),t.filter q++L',H,.refl _,?_,fun p hp=>?_,fun k o hk hd=>?_,fun k o hk=>?_,h1.gar,fun k z hk=>?_,fun k hk=>hRb _ _ (hm.glob k hk)⟩
 ·have D:(t.filter q++t.filter fun p=>!q p).Perm t:=List.filter_append_perm q t
  have w:=D.map Prod.snd
  rw[Ga]at w
  refine h1.perm.trans ?_
  refine(w.symm.append_right _).trans ?_
  rw[Ga]
  refine(List.perm_append_comm.append_right _).trans ?_
  rw[lZ6,lZ6]
  refine List.Perm.append_left _ (List.Perm.append_left _ ?_)
  rw[←lZ6,←lZ6]
  exact List.perm_append_comm.append_right _
 ·rw[Ga,Wf]
  refine⟨h1.nd.sublist (List.filter_sublist.map _),c2,fun a ha b hb e=>?_⟩
  subst e
  obtain⟨p,hp,D⟩:=Gb.1 ha
  obtain⟨p',hp',w⟩:=Gb.1 hb
  subst D
  obtain⟨hn,c,o,f,_⟩:=c1 p' hp'
  rw[w]at hn f
  obtain⟨c',hc'⟩:=qn (Lp.1 hp).2
  rcases hc' with hc'|⟨_,hc'⟩
  ·rw[old _ _ f hn]at hc';cases hc'
  ·rw[hn]at hc';cases hc'
 ·rcases lZ9.1 hp with hp|hp
  ·obtain⟨K,N⟩:=Lp.1 hp
   obtain⟨c,o,f,g,i⟩:=h1.own p K
   obtain⟨cl,hcl⟩:=qn N
   obtain⟨O,u⟩:=mk p.1 cl hcl
   cases cl with
   | own o' =>
    obtain⟨oo,j,v,y,B,C⟩:=Aca u
    rw[g]at j;cases j
    exact⟨c,o',bel C f,O,by rw[←v];exact i.below y B⟩
   | ro o' =>
    obtain⟨oo,j,_⟩:=Ahr u
    rw[g]at j;cases j
  ·obtain⟨hn,c,o,f,g,i⟩:=c1 p hp
   refine⟨c,o,hRb _ _ f,?_,i.mono hRb⟩
   rw[mg,old _ _ f hn]
   exact g
 ·have F:((treeOf E.outs).get k=some (.own o)∨((treeOf E.outs).get k=none∧(treeOf E.cs).get k=some (.own o)))∨((treeOf E.outs).get k=none∧(treeOf E.cs).get k=none∧m.M.get k=some (.own o)):=by
   rw[mg]at hk
   cases ho:(treeOf E.outs).get k with
   | some d=>rw[ho]at hk;cases hk;exact .inl (.inl rfl)
   | none =>
    rw[ho]at hk
    have hk:m.M.get k=some (.own o):=hk
    cases hc:(treeOf E.cs).get k with
    | some c=>have I:=ct _ _ hc;rw[hk]at I;cases I;exact .inl (.inr ⟨rfl,rfl⟩)
    | none=>exact .inr ⟨rfl,rfl,hk⟩
  rcases F with hc|⟨_,hc,hk'⟩
  ·obtain⟨_,u⟩:=mk k _ hc
   obtain⟨oo,j,v,y,B,C⟩:=Aca u
   obtain⟨z,hz⟩:=h1.all k oo j (Ast (by rw[v];exact hd))
   refine⟨z,Ia _ (Lp.2 ⟨hz,?_⟩)⟩
   rcases hc with hc|⟨_,hc⟩<;>simp[q,hc]
  ·obtain⟨z,hz⟩:=c3 k o hk' hd hc
   exact⟨z,Hb _ hz⟩
 ·have F:((treeOf E.outs).get k=some (.ro o)∨((treeOf E.outs).get k=none∧(treeOf E.cs).get k=some (.ro o)))∨m.M.get k=some (.ro o):=by
   rw[mg]at hk
   cases ho:(treeOf E.outs).get k with
   | some d=>rw[ho]at hk;cases hk;exact .inl (.inl rfl)
   | none=>rw[ho]at hk;exact .inr hk
  rcases F with hc|hk'
  ·obtain⟨_,u⟩:=mk k _ hc
   obtain⟨oo,j,v,y,B,C⟩:=Ahr u
   obtain⟨b,c,x,f,g,i⟩:=h1.ro k oo j
   exact⟨b,c,x,bel C f,g,by rw[←v];exact i.below y B⟩
  ·obtain⟨b,c,x,f,g,i⟩:=hm.ro k o hk'
   exact⟨b,c,x,hRb _ _ f,hρ _ _ g,i.mono hRb⟩
 ·have hk':(if k<E.nx' then R' k else none)=some z:=hk
  split at hk'
  ·assumption
  ·cases hk'
/-- What is known of it. -/
def Fd(P:Program)(E:EntC):Prop:=∀args m,fitE E args m=true→Kept m (memE E m)∧∀R args' ρ σ σ₀,NoRecv σ₀→VR R args args'→MemX R m ρ σ σ₀ →
  CallsH (Iw P) E.g args'.toArray ρ σ (fun v ρ' σ'=>∃R',XR.le R R'∧Ro.le ρ ρ'∧V1 R' E.x v∧MemX R' (memE E m) ρ' σ' σ₀)
theorem Up{E:EntC}{m:Mem}(h:fineE E=true)(hnx:m.nx=E.nx):Kept m (memE E m):=by
 unfold fineE at h
 split at h
 ·rename_i h1 h2
  refine⟨by rw[hnx];exact lZ2 h2,⟨E.outs.map Prod.fst,Aim _ _,by rw[Abh,Yx];show xLen E.outs+m.ln=_;rw[Df],fun k _ hn=>Zq ?_⟩,[],rfl,by simp⟩
  show (layO E.outs m.M).get k=_
  rw[Zg]
  cases ho:(treeOf E.outs).get k with
  | none=>rfl
  | some c=>exact absurd (Im (f:=Prod.fst) (Dz _ _ _ ho)) hn
 ·cases h
theorem Bdo{P:Program}{F:Fns}{E:EntC}(hF:FnsOk (Iw P) F)(hx:∀S,Rd (goT (Iw P) S) F doX)(h:runE P F E=true):Fd P E:=by
 unfold runE at h
 split at h
 ·rename_i hf
  intro D m b
  unfold fitE at b
  split at b
  ·rename_i a1 a2 a3 a4
   have hnx:=lZ4 a1
   have w:=Ix (Ol 50) a2
   subst w
   have hcs:∀a∈E.cs,m.M.get a.1=some a.2:=fun a ha=>Aod (Ln a3 a ha)
   refine⟨Up hf hnx,fun R i ρ σ σ₀ hn hv hm=>?_⟩
   obtain⟨L',e,j,n,f⟩:=hm.cut (cs:=E.cs) (fun k c hk=>hcs (k,c) hk)
   have hn':NoRecv (L'.map Prod.snd++σ₀):=hn.resL (R:=R) a4 fun p hp=>(e p hp).2
   rw[hnx]at f
   have y:=Awl hF hx h R i ρ σ _ hn' hv f
   intro c cs
   refine(y c cs).bind ?_
   rintro _ _ ρ' σ' ⟨v,rfl,rfl,x,G,R',d,z,g,B,C⟩
   unfold chkE at d
   split at d
   ·rename_i b1 b2 b3 b4 b5
    have hxe:=Ol 50 _ _ b1
    unfold fineE at hf
    split at hf
    ·rename_i f1 f2
     obtain⟨q,σ'',t,u⟩:=MemX.join (E:=E) hm z g hnx hcs e j n C (fun a ha=>Ln b3 a ha) (fun a ha ho=>by
       have:=Ln b4 a ha
       simp only[isAt,ho]at this
       exact this) b5 (lZ2 f2) (fun a ha ho=>by
       have:=Ln f1 a ha
       simp only[isAt,ho]at this
       exact lZ2 this)
     exact .ghost t (.stop ⟨v,rfl,rfl,R'.below E.nx',q,g,by rw[←hxe];exact B.below b2,u⟩)
    ·cases hf
   ·cases d
  ·cases b
 ·cases h
noncomputable def xHook(es:List EntC)(g:Nat)(args:List CV)(m:Mem):Option (CV×Mem):=List.rec (motive:=fun _=>Option (CV×Mem)) none
 (fun E _ ih=>match Nat.beq E.g g with
  | true=>match fitE E args m with|true=>some (E.x,memE E m)|false=>ih
  | false=>ih) es
/-- The runs of the first goroutine's functions,n calls deep,some calls being known. -/
noncomputable def xFnsH(P:Program)(es:List EntC)(n:Nat):Fns:=Nat.rec ⟨true,0,fun _ _ _ _=>.bad,fun _ _ _=>.bad,fun _ _ _ _=>none,fun _ _ _=>none⟩
 (fun n F=>⟨true,0,fun n rd c st=>match codeK P doX n c with|⟨f⟩=>f F rd st,
  fun g args m=>match xHook es g args m with|some (x,m')=>.v x m'|none=>match funK P g with|⟨f⟩=>f F args m,
  fun g args m k=>match sendK P g with|⟨f⟩=>f (xWF P n) args m k,fun g args m=>match msgK P g with|⟨f⟩=>f (xWF P n) args m⟩) n
theorem Aoi{P:Program}{g:Nat}{args:List CV}{m m':Mem}{x:CV}:∀{es:List EntC},(∀E∈es,Fd P E)→xHook es g args m=some (x,m')→Kept m m'∧∀R args' ρ σ σ₀,NoRecv σ₀→VR R args args'→MemX R m ρ σ σ₀ →
  CallsH (Iw P) g args'.toArray ρ σ (fun v ρ' σ'=>∃R',XR.le R R'∧Ro.le ρ ρ'∧V1 R' x v∧MemX R' m' ρ' σ' σ₀)
 | [],_,h=>by cases h
 | E::es,he,h=>by
  have h':(match Nat.beq E.g g with
   | true=>match fitE E args m with|true=>some (E.x,memE E m)|false=>xHook es g args m
   | false=>xHook es g args m)=some (x,m'):=h
  have rest:xHook es g args m=some (x,m')→_:=Aoi fun E' hE=>he E' (lZ0 _ hE)
  split at h'
  ·rename_i hg
   split at h'
   ·rename_i hf
    cases h'
    have:=lZ4 hg
    subst this
    exact he E mC args m hf
   ·exact rest h'
  ·exact rest h'
theorem Po(P:Program){es:List EntC}(he:∀E∈es,Fd P E):∀n,FnsOk (Iw P) (xFnsH P es n)∧Bce P (xFnsH P es n)∧Bge P (xFnsH P es n)
 | 0=>⟨⟨fun _ _ _ _ _ h=>(by cases h),fun _ _ _ _ _ _ h=>(Cj h).elim⟩,fun _ _ _ _ _ _ h=>(by cases h),fun _ _ _ _ _ _ h=>(by cases h)⟩
 | n+1=>by
  obtain⟨ih,is,im⟩:=Po P he n
  refine⟨⟨fun g a m x m' h=>?_,fun k rd c st ex st' h b S hb=>?_⟩,fun g a m k e ho h=>?_,fun g a m k x d h=>?_⟩
  ·have h':(match xHook es g a m with|some (x,m')=>RV.v x m'|none=>(funK P g).run (xFnsH P es n) a m) = .v x m':=h
   split at h'
   ·rename_i x1 d hh
    cases h'
    exact Aoi he hh
   ·exact Auw (C:=Iw P) ih (fun S=>Afc ih is im S) h'
  ·have h':(codeK P doX k c).run (xFnsH P es n) rd st=Cr ex st':=h
   exact Pt (C:=Iw P) (G:=goT (Iw P) S) ih (Afc ih is im S) (fun _=>⟨⟨S,rfl⟩,fun S=>Afc ih is im S⟩) c h' b hb
  ·have h':(sendK P g).run (xWF P n) a m k=some e:=h
   exact Bbq (Aav P n).1 ho h'
  ·have h':(msgK P g).run (xWF P n) a m=some (k,x,d):=h
   exact Bed (Aav P n).1 (fun S=>Nc (Aav P n).1 (Aav P n).2) h'
def EntsOk(P:Program)(es:List EntC):Prop:=∀E∈es,Fd P E
theorem EntsOk.nil{P:Program}:EntsOk P []:=fun _ h=>by cases h
theorem EntsOk.cons{P:Program}{E:EntC}{es:List EntC}(h:Fd P E)(hs:EntsOk P es):EntsOk P (E::es):=fun E' hE=>(lZ5.1 hE).elim (fun e=>e ▸ h) (hs E')
/-- A call is known by its run. -/
theorem Ef{P:Program}{es:List EntC}{E:EntC}(he:EntsOk P es)(n:Nat)(h:runE P (xFnsH P es n) E=true):Fd P E :=
 Bdo (Po P he n).1 (fun S=>Afc (Po P he n).1 (Po P he n).2.1 (Po P he n).2.2 S) h
/-- A CLOSED CALL that yields a truth value,as it is known. -/
theorem Aqs{P:Program}{E:EntC}(he:Fd P E){m0:Mem}{p:Bool}(hx:E.x = .b p)(hf:fitE E [] m0=true)(hd:xNoRes (memE E m0).M=true){R0:XR}{ρ:Ro}{σ:Own}(hm:MemX R0 m0 ρ σ σ)(hn:NoRecv σ):CallsH (Iw P) E.g #[] ρ σ (fun w ρ' σ'=>ρ'=ρ∧σ'=σ∧w = .bool p):=by
 obtain⟨_,hcl⟩:=he [] m0 hf
 have d:=hcl R0 [] ρ σ σ hn .nil hm
 intro c cs
 refine(d c cs).bind ?_
 rintro _ _ ρ' σ' ⟨v,rfl,rfl,R',h,e,a,f⟩
 refine .ghost ((f.drop hd).trans (Ghost.forget e)) (.stop ⟨v,rfl,rfl,rfl,rfl,?_⟩)
 rw[hx]at a
 exact Aag a
end
section
open Go Go.Conc
def idF:Fn→Nat
 | .func f=>f
 | _=>0
/-- The number of a variable. -/
def Cv(n:Nat):Nat:=n
noncomputable def eContents1:EntC where
 g:=idF (.func 10)
 nx:=23
 args:=[.g [.sl 17 0 2 true 2,.sl 21 0 3 true 3],.i .i64 (.ofNat 2)]
 cs:=[(17,.own (.cells [.s [104,105,108,108],.s [108,111,119]])),(18,.own (.cells [.s [104,105,108,108],.i .i64 (.ofNat 60),.s [108,111,119],.i .i64 (.ofNat 40)])),(19,.own (.cells [.s [102,105,114,115,116],.i .i64 (.ofNat 50)])),(20,.own (.cells [.s [102,105,114,115,116],.i .i64 (.ofNat 30),.s [115,101,99,111,110,100],.i .i64 (.ofNat 20),.s [108,111,119],.i .i64 (.ofNat 10)])),(21,.own (.cells [.s [102,105,114,115,116],.sl 18 0 2 true 2,.s [115,101,99,111,110,100],.sl 19 0 1 true 1,.s [116,105,110],.sl 20 0 3 true 3]))]
 x:=.t [.sl 384 0 2 false 0,.i .i64 (.ofNat 0)]
 outs:=[(384,.own (.grow 2 [.i .i64 (.ofNat 10),.i .i64 (.ofNat 50),.i .i64 (.ofNat 10),.i .i64 (.ofNat 50)]))]
 nx':=385
noncomputable def eRecall1:EntC where
 g:=idF (.func 13)
 nx:=741
 args:=[.g [.sl 17 0 2 true 2,.sl 21 0 3 true 3],.sl 740 0 1 true 1]
 cs:=[(17,.own (.cells [.s [104,105,108,108],.s [108,111,119]])),(18,.own (.cells [.s [104,105,108,108],.i .i64 (.ofNat 60),.s [108,111,119],.i .i64 (.ofNat 40)])),(19,.own (.cells [.s [102,105,114,115,116],.i .i64 (.ofNat 50)])),(20,.own (.cells [.s [102,105,114,115,116],.i .i64 (.ofNat 30),.s [115,101,99,111,110,100],.i .i64 (.ofNat 20),.s [108,111,119],.i .i64 (.ofNat 10)])),(21,.own (.cells [.s [102,105,114,115,116],.sl 18 0 2 true 2,.s [115,101,99,111,110,100],.sl 19 0 1 true 1,.s [116,105,110],.sl 20 0 3 true 3])),(740,.own (.cells [.i .i64 (.ofNat 1)]))]
 x:=.t [.sl 1224 0 2 false 0,.sl 1226 0 3 false 0,.i .i64 (.ofNat 0)]
 outs:=[(1224,.own (.grow 1 [.i .i64 (.ofNat 0),.i .i64 (.ofNat 2)])),(1226,.own (.grow 1 [.i .i64 (.ofNat 0),.i .i64 (.ofNat 1),.i .i64 (.ofNat 2)]))]
 nx':=1227
noncomputable def eWrite1:EntC where
 g:=idF (.func 6)
 nx:=1228
 args:=[.s [108,111,116,115],.sl 1227 0 2 true 2]
 cs:=[(1227,.own (.cells [.s [97,98],.s [99]]))]
 x:=.t [.s [98,111,111,107,32,108,111,116,115,32,50,32,35,54,55,10,97,98,32,35,48,57,10,99,32,35,49,54,10],.i .i64 (.ofNat 0)]
 outs:=[(1227,.ro (.cells [.s [97,98],.s [99]]))]
 nx':=1228
noncomputable def eRead1:EntC where
 g:=idF (.func 7)
 nx:=1228
 args:=[.s [98,111,111,107,32,108,111,116,115,32,50,32,35,54,55,10,97,98,32,35,48,57,10,99,32,35,49,55,10]]
 cs:=[]
 x:=.t [.s [],.sn,.i .i64 (.ofNat 3),.i .i64 (.ofNat 9)]
 outs:=[]
 nx':=1228
noncomputable def eSp1:EntC where
 g:=idF (.func 101)
 nx:=1294
 args:=[.i .i64 (.negSucc 0),.i .i64 (.ofNat 1)]
 cs:=[]
 x:=.g [.i .i64 (.negSucc 0),.i .i64 (.ofNat 1)]
 outs:=[]
 nx':=1294
noncomputable def eEx21:EntC where
 ids:=[2]
 g:=idF (.func 47)
 nx:=1279
 args:=[]
 cs:=[]
 x:=.t [.g [.sl 1281 0 2 true 2,.sl 1282 0 3 true 3,.i .i64 (.ofNat 10),.i .i64 (.ofNat 24),.i .i64 (.ofNat 20),.i .i64 (.ofNat 4),.sl 1284 0 1 true 1,.sl 1285 0 1 true 1,.sl 1286 0 1 true 1,.i .i64 (.ofNat 100),.i .i64 (.ofNat 120),.i .i64 (.ofNat 100),.i .i64 (.ofNat 200),.sl 1292 0 3 true 3],.g [.i .i64 (.negSucc 0),.i .i64 (.ofNat 1),.sl 1294 0 3 true 3]]
 outs:=[(1281,.own (.cells [.s [97,110,97],.s [114,117,105]])),(1282,.own (.cells [.i .i64 (.ofNat 0),.i .i64 (.ofNat 3),.i .i64 (.ofNat 1),.i .i64 (.ofNat 2),.i .i64 (.ofNat 0),.i .i64 (.ofNat 1)])),(1284,.own (.cells [.i .i64 (.ofNat 30),.i .i64 (.ofNat 31)])),(1285,.own (.cells [.i .i64 (.ofNat 1),.i .i64 (.ofNat 0),.i .i64 (.ofNat 1)])),(1286,.own (.cells [.i .i64 (.ofNat 2),.i .i64 (.ofNat 2),.i .i64 (.ofNat 1)])),(1292,.own (.cells [.s [108,111,119],.i .i64 (.ofNat 0),.i .i64 (.ofNat 1),.i .i64 (.ofNat 300),.i .i64 (.ofNat 400),.i .i64 (.ofNat 5),.s [104,105,103,104],.i .i64 (.ofNat 0),.i .i64 (.ofNat 0),.i .i64 (.ofNat 150),.i .i64 (.ofNat 200),.i .i64 (.ofNat 4),.s [109,105,100],.i .i64 (.ofNat 1),.i .i64 (.ofNat 2),.i .i64 (.ofNat 100),.i .i64 (.ofNat 100),.i .i64 (.ofNat 3)])),(1294,.own (.cells [.i .i64 (.ofNat 1),.i .i64 (.ofNat 13),.i .i64 (.ofNat 15),.i .i64 (.ofNat 0),.i .i64 (.ofNat 15),.i .i64 (.ofNat 16),.i .i64 (.ofNat 1),.i .i64 (.ofNat 17),.i .i64 (.ofNat 19)]))]
 nx':=1295
noncomputable def eDebts1:EntC where
 g:=idF (.func 164)
 nx:=1366
 args:=[.m 1322,.i .i64 (.ofNat 2)]
 cs:=[(1322,.own (.map [(.s [115,49],.g [.s [115,49],.i .i64 (.ofNat 0),.i .i64 (.ofNat 0),.i .i64 (.ofNat 0),.i .i64 (.ofNat 0),.i .i64 (.ofNat 1),.i .i64 (.ofNat 10),.i .i64 (.ofNat 12),.s []]),(.s [103,49],.g [.s [103,49],.i .i64 (.ofNat 1),.i .i64 (.ofNat 0),.i .i64 (.ofNat 0),.i .i64 (.ofNat 1),.i .i64 (.ofNat 1),.i .i64 (.ofNat 4),.i .i64 (.ofNat 4),.s []]),(.s [108,49],.g [.s [108,49],.i .i64 (.ofNat 2),.i .i64 (.ofNat 1),.i .i64 (.ofNat 1),.i .i64 (.ofNat 0),.i .i64 (.ofNat 0),.i .i64 (.ofNat 3),.i .i64 (.ofNat 3),.s []]),(.s [107,49],.g [.s [107,49],.i .i64 (.ofNat 3),.i .i64 (.ofNat 2),.i .i64 (.ofNat 0),.i .i64 (.ofNat 1),.i .i64 (.ofNat 0),.i .i64 (.ofNat 2),.i .i64 (.ofNat 2),.s [108,49]]),(.s [120,49],.g [.s [120,49],.i .i64 (.ofNat 5),.i .i64 (.ofNat 1),.i .i64 (.ofNat 0),.i .i64 (.ofNat 0),.i .i64 (.ofNat 0),.i .i64 (.ofNat 0),.i .i64 (.ofNat 5),.s []])]))]
 x:=.sl 1375 0 1 false 0
 outs:=[(1375,.own (.grow 2 [.s [108,49],.i .i64 (.ofNat 1)]))]
 nx':=1376
noncomputable def eJudge1:EntC where
 g:=idF (.func 365)
 nx:=2299
 args:=[.g [.sl 1585 0 2 false 0,.sl 1587 0 3 false 0,.i .i64 (.ofNat 10),.i .i64 (.ofNat 24),.i .i64 (.ofNat 20),.i .i64 (.ofNat 4),.sl 1589 0 1 false 0,.sl 1591 0 1 false 0,.sl 1593 0 1 false 0,.i .i64 (.ofNat 100),.i .i64 (.ofNat 120),.i .i64 (.ofNat 100),.i .i64 (.ofNat 200),.sl 1595 0 3 false 0],.g [.i .i64 (.negSucc 0),.i .i64 (.ofNat 1),.sl 2298 0 4 false 0]]
 cs:=[((Cv 6),.ro (.cells [.f (idF (.func 389)) [] [],.f (idF (.func 390)) [] [],.f (idF (.func 391)) [] [],.f (idF (.func 392)) [] []])),((Cv 7),.ro (.cells [.i .i64 (.negSucc 0),.i .i64 (.negSucc 0)])),(1585,.own (.grow 1 [.s [97,110,97],.s [114,117,105]])),(1587,.own (.grow 2 [.i .i64 (.ofNat 0),.i .i64 (.ofNat 3),.i .i64 (.ofNat 1),.i .i64 (.ofNat 2),.i .i64 (.ofNat 0),.i .i64 (.ofNat 1)])),(1589,.own (.grow 2 [.i .i64 (.ofNat 30),.i .i64 (.ofNat 31)])),(1591,.own (.grow 3 [.i .i64 (.ofNat 1),.i .i64 (.ofNat 0),.i .i64 (.ofNat 1)])),(1593,.own (.grow 3 [.i .i64 (.ofNat 2),.i .i64 (.ofNat 2),.i .i64 (.ofNat 1)])),(1595,.own (.grow 6 [.s [108,111,119],.i .i64 (.ofNat 0),.i .i64 (.ofNat 1),.i .i64 (.ofNat 300),.i .i64 (.ofNat 400),.i .i64 (.ofNat 5),.s [104,105,103,104],.i .i64 (.ofNat 0),.i .i64 (.ofNat 0),.i .i64 (.ofNat 150),.i .i64 (.ofNat 200),.i .i64 (.ofNat 4),.s [109,105,100],.i .i64 (.ofNat 1),.i .i64 (.ofNat 2),.i .i64 (.ofNat 100),.i .i64 (.ofNat 100),.i .i64 (.ofNat 3)])),(2298,.own (.grow 3 [.i .i64 (.ofNat 1),.i .i64 (.ofNat 13),.i .i64 (.ofNat 15),.i .i64 (.ofNat 0),.i .i64 (.ofNat 15),.i .i64 (.ofNat 16),.i .i64 (.ofNat 1),.i .i64 (.ofNat 17),.i .i64 (.ofNat 19),.i .i64 (.ofNat 0),.i .i64 (.ofNat 21),.i .i64 (.ofNat 22)]))]
 x:=.t [.sl 2568 0 4 false 0,.i .i64 (.ofNat 0)]
 outs:=[(1585,.ro (.grow 1 [.s [97,110,97],.s [114,117,105]])),(1587,.ro (.grow 2 [.i .i64 (.ofNat 0),.i .i64 (.ofNat 3),.i .i64 (.ofNat 1),.i .i64 (.ofNat 2),.i .i64 (.ofNat 0),.i .i64 (.ofNat 1)])),(1589,.ro (.grow 2 [.i .i64 (.ofNat 30),.i .i64 (.ofNat 31)])),(1591,.ro (.grow 3 [.i .i64 (.ofNat 1),.i .i64 (.ofNat 0),.i .i64 (.ofNat 1)])),(1593,.ro (.grow 3 [.i .i64 (.ofNat 2),.i .i64 (.ofNat 2),.i .i64 (.ofNat 1)])),(1595,.ro (.grow 6 [.s [108,111,119],.i .i64 (.ofNat 0),.i .i64 (.ofNat 1),.i .i64 (.ofNat 300),.i .i64 (.ofNat 400),.i .i64 (.ofNat 5),.s [104,105,103,104],.i .i64 (.ofNat 0),.i .i64 (.ofNat 0),.i .i64 (.ofNat 150),.i .i64 (.ofNat 200),.i .i64 (.ofNat 4),.s [109,105,100],.i .i64 (.ofNat 1),.i .i64 (.ofNat 2),.i .i64 (.ofNat 100),.i .i64 (.ofNat 100),.i .i64 (.ofNat 3)])),(2298,.ro (.grow 3 [.i .i64 (.ofNat 1),.i .i64 (.ofNat 13),.i .i64 (.ofNat 15),.i .i64 (.ofNat 0),.i .i64 (.ofNat 15),.i .i64 (.ofNat 16),.i .i64 (.ofNat 1),.i .i64 (.ofNat 17),.i .i64 (.ofNat 19),.i .i64 (.ofNat 0),.i .i64 (.ofNat 21),.i .i64 (.ofNat 22)])),(2568,.own (.grow 1 [.i .i64 (.ofNat 0),.i .i64 (.ofNat 0),.i .i64 (.ofNat 0),.i .i64 (.ofNat 1)]))]
 nx':=2569
noncomputable def eReplay1:EntC where
 g:=idF (.func 17)
 nx:=1302
 args:=[.g [.sl 1236 0 2 true 2,.sl 1237 0 2 true 2,.sl 1244 0 2 true 2,.i .i64 (.ofNat 2),.sl 1250 0 5 true 5,.sl 1281 0 2 true 2,.sl 1282 0 3 true 3,.i .i64 (.ofNat 10),.i .i64 (.ofNat 24),.i .i64 (.ofNat 20),.i .i64 (.ofNat 4),.sl 1284 0 1 true 1,.sl 1285 0 1 true 1,.sl 1286 0 1 true 1,.i .i64 (.ofNat 100),.i .i64 (.ofNat 120),.i .i64 (.ofNat 100),.i .i64 (.ofNat 200),.sl 1292 0 3 true 3,.i .i64 (.negSucc 0),.i .i64 (.ofNat 1),.sl 1294 0 3 true 3,.sl 1295 0 2 true 2,.i .i64 (.ofNat 100),.i .i64 (.ofNat 10),.sl 1296 0 1 true 1,.sl 1252 0 3 true 3,.sl 1253 0 2 true 2,.sl 1266 0 3 true 3,.sn,.sl 1272 0 2 true 2,.sl 1276 0 3 true 3,.sl 1277 0 1 true 1,.sl 1301 0 6 true 6]]
 cs:=[((Cv 0),.ro (.cells [.f (idF (.func 352)) [] [],.f (idF (.func 353)) [] [],.f (idF (.func 354)) [] [],.f (idF (.func 355)) [] [],.f (idF (.func 356)) [] [],.f (idF (.func 357)) [] [],.f (idF (.func 358)) [] [],.f (idF (.func 359)) [] [],.f (idF (.func 360)) [] [],.f (idF (.func 361)) [] []])),((Cv 1),.ro (.cells [.s [112,97,121],.f (idF (.func 384)) [] [],.s [108,111,97,110],.f (idF (.func 385)) [] [],.s [98,97,99,107],.f (idF (.func 386)) [] [],.s [100,111,119,114,121],.f (idF (.func 387)) [] []])),((Cv 5),.ro (.cells [.s [115,116,97,114,116],.fn,.f (idF (.func 349)) [] [],.b false,.s [103,105,102,116],.f (idF (.func 388)) [] [],.f (idF (.func 349)) [] [],.b true,.s [108,111,97,110],.f (idF (.func 388)) [] [],.f (idF (.func 349)) [] [],.b true,.s [98,97,99,107],.f (idF (.func 388)) [] [],.f (idF (.func 349)) [] [],.b true,.s [115,97,108,101],.f (idF (.func 388)) [] [],.fn,.b true,.s [108,111,115,115],.f (idF (.func 388)) [] [],.fn,.b false])),((Cv 6),.ro (.cells [.f (idF (.func 389)) [] [],.f (idF (.func 390)) [] [],.f (idF (.func 391)) [] [],.f (idF (.func 392)) [] []])),((Cv 7),.ro (.cells [.i .i64 (.negSucc 0),.i .i64 (.negSucc 0)])),(1236,.own (.cells [.s [97,110,97],.s [114,117,105]])),(1237,.own (.cells [.s [115,109,97,108,108],.s [98,105,103]])),(1240,.own (.cells [.i .i64 (.ofNat 0),.i .i64 (.ofNat 1),.i .i64 (.ofNat 1),.i .i64 (.ofNat 1)])),(1243,.own (.cells [.i .i64 (.ofNat 2),.i .i64 (.ofNat 3),.i .i64 (.ofNat 1),.i .i64 (.ofNat 2)])),(1244,.own (.cells [.sl 1240 0 2 true 2,.sl 1243 0 2 true 2])),(1250,.own (.cells [.s [115,49],.i .i64 (.ofNat 0),.i .i64 (.ofNat 0),.i .i64 (.ofNat 0),.i .i64 (.ofNat 0),.i .i64 (.ofNat 1),.i .i64 (.ofNat 10),.i .i64 (.ofNat 12),.s [],.s [103,49],.i .i64 (.ofNat 1),.i .i64 (.ofNat 0),.i .i64 (.ofNat 0),.i .i64 (.ofNat 1),.i .i64 (.ofNat 1),.i .i64 (.ofNat 4),.i .i64 (.ofNat 4),.s [],.s [108,49],.i .i64 (.ofNat 2),.i .i64 (.ofNat 1),.i .i64 (.ofNat 1),.i .i64 (.ofNat 0),.i .i64 (.ofNat 0),.i .i64 (.ofNat 3),.i .i64 (.ofNat 3),.s [],.s [107,49],.i .i64 (.ofNat 3),.i .i64 (.ofNat 2),.i .i64 (.ofNat 0),.i .i64 (.ofNat 1),.i .i64 (.ofNat 0),.i .i64 (.ofNat 2),.i .i64 (.ofNat 2),.s [108,49],.s [120,49],.i .i64 (.ofNat 5),.i .i64 (.ofNat 1),.i .i64 (.ofNat 0),.i .i64 (.ofNat 0),.i .i64 (.ofNat 0),.i .i64 (.ofNat 0),.i .i64 (.ofNat 5),.s []])),(1252,.own (.cells [.s [97,110,97],.s [114,117,105],.s [115,111,108]])),(1253,.own (.cells [.s [105,114,111,110],.s [115,97,108,116]])),(1257,.own (.cells [.i .i64 (.ofNat 10),.i .i64 (.ofNat 20),.i .i64 (.ofNat 5),.i .i64 (.ofNat 9)])),(1261,.own (.cells [.i .i64 (.ofNat 30),.i .i64 (.ofNat 40),.i .i64 (.ofNat 5),.i .i64 (.ofNat 6)])),(1265,.own (.cells [.i .i64 (.ofNat 10),.i .i64 (.ofNat 15),.i .i64 (.ofNat 20),.i .i64 (.ofNat 30)])),(1266,.own (.cells [.s [104,105,108,108],.i .i64 (.ofNat 0),.i .i64 (.ofNat 90),.i .i64 (.ofNat 100),.sl 1257 0 2 true 2,.s [108,111,119],.i .i64 (.ofNat 1),.i .i64 (.ofNat 40),.i .i64 (.ofNat 50),.sl 1261 0 2 true 2,.s [101,97,115,116],.i .i64 (.ofNat 2),.i .i64 (.ofNat 60),.i .i64 (.ofNat 70),.sl 1265 0 2 true 2])),(1272,.own (.cells [.s [104,105,108,108],.s [108,111,119]])),(1273,.own (.cells [.s [104,105,108,108],.i .i64 (.ofNat 60),.s [108,111,119],.i .i64 (.ofNat 40)])),(1274,.own (.cells [.s [102,105,114,115,116],.i .i64 (.ofNat 50)])),(1275,.own (.cells [.s [102,105,114,115,116],.i .i64 (.ofNat 30),.s [115,101,99,111,110,100],.i .i64 (.ofNat 20),.s [108,111,119],.i .i64 (.ofNat 10)])),(1276,.own (.cells [.s [102,105,114,115,116],.sl 1273 0 2 true 2,.s [115,101,99,111,110,100],.sl 1274 0 1 true 1,.s [116,105,110],.sl 1275 0 3 true 3])),(1277,.own (.cells [.i .i64 (.ofNat 1)])),(1281,.own (.cells [.s [97,110,97],.s [114,117,105]])),(1282,.own (.cells [.i .i64 (.ofNat 0),.i .i64 (.ofNat 3),.i .i64 (.ofNat 1),.i .i64 (.ofNat 2),.i .i64 (.ofNat 0),.i .i64 (.ofNat 1)])),(1284,.own (.cells [.i .i64 (.ofNat 30),.i .i64 (.ofNat 31)])),(1285,.own (.cells [.i .i64 (.ofNat 1),.i .i64 (.ofNat 0),.i .i64 (.ofNat 1)])),(1286,.own (.cells [.i .i64 (.ofNat 2),.i .i64 (.ofNat 2),.i .i64 (.ofNat 1)])),(1292,.own (.cells [.s [108,111,119],.i .i64 (.ofNat 0),.i .i64 (.ofNat 1),.i .i64 (.ofNat 300),.i .i64 (.ofNat 400),.i .i64 (.ofNat 5),.s [104,105,103,104],.i .i64 (.ofNat 0),.i .i64 (.ofNat 0),.i .i64 (.ofNat 150),.i .i64 (.ofNat 200),.i .i64 (.ofNat 4),.s [109,105,100],.i .i64 (.ofNat 1),.i .i64 (.ofNat 2),.i .i64 (.ofNat 100),.i .i64 (.ofNat 100),.i .i64 (.ofNat 3)])),(1294,.own (.cells [.i .i64 (.ofNat 1),.i .i64 (.ofNat 13),.i .i64 (.ofNat 15),.i .i64 (.ofNat 0),.i .i64 (.ofNat 15),.i .i64 (.ofNat 16),.i .i64 (.ofNat 1),.i .i64 (.ofNat 17),.i .i64 (.ofNat 19)])),(1295,.own (.cells [.s [112,111,111,108],.i .i64 (.ofNat 100),.i .i64 (.ofNat 0),.s [97,110,97],.i .i64 (.ofNat 0),.i .i64 (.ofNat 50)])),(1296,.own (.cells [.i .i64 (.ofNat 1),.i .i64 (.ofNat 1),.i .i64 (.ofNat 0),.i .i64 (.ofNat 1),.i .i64 (.ofNat 40)])),(1297,.own (.cells [.i .i64 (.ofNat 1)])),(1298,.own (.cells [.s [104,105,108,108],.i .i64 (.ofNat 9)])),(1299,.own (.cells [.s [115,101,99,111,110,100],.i .i64 (.ofNat 5)])),(1300,.own (.cells [.i .i64 (.ofNat 1)])),(1301,.own (.cells [.i .i64 (.ofNat 9),.i .i64 (.ofNat 3),.s [],.i .i64 (.ofNat 0),.i .i64 (.ofNat 0),.i .i64 (.ofNat 0),.i .i64 (.ofNat 0),.i .i64 (.ofNat 0),.i .i64 (.ofNat 0),.i .i64 (.ofNat 0),.s [],.i .i64 (.ofNat 0),.i .i64 (.ofNat 0),.i .i64 (.ofNat 0),.i .i64 (.ofNat 0),.i .i64 (.ofNat 0),.i .i64 (.ofNat 0),.i .i64 (.ofNat 0),.i .i64 (.ofNat 0),.i .i64 (.ofNat 60),.sl 1297 0 1 true 1,.s [],.sn,.i .i64 (.ofNat 3),.i .i64 (.ofNat 2),.s [],.i .i64 (.ofNat 0),.i .i64 (.ofNat 0),.i .i64 (.ofNat 0),.i .i64 (.ofNat 0),.i .i64 (.ofNat 0),.i .i64 (.ofNat 0),.i .i64 (.ofNat 0),.s [],.i .i64 (.ofNat 0),.i .i64 (.ofNat 0),.i .i64 (.ofNat 0),.i .i64 (.ofNat 0),.i .i64 (.ofNat 3),.i .i64 (.ofNat 1),.i .i64 (.ofNat 0),.i .i64 (.ofNat 100),.i .i64 (.ofNat 0),.sn,.s [],.sn,.i .i64 (.ofNat 4),.i .i64 (.ofNat 4),.s [],.i .i64 (.ofNat 0),.i .i64 (.ofNat 0),.i .i64 (.ofNat 0),.i .i64 (.ofNat 0),.i .i64 (.ofNat 0),.i .i64 (.ofNat 0),.i .i64 (.ofNat 0),.s [],.i .i64 (.ofNat 0),.i .i64 (.ofNat 0),.i .i64 (.ofNat 0),.i .i64 (.ofNat 0),.i .i64 (.ofNat 0),.i .i64 (.ofNat 0),.i .i64 (.ofNat 0),.i .i64 (.ofNat 0),.i .i64 (.ofNat 0),.sn,.s [98,111,120],.sl 1298 0 1 true 1,.i .i64 (.ofNat 4),.i .i64 (.ofNat 4),.s [],.i .i64 (.ofNat 0),.i .i64 (.ofNat 0),.i .i64 (.ofNat 0),.i .i64 (.ofNat 0),.i .i64 (.ofNat 0),.i .i64 (.ofNat 0),.i .i64 (.ofNat 0),.s [],.i .i64 (.ofNat 0),.i .i64 (.ofNat 0),.i .i64 (.ofNat 0),.i .i64 (.ofNat 0),.i .i64 (.ofNat 0),.i .i64 (.ofNat 0),.i .i64 (.ofNat 0),.i .i64 (.ofNat 0),.i .i64 (.ofNat 0),.sn,.s [98,97,103],.sl 1299 0 1 true 1,.i .i64 (.ofNat 8),.i .i64 (.ofNat 1),.s [],.i .i64 (.ofNat 0),.i .i64 (.ofNat 0),.i .i64 (.ofNat 0),.i .i64 (.ofNat 0),.i .i64 (.ofNat 0),.i .i64 (.ofNat 0),.i .i64 (.ofNat 0),.s [],.i .i64 (.ofNat 0),.i .i64 (.ofNat 21),.i .i64 (.ofNat 22),.i .i64 (.ofNat 0),.i .i64 (.ofNat 0),.i .i64 (.ofNat 0),.i .i64 (.ofNat 0),.i .i64 (.ofNat 0),.i .i64 (.ofNat 0),.sn,.s [],.sn,.i .i64 (.ofNat 8),.i .i64 (.ofNat 3),.s [],.i .i64 (.ofNat 0),.i .i64 (.ofNat 0),.i .i64 (.ofNat 0),.i .i64 (.ofNat 0),.i .i64 (.ofNat 0),.i .i64 (.ofNat 0),.i .i64 (.ofNat 0),.s [],.i .i64 (.ofNat 0),.i .i64 (.ofNat 0),.i .i64 (.ofNat 0),.i .i64 (.ofNat 0),.i .i64 (.ofNat 0),.i .i64 (.ofNat 0),.i .i64 (.ofNat 0),.i .i64 (.ofNat 0),.i .i64 (.ofNat 30),.sl 1300 0 1 true 1,.s [],.sn]))]
 x:=.t [.g [.sl 1581 0 2 false 0,.sl 1571 0 2 false 0,.sl 1579 0 2 false 0,.i .i64 (.ofNat 2),.sl 1583 0 5 false 0,.sl 1585 0 2 false 0,.sl 1587 0 3 false 0,.i .i64 (.ofNat 10),.i .i64 (.ofNat 24),.i .i64 (.ofNat 20),.i .i64 (.ofNat 4),.sl 1589 0 1 false 0,.sl 1591 0 1 false 0,.sl 1593 0 1 false 0,.i .i64 (.ofNat 100),.i .i64 (.ofNat 120),.i .i64 (.ofNat 100),.i .i64 (.ofNat 200),.sl 1595 0 3 false 0,.i .i64 (.negSucc 0),.i .i64 (.ofNat 1),.sl 1597 0 3 false 0,.sl 1599 0 2 false 0,.i .i64 (.ofNat 100),.i .i64 (.ofNat 10),.sl 1601 0 1 false 0,.sl 1603 0 3 false 0,.sl 1605 0 2 false 0,.sl 1626 0 3 false 0,.sl 2580 0 1 false 0,.sl 1628 0 2 false 0,.sl 1730 0 4 false 0,.sl 1569 0 1 false 0,.sn],.sl 2732 0 4 false 0,.sl 2734 0 4 false 0,.i .i64 (.ofNat 0)]
 outs:=[(1569,.own (.grow 1 [.i .i64 (.ofNat 1)])),(1571,.own (.grow 1 [.s [115,109,97,108,108],.s [98,105,103]])),(1573,.own (.grow 2 [.i .i64 (.ofNat 0),.i .i64 (.ofNat 1),.i .i64 (.ofNat 1),.i .i64 (.ofNat 1)])),(1577,.own (.grow 2 [.i .i64 (.ofNat 2),.i .i64 (.ofNat 3),.i .i64 (.ofNat 1),.i .i64 (.ofNat 2)])),(1579,.own (.grow 1 [.sl 1573 0 2 false 0,.sl 1577 0 2 false 0])),(1581,.own (.grow 1 [.s [97,110,97],.s [114,117,105]])),(1583,.own (.grow 9 [.s [115,49],.i .i64 (.ofNat 0),.i .i64 (.ofNat 0),.i .i64 (.ofNat 0),.i .i64 (.ofNat 0),.i .i64 (.ofNat 1),.i .i64 (.ofNat 10),.i .i64 (.ofNat 12),.s [],.s [103,49],.i .i64 (.ofNat 1),.i .i64 (.ofNat 0),.i .i64 (.ofNat 0),.i .i64 (.ofNat 1),.i .i64 (.ofNat 1),.i .i64 (.ofNat 4),.i .i64 (.ofNat 4),.s [],.s [108,49],.i .i64 (.ofNat 2),.i .i64 (.ofNat 1),.i .i64 (.ofNat 1),.i .i64 (.ofNat 0),.i .i64 (.ofNat 0),.i .i64 (.ofNat 3),.i .i64 (.ofNat 3),.s [],.s [107,49],.i .i64 (.ofNat 3),.i .i64 (.ofNat 2),.i .i64 (.ofNat 0),.i .i64 (.ofNat 1),.i .i64 (.ofNat 0),.i .i64 (.ofNat 2),.i .i64 (.ofNat 2),.s [108,49],.s [120,49],.i .i64 (.ofNat 5),.i .i64 (.ofNat 1),.i .i64 (.ofNat 0),.i .i64 (.ofNat 0),.i .i64 (.ofNat 0),.i .i64 (.ofNat 0),.i .i64 (.ofNat 5),.s []])),(1585,.ro (.grow 1 [.s [97,110,97],.s [114,117,105]])),(1587,.ro (.grow 2 [.i .i64 (.ofNat 0),.i .i64 (.ofNat 3),.i .i64 (.ofNat 1),.i .i64 (.ofNat 2),.i .i64 (.ofNat 0),.i .i64 (.ofNat 1)])),(1589,.ro (.grow 2 [.i .i64 (.ofNat 30),.i .i64 (.ofNat 31)])),(1591,.ro (.grow 3 [.i .i64 (.ofNat 1),.i .i64 (.ofNat 0),.i .i64 (.ofNat 1)])),(1593,.ro (.grow 3 [.i .i64 (.ofNat 2),.i .i64 (.ofNat 2),.i .i64 (.ofNat 1)])),(1595,.ro (.grow 6 [.s [108,111,119],.i .i64 (.ofNat 0),.i .i64 (.ofNat 1),.i .i64 (.ofNat 300),.i .i64 (.ofNat 400),.i .i64 (.ofNat 5),.s [104,105,103,104],.i .i64 (.ofNat 0),.i .i64 (.ofNat 0),.i .i64 (.ofNat 150),.i .i64 (.ofNat 200),.i .i64 (.ofNat 4),.s [109,105,100],.i .i64 (.ofNat 1),.i .i64 (.ofNat 2),.i .i64 (.ofNat 100),.i .i64 (.ofNat 100),.i .i64 (.ofNat 3)])),(1597,.own (.grow 3 [.i .i64 (.ofNat 1),.i .i64 (.ofNat 13),.i .i64 (.ofNat 15),.i .i64 (.ofNat 0),.i .i64 (.ofNat 15),.i .i64 (.ofNat 16),.i .i64 (.ofNat 1),.i .i64 (.ofNat 17),.i .i64 (.ofNat 19)])),(1599,.own (.grow 3 [.s [112,111,111,108],.i .i64 (.ofNat 100),.i .i64 (.ofNat 0),.s [97,110,97],.i .i64 (.ofNat 0),.i .i64 (.ofNat 50)])),(1601,.own (.grow 5 [.i .i64 (.ofNat 1),.i .i64 (.ofNat 1),.i .i64 (.ofNat 0),.i .i64 (.ofNat 1),.i .i64 (.ofNat 40)])),(1603,.own (.grow 1 [.s [97,110,97],.s [114,117,105],.s [115,111,108]])),(1605,.own (.grow 1 [.s [105,114,111,110],.s [115,97,108,116]])),(1610,.own (.grow 2 [.i .i64 (.ofNat 10),.i .i64 (.ofNat 20),.i .i64 (.ofNat 5),.i .i64 (.ofNat 9)])),(1617,.own (.grow 2 [.i .i64 (.ofNat 30),.i .i64 (.ofNat 40),.i .i64 (.ofNat 5),.i .i64 (.ofNat 6)])),(1624,.own (.grow 2 [.i .i64 (.ofNat 10),.i .i64 (.ofNat 15),.i .i64 (.ofNat 20),.i .i64 (.ofNat 30)])),(1626,.own (.grow 5 [.s [104,105,108,108],.i .i64 (.ofNat 0),.i .i64 (.ofNat 90),.i .i64 (.ofNat 100),.sl 1610 0 2 false 0,.s [108,111,119],.i .i64 (.ofNat 1),.i .i64 (.ofNat 40),.i .i64 (.ofNat 50),.sl 1617 0 2 false 0,.s [101,97,115,116],.i .i64 (.ofNat 2),.i .i64 (.ofNat 60),.i .i64 (.ofNat 70),.sl 1624 0 2 false 0])),(1628,.own (.grow 1 [.s [104,105,108,108],.s [108,111,119]])),(1633,.own (.grow 2 [.s [104,105,108,108],.i .i64 (.ofNat 60),.s [108,111,119],.i .i64 (.ofNat 40)])),(1640,.own (.grow 2 [.s [102,105,114,115,116],.i .i64 (.ofNat 50)])),(1647,.own (.grow 2 [.s [102,105,114,115,116],.i .i64 (.ofNat 30),.s [115,101,99,111,110,100],.i .i64 (.ofNat 20),.s [108,111,119],.i .i64 (.ofNat 10)])),(1727,.own (.grow 2 [.s [104,105,108,108],.i .i64 (.ofNat 9)])),(1730,.own (.grow 2 [.s [102,105,114,115,116],.sl 1633 0 2 false 0,.s [115,101,99,111,110,100],.sl 1640 0 1 false 0,.s [116,105,110],.sl 1647 0 3 false 0,.s [98,111,120],.sl 1727 0 1 false 0])),(2577,.own (.grow 1 [.i .i64 (.ofNat 1)])),(2580,.own (.grow 2 [.i .i64 (.ofNat 30),.sl 2577 0 1 false 0])),(2732,.own (.grow 1 [.i .i64 (.ofNat 0),.i .i64 (.ofNat 1),.i .i64 (.ofNat 3),.i .i64 (.ofNat 4)])),(2734,.own (.grow 1 [.i .i64 (.ofNat 0),.i .i64 (.ofNat 0),.i .i64 (.ofNat 0),.i .i64 (.ofNat 0)]))]
 nx':=2735
noncomputable def eSp2:EntC where
 g:=idF (.func 101)
 nx:=2796
 args:=[.i .i64 (.negSucc 0),.i .i64 (.ofNat 1)]
 cs:=[]
 x:=.g [.i .i64 (.negSucc 0),.i .i64 (.ofNat 1)]
 outs:=[]
 nx':=2796
noncomputable def eEx22:EntC where
 ids:=[2]
 g:=idF (.func 47)
 nx:=2781
 args:=[]
 cs:=[]
 x:=.t [.g [.sl 2783 0 2 true 2,.sl 2784 0 3 true 3,.i .i64 (.ofNat 10),.i .i64 (.ofNat 24),.i .i64 (.ofNat 20),.i .i64 (.ofNat 4),.sl 2786 0 1 true 1,.sl 2787 0 1 true 1,.sl 2788 0 1 true 1,.i .i64 (.ofNat 100),.i .i64 (.ofNat 120),.i .i64 (.ofNat 100),.i .i64 (.ofNat 200),.sl 2794 0 3 true 3],.g [.i .i64 (.negSucc 0),.i .i64 (.ofNat 1),.sl 2796 0 3 true 3]]
 outs:=[(2783,.own (.cells [.s [97,110,97],.s [114,117,105]])),(2784,.own (.cells [.i .i64 (.ofNat 0),.i .i64 (.ofNat 3),.i .i64 (.ofNat 1),.i .i64 (.ofNat 2),.i .i64 (.ofNat 0),.i .i64 (.ofNat 1)])),(2786,.own (.cells [.i .i64 (.ofNat 30),.i .i64 (.ofNat 31)])),(2787,.own (.cells [.i .i64 (.ofNat 1),.i .i64 (.ofNat 0),.i .i64 (.ofNat 1)])),(2788,.own (.cells [.i .i64 (.ofNat 2),.i .i64 (.ofNat 2),.i .i64 (.ofNat 1)])),(2794,.own (.cells [.s [108,111,119],.i .i64 (.ofNat 0),.i .i64 (.ofNat 1),.i .i64 (.ofNat 300),.i .i64 (.ofNat 400),.i .i64 (.ofNat 5),.s [104,105,103,104],.i .i64 (.ofNat 0),.i .i64 (.ofNat 0),.i .i64 (.ofNat 150),.i .i64 (.ofNat 200),.i .i64 (.ofNat 4),.s [109,105,100],.i .i64 (.ofNat 1),.i .i64 (.ofNat 2),.i .i64 (.ofNat 100),.i .i64 (.ofNat 100),.i .i64 (.ofNat 3)])),(2796,.own (.cells [.i .i64 (.ofNat 1),.i .i64 (.ofNat 13),.i .i64 (.ofNat 15),.i .i64 (.ofNat 0),.i .i64 (.ofNat 15),.i .i64 (.ofNat 16),.i .i64 (.ofNat 1),.i .i64 (.ofNat 17),.i .i64 (.ofNat 19)]))]
 nx':=2797
noncomputable def eDebts2:EntC where
 g:=idF (.func 164)
 nx:=2870
 args:=[.m 2826,.i .i64 (.ofNat 2)]
 cs:=[(2826,.own (.map [(.s [115,49],.g [.s [115,49],.i .i64 (.ofNat 0),.i .i64 (.ofNat 0),.i .i64 (.ofNat 0),.i .i64 (.ofNat 0),.i .i64 (.ofNat 1),.i .i64 (.ofNat 10),.i .i64 (.ofNat 12),.s []]),(.s [103,49],.g [.s [103,49],.i .i64 (.ofNat 1),.i .i64 (.ofNat 0),.i .i64 (.ofNat 0),.i .i64 (.ofNat 1),.i .i64 (.ofNat 1),.i .i64 (.ofNat 4),.i .i64 (.ofNat 4),.s []]),(.s [108,49],.g [.s [108,49],.i .i64 (.ofNat 2),.i .i64 (.ofNat 1),.i .i64 (.ofNat 1),.i .i64 (.ofNat 0),.i .i64 (.ofNat 0),.i .i64 (.ofNat 3),.i .i64 (.ofNat 3),.s []]),(.s [107,49],.g [.s [107,49],.i .i64 (.ofNat 3),.i .i64 (.ofNat 2),.i .i64 (.ofNat 0),.i .i64 (.ofNat 1),.i .i64 (.ofNat 0),.i .i64 (.ofNat 2),.i .i64 (.ofNat 2),.s [108,49]]),(.s [120,49],.g [.s [120,49],.i .i64 (.ofNat 5),.i .i64 (.ofNat 1),.i .i64 (.ofNat 0),.i .i64 (.ofNat 0),.i .i64 (.ofNat 0),.i .i64 (.ofNat 0),.i .i64 (.ofNat 5),.s []])]))]
 x:=.sl 2879 0 1 false 0
 outs:=[(2879,.own (.grow 2 [.s [108,49],.i .i64 (.ofNat 1)]))]
 nx':=2880
noncomputable def eJudge2:EntC where
 g:=idF (.func 365)
 nx:=3803
 args:=[.g [.sl 3089 0 2 false 0,.sl 3091 0 3 false 0,.i .i64 (.ofNat 10),.i .i64 (.ofNat 24),.i .i64 (.ofNat 20),.i .i64 (.ofNat 4),.sl 3093 0 1 false 0,.sl 3095 0 1 false 0,.sl 3097 0 1 false 0,.i .i64 (.ofNat 100),.i .i64 (.ofNat 120),.i .i64 (.ofNat 100),.i .i64 (.ofNat 200),.sl 3099 0 3 false 0],.g [.i .i64 (.negSucc 0),.i .i64 (.ofNat 1),.sl 3802 0 4 false 0]]
 cs:=[((Cv 6),.ro (.cells [.f (idF (.func 389)) [] [],.f (idF (.func 390)) [] [],.f (idF (.func 391)) [] [],.f (idF (.func 392)) [] []])),((Cv 7),.ro (.cells [.i .i64 (.negSucc 0),.i .i64 (.negSucc 0)])),(3089,.own (.grow 1 [.s [97,110,97],.s [114,117,105]])),(3091,.own (.grow 2 [.i .i64 (.ofNat 0),.i .i64 (.ofNat 3),.i .i64 (.ofNat 1),.i .i64 (.ofNat 2),.i .i64 (.ofNat 0),.i .i64 (.ofNat 1)])),(3093,.own (.grow 2 [.i .i64 (.ofNat 30),.i .i64 (.ofNat 31)])),(3095,.own (.grow 3 [.i .i64 (.ofNat 1),.i .i64 (.ofNat 0),.i .i64 (.ofNat 1)])),(3097,.own (.grow 3 [.i .i64 (.ofNat 2),.i .i64 (.ofNat 2),.i .i64 (.ofNat 1)])),(3099,.own (.grow 6 [.s [108,111,119],.i .i64 (.ofNat 0),.i .i64 (.ofNat 1),.i .i64 (.ofNat 300),.i .i64 (.ofNat 400),.i .i64 (.ofNat 5),.s [104,105,103,104],.i .i64 (.ofNat 0),.i .i64 (.ofNat 0),.i .i64 (.ofNat 150),.i .i64 (.ofNat 200),.i .i64 (.ofNat 4),.s [109,105,100],.i .i64 (.ofNat 1),.i .i64 (.ofNat 2),.i .i64 (.ofNat 100),.i .i64 (.ofNat 100),.i .i64 (.ofNat 3)])),(3802,.own (.grow 3 [.i .i64 (.ofNat 1),.i .i64 (.ofNat 13),.i .i64 (.ofNat 15),.i .i64 (.ofNat 0),.i .i64 (.ofNat 15),.i .i64 (.ofNat 16),.i .i64 (.ofNat 1),.i .i64 (.ofNat 17),.i .i64 (.ofNat 19),.i .i64 (.ofNat 0),.i .i64 (.ofNat 21),.i .i64 (.ofNat 22)]))]
 x:=.t [.sl 4072 0 4 false 0,.i .i64 (.ofNat 0)]
 outs:=[(3089,.ro (.grow 1 [.s [97,110,97],.s [114,117,105]])),(3091,.ro (.grow 2 [.i .i64 (.ofNat 0),.i .i64 (.ofNat 3),.i .i64 (.ofNat 1),.i .i64 (.ofNat 2),.i .i64 (.ofNat 0),.i .i64 (.ofNat 1)])),(3093,.ro (.grow 2 [.i .i64 (.ofNat 30),.i .i64 (.ofNat 31)])),(3095,.ro (.grow 3 [.i .i64 (.ofNat 1),.i .i64 (.ofNat 0),.i .i64 (.ofNat 1)])),(3097,.ro (.grow 3 [.i .i64 (.ofNat 2),.i .i64 (.ofNat 2),.i .i64 (.ofNat 1)])),(3099,.ro (.grow 6 [.s [108,111,119],.i .i64 (.ofNat 0),.i .i64 (.ofNat 1),.i .i64 (.ofNat 300),.i .i64 (.ofNat 400),.i .i64 (.ofNat 5),.s [104,105,103,104],.i .i64 (.ofNat 0),.i .i64 (.ofNat 0),.i .i64 (.ofNat 150),.i .i64 (.ofNat 200),.i .i64 (.ofNat 4),.s [109,105,100],.i .i64 (.ofNat 1),.i .i64 (.ofNat 2),.i .i64 (.ofNat 100),.i .i64 (.ofNat 100),.i .i64 (.ofNat 3)])),(3802,.ro (.grow 3 [.i .i64 (.ofNat 1),.i .i64 (.ofNat 13),.i .i64 (.ofNat 15),.i .i64 (.ofNat 0),.i .i64 (.ofNat 15),.i .i64 (.ofNat 16),.i .i64 (.ofNat 1),.i .i64 (.ofNat 17),.i .i64 (.ofNat 19),.i .i64 (.ofNat 0),.i .i64 (.ofNat 21),.i .i64 (.ofNat 22)])),(4072,.own (.grow 1 [.i .i64 (.ofNat 0),.i .i64 (.ofNat 0),.i .i64 (.ofNat 0),.i .i64 (.ofNat 1)]))]
 nx':=4073
noncomputable def eReplay2:EntC where
 g:=idF (.func 17)
 nx:=2806
 args:=[.g [.sl 2738 0 2 true 2,.sl 2739 0 2 true 2,.sl 2746 0 2 true 2,.i .i64 (.ofNat 2),.sl 2752 0 5 true 5,.sl 2783 0 2 true 2,.sl 2784 0 3 true 3,.i .i64 (.ofNat 10),.i .i64 (.ofNat 24),.i .i64 (.ofNat 20),.i .i64 (.ofNat 4),.sl 2786 0 1 true 1,.sl 2787 0 1 true 1,.sl 2788 0 1 true 1,.i .i64 (.ofNat 100),.i .i64 (.ofNat 120),.i .i64 (.ofNat 100),.i .i64 (.ofNat 200),.sl 2794 0 3 true 3,.i .i64 (.negSucc 0),.i .i64 (.ofNat 1),.sl 2796 0 3 true 3,.sl 2797 0 2 true 2,.i .i64 (.ofNat 100),.i .i64 (.ofNat 10),.sl 2798 0 1 true 1,.sl 2754 0 3 true 3,.sl 2755 0 2 true 2,.sl 2768 0 3 true 3,.sn,.sl 2774 0 2 true 2,.sl 2778 0 3 true 3,.sl 2779 0 1 true 1,.sl 2803 0 6 true 6]]
 cs:=[((Cv 0),.ro (.cells [.f (idF (.func 352)) [] [],.f (idF (.func 353)) [] [],.f (idF (.func 354)) [] [],.f (idF (.func 355)) [] [],.f (idF (.func 356)) [] [],.f (idF (.func 357)) [] [],.f (idF (.func 358)) [] [],.f (idF (.func 359)) [] [],.f (idF (.func 360)) [] [],.f (idF (.func 361)) [] []])),((Cv 1),.ro (.cells [.s [112,97,121],.f (idF (.func 384)) [] [],.s [108,111,97,110],.f (idF (.func 385)) [] [],.s [98,97,99,107],.f (idF (.func 386)) [] [],.s [100,111,119,114,121],.f (idF (.func 387)) [] []])),((Cv 5),.ro (.cells [.s [115,116,97,114,116],.fn,.f (idF (.func 349)) [] [],.b false,.s [103,105,102,116],.f (idF (.func 388)) [] [],.f (idF (.func 349)) [] [],.b true,.s [108,111,97,110],.f (idF (.func 388)) [] [],.f (idF (.func 349)) [] [],.b true,.s [98,97,99,107],.f (idF (.func 388)) [] [],.f (idF (.func 349)) [] [],.b true,.s [115,97,108,101],.f (idF (.func 388)) [] [],.fn,.b true,.s [108,111,115,115],.f (idF (.func 388)) [] [],.fn,.b false])),((Cv 6),.ro (.cells [.f (idF (.func 389)) [] [],.f (idF (.func 390)) [] [],.f (idF (.func 391)) [] [],.f (idF (.func 392)) [] []])),((Cv 7),.ro (.cells [.i .i64 (.negSucc 0),.i .i64 (.negSucc 0)])),(2738,.own (.cells [.s [97,110,97],.s [114,117,105]])),(2739,.own (.cells [.s [115,109,97,108,108],.s [98,105,103]])),(2742,.own (.cells [.i .i64 (.ofNat 0),.i .i64 (.ofNat 1),.i .i64 (.ofNat 1),.i .i64 (.ofNat 1)])),(2745,.own (.cells [.i .i64 (.ofNat 2),.i .i64 (.ofNat 3),.i .i64 (.ofNat 1),.i .i64 (.ofNat 2)])),(2746,.own (.cells [.sl 2742 0 2 true 2,.sl 2745 0 2 true 2])),(2752,.own (.cells [.s [115,49],.i .i64 (.ofNat 0),.i .i64 (.ofNat 0),.i .i64 (.ofNat 0),.i .i64 (.ofNat 0),.i .i64 (.ofNat 1),.i .i64 (.ofNat 10),.i .i64 (.ofNat 12),.s [],.s [103,49],.i .i64 (.ofNat 1),.i .i64 (.ofNat 0),.i .i64 (.ofNat 0),.i .i64 (.ofNat 1),.i .i64 (.ofNat 1),.i .i64 (.ofNat 4),.i .i64 (.ofNat 4),.s [],.s [108,49],.i .i64 (.ofNat 2),.i .i64 (.ofNat 1),.i .i64 (.ofNat 1),.i .i64 (.ofNat 0),.i .i64 (.ofNat 0),.i .i64 (.ofNat 3),.i .i64 (.ofNat 3),.s [],.s [107,49],.i .i64 (.ofNat 3),.i .i64 (.ofNat 2),.i .i64 (.ofNat 0),.i .i64 (.ofNat 1),.i .i64 (.ofNat 0),.i .i64 (.ofNat 2),.i .i64 (.ofNat 2),.s [108,49],.s [120,49],.i .i64 (.ofNat 5),.i .i64 (.ofNat 1),.i .i64 (.ofNat 0),.i .i64 (.ofNat 0),.i .i64 (.ofNat 0),.i .i64 (.ofNat 0),.i .i64 (.ofNat 5),.s []])),(2754,.own (.cells [.s [97,110,97],.s [114,117,105],.s [115,111,108]])),(2755,.own (.cells [.s [105,114,111,110],.s [115,97,108,116]])),(2759,.own (.cells [.i .i64 (.ofNat 10),.i .i64 (.ofNat 20),.i .i64 (.ofNat 5),.i .i64 (.ofNat 9)])),(2763,.own (.cells [.i .i64 (.ofNat 30),.i .i64 (.ofNat 40),.i .i64 (.ofNat 5),.i .i64 (.ofNat 6)])),(2767,.own (.cells [.i .i64 (.ofNat 10),.i .i64 (.ofNat 15),.i .i64 (.ofNat 20),.i .i64 (.ofNat 30)])),(2768,.own (.cells [.s [104,105,108,108],.i .i64 (.ofNat 0),.i .i64 (.ofNat 90),.i .i64 (.ofNat 100),.sl 2759 0 2 true 2,.s [108,111,119],.i .i64 (.ofNat 1),.i .i64 (.ofNat 40),.i .i64 (.ofNat 50),.sl 2763 0 2 true 2,.s [101,97,115,116],.i .i64 (.ofNat 2),.i .i64 (.ofNat 60),.i .i64 (.ofNat 70),.sl 2767 0 2 true 2])),(2774,.own (.cells [.s [104,105,108,108],.s [108,111,119]])),(2775,.own (.cells [.s [104,105,108,108],.i .i64 (.ofNat 60),.s [108,111,119],.i .i64 (.ofNat 40)])),(2776,.own (.cells [.s [102,105,114,115,116],.i .i64 (.ofNat 50)])),(2777,.own (.cells [.s [102,105,114,115,116],.i .i64 (.ofNat 30),.s [115,101,99,111,110,100],.i .i64 (.ofNat 20),.s [108,111,119],.i .i64 (.ofNat 10)])),(2778,.own (.cells [.s [102,105,114,115,116],.sl 2775 0 2 true 2,.s [115,101,99,111,110,100],.sl 2776 0 1 true 1,.s [116,105,110],.sl 2777 0 3 true 3])),(2779,.own (.cells [.i .i64 (.ofNat 1)])),(2783,.own (.cells [.s [97,110,97],.s [114,117,105]])),(2784,.own (.cells [.i .i64 (.ofNat 0),.i .i64 (.ofNat 3),.i .i64 (.ofNat 1),.i .i64 (.ofNat 2),.i .i64 (.ofNat 0),.i .i64 (.ofNat 1)])),(2786,.own (.cells [.i .i64 (.ofNat 30),.i .i64 (.ofNat 31)])),(2787,.own (.cells [.i .i64 (.ofNat 1),.i .i64 (.ofNat 0),.i .i64 (.ofNat 1)])),(2788,.own (.cells [.i .i64 (.ofNat 2),.i .i64 (.ofNat 2),.i .i64 (.ofNat 1)])),(2794,.own (.cells [.s [108,111,119],.i .i64 (.ofNat 0),.i .i64 (.ofNat 1),.i .i64 (.ofNat 300),.i .i64 (.ofNat 400),.i .i64 (.ofNat 5),.s [104,105,103,104],.i .i64 (.ofNat 0),.i .i64 (.ofNat 0),.i .i64 (.ofNat 150),.i .i64 (.ofNat 200),.i .i64 (.ofNat 4),.s [109,105,100],.i .i64 (.ofNat 1),.i .i64 (.ofNat 2),.i .i64 (.ofNat 100),.i .i64 (.ofNat 100),.i .i64 (.ofNat 3)])),(2796,.own (.cells [.i .i64 (.ofNat 1),.i .i64 (.ofNat 13),.i .i64 (.ofNat 15),.i .i64 (.ofNat 0),.i .i64 (.ofNat 15),.i .i64 (.ofNat 16),.i .i64 (.ofNat 1),.i .i64 (.ofNat 17),.i .i64 (.ofNat 19)])),(2797,.own (.cells [.s [112,111,111,108],.i .i64 (.ofNat 100),.i .i64 (.ofNat 0),.s [97,110,97],.i .i64 (.ofNat 0),.i .i64 (.ofNat 50)])),(2798,.own (.cells [.i .i64 (.ofNat 1),.i .i64 (.ofNat 1),.i .i64 (.ofNat 0),.i .i64 (.ofNat 1),.i .i64 (.ofNat 40)])),(2799,.own (.cells [.i .i64 (.ofNat 1)])),(2800,.own (.cells [.s [104,105,108,108],.i .i64 (.ofNat 9)])),(2801,.own (.cells [.s [115,101,99,111,110,100],.i .i64 (.ofNat 5)])),(2802,.own (.cells [.i .i64 (.ofNat 1)])),(2803,.own (.cells [.i .i64 (.ofNat 9),.i .i64 (.ofNat 3),.s [],.i .i64 (.ofNat 0),.i .i64 (.ofNat 0),.i .i64 (.ofNat 0),.i .i64 (.ofNat 0),.i .i64 (.ofNat 0),.i .i64 (.ofNat 0),.i .i64 (.ofNat 0),.s [],.i .i64 (.ofNat 0),.i .i64 (.ofNat 0),.i .i64 (.ofNat 0),.i .i64 (.ofNat 0),.i .i64 (.ofNat 0),.i .i64 (.ofNat 0),.i .i64 (.ofNat 0),.i .i64 (.ofNat 0),.i .i64 (.ofNat 60),.sl 2799 0 1 true 1,.s [],.sn,.i .i64 (.ofNat 3),.i .i64 (.ofNat 2),.s [],.i .i64 (.ofNat 0),.i .i64 (.ofNat 0),.i .i64 (.ofNat 0),.i .i64 (.ofNat 0),.i .i64 (.ofNat 0),.i .i64 (.ofNat 0),.i .i64 (.ofNat 0),.s [],.i .i64 (.ofNat 0),.i .i64 (.ofNat 0),.i .i64 (.ofNat 0),.i .i64 (.ofNat 0),.i .i64 (.ofNat 3),.i .i64 (.ofNat 1),.i .i64 (.ofNat 0),.i .i64 (.ofNat 100),.i .i64 (.ofNat 0),.sn,.s [],.sn,.i .i64 (.ofNat 4),.i .i64 (.ofNat 4),.s [],.i .i64 (.ofNat 0),.i .i64 (.ofNat 0),.i .i64 (.ofNat 0),.i .i64 (.ofNat 0),.i .i64 (.ofNat 0),.i .i64 (.ofNat 0),.i .i64 (.ofNat 0),.s [],.i .i64 (.ofNat 0),.i .i64 (.ofNat 0),.i .i64 (.ofNat 0),.i .i64 (.ofNat 0),.i .i64 (.ofNat 0),.i .i64 (.ofNat 0),.i .i64 (.ofNat 0),.i .i64 (.ofNat 0),.i .i64 (.ofNat 0),.sn,.s [98,111,120],.sl 2800 0 1 true 1,.i .i64 (.ofNat 4),.i .i64 (.ofNat 4),.s [],.i .i64 (.ofNat 0),.i .i64 (.ofNat 0),.i .i64 (.ofNat 0),.i .i64 (.ofNat 0),.i .i64 (.ofNat 0),.i .i64 (.ofNat 0),.i .i64 (.ofNat 0),.s [],.i .i64 (.ofNat 0),.i .i64 (.ofNat 0),.i .i64 (.ofNat 0),.i .i64 (.ofNat 0),.i .i64 (.ofNat 0),.i .i64 (.ofNat 0),.i .i64 (.ofNat 0),.i .i64 (.ofNat 0),.i .i64 (.ofNat 0),.sn,.s [98,97,103],.sl 2801 0 1 true 1,.i .i64 (.ofNat 8),.i .i64 (.ofNat 1),.s [],.i .i64 (.ofNat 0),.i .i64 (.ofNat 0),.i .i64 (.ofNat 0),.i .i64 (.ofNat 0),.i .i64 (.ofNat 0),.i .i64 (.ofNat 0),.i .i64 (.ofNat 0),.s [],.i .i64 (.ofNat 0),.i .i64 (.ofNat 21),.i .i64 (.ofNat 22),.i .i64 (.ofNat 0),.i .i64 (.ofNat 0),.i .i64 (.ofNat 0),.i .i64 (.ofNat 0),.i .i64 (.ofNat 0),.i .i64 (.ofNat 0),.sn,.s [],.sn,.i .i64 (.ofNat 8),.i .i64 (.ofNat 3),.s [],.i .i64 (.ofNat 0),.i .i64 (.ofNat 0),.i .i64 (.ofNat 0),.i .i64 (.ofNat 0),.i .i64 (.ofNat 0),.i .i64 (.ofNat 0),.i .i64 (.ofNat 0),.s [],.i .i64 (.ofNat 0),.i .i64 (.ofNat 0),.i .i64 (.ofNat 0),.i .i64 (.ofNat 0),.i .i64 (.ofNat 0),.i .i64 (.ofNat 0),.i .i64 (.ofNat 0),.i .i64 (.ofNat 0),.i .i64 (.ofNat 30),.sl 2802 0 1 true 1,.s [],.sn]))]
 x:=.t [.g [.sl 3085 0 2 false 0,.sl 3075 0 2 false 0,.sl 3083 0 2 false 0,.i .i64 (.ofNat 2),.sl 3087 0 5 false 0,.sl 3089 0 2 false 0,.sl 3091 0 3 false 0,.i .i64 (.ofNat 10),.i .i64 (.ofNat 24),.i .i64 (.ofNat 20),.i .i64 (.ofNat 4),.sl 3093 0 1 false 0,.sl 3095 0 1 false 0,.sl 3097 0 1 false 0,.i .i64 (.ofNat 100),.i .i64 (.ofNat 120),.i .i64 (.ofNat 100),.i .i64 (.ofNat 200),.sl 3099 0 3 false 0,.i .i64 (.negSucc 0),.i .i64 (.ofNat 1),.sl 3101 0 3 false 0,.sl 3103 0 2 false 0,.i .i64 (.ofNat 100),.i .i64 (.ofNat 10),.sl 3105 0 1 false 0,.sl 3107 0 3 false 0,.sl 3109 0 2 false 0,.sl 3130 0 3 false 0,.sl 4084 0 1 false 0,.sl 3132 0 2 false 0,.sl 3234 0 4 false 0,.sl 3073 0 1 false 0,.sn],.sl 4236 0 4 false 0,.sl 4238 0 4 false 0,.i .i64 (.ofNat 0)]
 outs:=[(3073,.own (.grow 1 [.i .i64 (.ofNat 1)])),(3075,.own (.grow 1 [.s [115,109,97,108,108],.s [98,105,103]])),(3077,.own (.grow 2 [.i .i64 (.ofNat 0),.i .i64 (.ofNat 1),.i .i64 (.ofNat 1),.i .i64 (.ofNat 1)])),(3081,.own (.grow 2 [.i .i64 (.ofNat 2),.i .i64 (.ofNat 3),.i .i64 (.ofNat 1),.i .i64 (.ofNat 2)])),(3083,.own (.grow 1 [.sl 3077 0 2 false 0,.sl 3081 0 2 false 0])),(3085,.own (.grow 1 [.s [97,110,97],.s [114,117,105]])),(3087,.own (.grow 9 [.s [115,49],.i .i64 (.ofNat 0),.i .i64 (.ofNat 0),.i .i64 (.ofNat 0),.i .i64 (.ofNat 0),.i .i64 (.ofNat 1),.i .i64 (.ofNat 10),.i .i64 (.ofNat 12),.s [],.s [103,49],.i .i64 (.ofNat 1),.i .i64 (.ofNat 0),.i .i64 (.ofNat 0),.i .i64 (.ofNat 1),.i .i64 (.ofNat 1),.i .i64 (.ofNat 4),.i .i64 (.ofNat 4),.s [],.s [108,49],.i .i64 (.ofNat 2),.i .i64 (.ofNat 1),.i .i64 (.ofNat 1),.i .i64 (.ofNat 0),.i .i64 (.ofNat 0),.i .i64 (.ofNat 3),.i .i64 (.ofNat 3),.s [],.s [107,49],.i .i64 (.ofNat 3),.i .i64 (.ofNat 2),.i .i64 (.ofNat 0),.i .i64 (.ofNat 1),.i .i64 (.ofNat 0),.i .i64 (.ofNat 2),.i .i64 (.ofNat 2),.s [108,49],.s [120,49],.i .i64 (.ofNat 5),.i .i64 (.ofNat 1),.i .i64 (.ofNat 0),.i .i64 (.ofNat 0),.i .i64 (.ofNat 0),.i .i64 (.ofNat 0),.i .i64 (.ofNat 5),.s []])),(3089,.ro (.grow 1 [.s [97,110,97],.s [114,117,105]])),(3091,.ro (.grow 2 [.i .i64 (.ofNat 0),.i .i64 (.ofNat 3),.i .i64 (.ofNat 1),.i .i64 (.ofNat 2),.i .i64 (.ofNat 0),.i .i64 (.ofNat 1)])),(3093,.ro (.grow 2 [.i .i64 (.ofNat 30),.i .i64 (.ofNat 31)])),(3095,.ro (.grow 3 [.i .i64 (.ofNat 1),.i .i64 (.ofNat 0),.i .i64 (.ofNat 1)])),(3097,.ro (.grow 3 [.i .i64 (.ofNat 2),.i .i64 (.ofNat 2),.i .i64 (.ofNat 1)])),(3099,.ro (.grow 6 [.s [108,111,119],.i .i64 (.ofNat 0),.i .i64 (.ofNat 1),.i .i64 (.ofNat 300),.i .i64 (.ofNat 400),.i .i64 (.ofNat 5),.s [104,105,103,104],.i .i64 (.ofNat 0),.i .i64 (.ofNat 0),.i .i64 (.ofNat 150),.i .i64 (.ofNat 200),.i .i64 (.ofNat 4),.s [109,105,100],.i .i64 (.ofNat 1),.i .i64 (.ofNat 2),.i .i64 (.ofNat 100),.i .i64 (.ofNat 100),.i .i64 (.ofNat 3)])),(3101,.own (.grow 3 [.i .i64 (.ofNat 1),.i .i64 (.ofNat 13),.i .i64 (.ofNat 15),.i .i64 (.ofNat 0),.i .i64 (.ofNat 15),.i .i64 (.ofNat 16),.i .i64 (.ofNat 1),.i .i64 (.ofNat 17),.i .i64 (.ofNat 19)])),(3103,.own (.grow 3 [.s [112,111,111,108],.i .i64 (.ofNat 100),.i .i64 (.ofNat 0),.s [97,110,97],.i .i64 (.ofNat 0),.i .i64 (.ofNat 50)])),(3105,.own (.grow 5 [.i .i64 (.ofNat 1),.i .i64 (.ofNat 1),.i .i64 (.ofNat 0),.i .i64 (.ofNat 1),.i .i64 (.ofNat 40)])),(3107,.own (.grow 1 [.s [97,110,97],.s [114,117,105],.s [115,111,108]])),(3109,.own (.grow 1 [.s [105,114,111,110],.s [115,97,108,116]])),(3114,.own (.grow 2 [.i .i64 (.ofNat 10),.i .i64 (.ofNat 20),.i .i64 (.ofNat 5),.i .i64 (.ofNat 9)])),(3121,.own (.grow 2 [.i .i64 (.ofNat 30),.i .i64 (.ofNat 40),.i .i64 (.ofNat 5),.i .i64 (.ofNat 6)])),(3128,.own (.grow 2 [.i .i64 (.ofNat 10),.i .i64 (.ofNat 15),.i .i64 (.ofNat 20),.i .i64 (.ofNat 30)])),(3130,.own (.grow 5 [.s [104,105,108,108],.i .i64 (.ofNat 0),.i .i64 (.ofNat 90),.i .i64 (.ofNat 100),.sl 3114 0 2 false 0,.s [108,111,119],.i .i64 (.ofNat 1),.i .i64 (.ofNat 40),.i .i64 (.ofNat 50),.sl 3121 0 2 false 0,.s [101,97,115,116],.i .i64 (.ofNat 2),.i .i64 (.ofNat 60),.i .i64 (.ofNat 70),.sl 3128 0 2 false 0])),(3132,.own (.grow 1 [.s [104,105,108,108],.s [108,111,119]])),(3137,.own (.grow 2 [.s [104,105,108,108],.i .i64 (.ofNat 60),.s [108,111,119],.i .i64 (.ofNat 40)])),(3144,.own (.grow 2 [.s [102,105,114,115,116],.i .i64 (.ofNat 50)])),(3151,.own (.grow 2 [.s [102,105,114,115,116],.i .i64 (.ofNat 30),.s [115,101,99,111,110,100],.i .i64 (.ofNat 20),.s [108,111,119],.i .i64 (.ofNat 10)])),(3231,.own (.grow 2 [.s [104,105,108,108],.i .i64 (.ofNat 9)])),(3234,.own (.grow 2 [.s [102,105,114,115,116],.sl 3137 0 2 false 0,.s [115,101,99,111,110,100],.sl 3144 0 1 false 0,.s [116,105,110],.sl 3151 0 3 false 0,.s [98,111,120],.sl 3231 0 1 false 0])),(4081,.own (.grow 1 [.i .i64 (.ofNat 1)])),(4084,.own (.grow 2 [.i .i64 (.ofNat 30),.sl 4081 0 1 false 0])),(4236,.own (.grow 1 [.i .i64 (.ofNat 0),.i .i64 (.ofNat 1),.i .i64 (.ofNat 3),.i .i64 (.ofNat 4)])),(4238,.own (.grow 1 [.i .i64 (.ofNat 0),.i .i64 (.ofNat 0),.i .i64 (.ofNat 0),.i .i64 (.ofNat 0)]))]
 nx':=4239
noncomputable def eContents2:EntC where
 g:=idF (.func 10)
 nx:=4248
 args:=[.g [.sl 3132 0 2 false 0,.sl 3234 0 4 false 0],.i .i64 (.ofNat 3)]
 cs:=[(3132,.own (.grow 1 [.s [104,105,108,108],.s [108,111,119]])),(3137,.own (.grow 2 [.s [104,105,108,108],.i .i64 (.ofNat 60),.s [108,111,119],.i .i64 (.ofNat 40)])),(3144,.own (.grow 2 [.s [102,105,114,115,116],.i .i64 (.ofNat 50)])),(3151,.own (.grow 2 [.s [102,105,114,115,116],.i .i64 (.ofNat 30),.s [115,101,99,111,110,100],.i .i64 (.ofNat 20),.s [108,111,119],.i .i64 (.ofNat 10)])),(3231,.own (.grow 2 [.s [104,105,108,108],.i .i64 (.ofNat 9)])),(3234,.own (.grow 2 [.s [102,105,114,115,116],.sl 3137 0 2 false 0,.s [115,101,99,111,110,100],.sl 3144 0 1 false 0,.s [116,105,110],.sl 3151 0 3 false 0,.s [98,111,120],.sl 3231 0 1 false 0]))]
 x:=.t [.sl 4815 0 2 false 0,.i .i64 (.ofNat 0)]
 outs:=[(4815,.own (.grow 2 [.i .i64 (.ofNat 9),.i .i64 (.ofNat 9),.i .i64 (.ofNat 0),.i .i64 (.ofNat 0)]))]
 nx':=4816
noncomputable def eTin1:EntC where
 g:=idF (.func 135)
 nx:=4243
 args:=[.p 4241 0]
 cs:=[(3132,.own (.grow 1 [.s [104,105,108,108],.s [108,111,119]])),(3137,.own (.grow 2 [.s [104,105,108,108],.i .i64 (.ofNat 60),.s [108,111,119],.i .i64 (.ofNat 40)])),(3144,.own (.grow 2 [.s [102,105,114,115,116],.i .i64 (.ofNat 50)])),(3151,.own (.grow 2 [.s [102,105,114,115,116],.i .i64 (.ofNat 30),.s [115,101,99,111,110,100],.i .i64 (.ofNat 20),.s [108,111,119],.i .i64 (.ofNat 10)])),(3231,.own (.grow 2 [.s [104,105,108,108],.i .i64 (.ofNat 9)])),(3234,.own (.grow 2 [.s [102,105,114,115,116],.sl 3137 0 2 false 0,.s [115,101,99,111,110,100],.sl 3144 0 1 false 0,.s [116,105,110],.sl 3151 0 3 false 0,.s [98,111,120],.sl 3231 0 1 false 0])),(4240,.own (.cells [.s [116,105,110],.s [98,111,120]])),(4241,.own (.cells [.sl 3085 0 2 false 0,.sl 3075 0 2 false 0,.sl 3083 0 2 false 0,.i .i64 (.ofNat 2),.sl 3087 0 5 false 0,.sl 3089 0 2 false 0,.sl 3091 0 3 false 0,.i .i64 (.ofNat 10),.i .i64 (.ofNat 24),.i .i64 (.ofNat 20),.i .i64 (.ofNat 4),.sl 3093 0 1 false 0,.sl 3095 0 1 false 0,.sl 3097 0 1 false 0,.i .i64 (.ofNat 100),.i .i64 (.ofNat 120),.i .i64 (.ofNat 100),.i .i64 (.ofNat 200),.sl 3099 0 3 false 0,.i .i64 (.negSucc 0),.i .i64 (.ofNat 1),.sl 3101 0 3 false 0,.sl 3103 0 2 false 0,.i .i64 (.ofNat 100),.i .i64 (.ofNat 10),.sl 3105 0 1 false 0,.sl 3107 0 3 false 0,.sl 3109 0 2 false 0,.sl 3130 0 3 false 0,.sl 4084 0 1 false 0,.sl 3132 0 2 false 0,.sl 3234 0 4 false 0,.sl 3073 0 1 false 0,.sn,.sl 4240 1 1 true 1]))]
 x:=.t [.sl 4823 0 2 false 0,.i .i64 (.ofNat 0)]
 outs:=[(4823,.own (.grow 1 [.s [104,105,108,108,32,57],.s [108,111,119,32,48]]))]
 nx':=4824
noncomputable def eKnows1:EntC where
 g:=idF (.func 5)
 nx:=16
 args:=[]
 cs:=[((Cv 0),.ro (.cells [.f (idF (.func 352)) [] [],.f (idF (.func 353)) [] [],.f (idF (.func 354)) [] [],.f (idF (.func 355)) [] [],.f (idF (.func 356)) [] [],.f (idF (.func 357)) [] [],.f (idF (.func 358)) [] [],.f (idF (.func 359)) [] [],.f (idF (.func 360)) [] [],.f (idF (.func 361)) [] []])),((Cv 1),.ro (.cells [.s [112,97,121],.f (idF (.func 384)) [] [],.s [108,111,97,110],.f (idF (.func 385)) [] [],.s [98,97,99,107],.f (idF (.func 386)) [] [],.s [100,111,119,114,121],.f (idF (.func 387)) [] []])),((Cv 5),.ro (.cells [.s [115,116,97,114,116],.fn,.f (idF (.func 349)) [] [],.b false,.s [103,105,102,116],.f (idF (.func 388)) [] [],.f (idF (.func 349)) [] [],.b true,.s [108,111,97,110],.f (idF (.func 388)) [] [],.f (idF (.func 349)) [] [],.b true,.s [98,97,99,107],.f (idF (.func 388)) [] [],.f (idF (.func 349)) [] [],.b true,.s [115,97,108,101],.f (idF (.func 388)) [] [],.fn,.b true,.s [108,111,115,115],.f (idF (.func 388)) [] [],.fn,.b false])),((Cv 6),.ro (.cells [.f (idF (.func 389)) [] [],.f (idF (.func 390)) [] [],.f (idF (.func 391)) [] [],.f (idF (.func 392)) [] []])),((Cv 7),.ro (.cells [.i .i64 (.negSucc 0),.i .i64 (.negSucc 0)]))]
 x:=.b true
 outs:=[]
 nx':=16
noncomputable def eSp1b:EntC where
 g:=idF (.func 101)
 nx:=1295
 args:=[.i .i64 (.negSucc 0),.i .i64 (.ofNat 1)]
 cs:=[]
 x:=.g [.i .i64 (.negSucc 0),.i .i64 (.ofNat 1)]
 outs:=[]
 nx':=1295
noncomputable def eSp2b:EntC where
 g:=idF (.func 101)
 nx:=2797
 args:=[.i .i64 (.negSucc 0),.i .i64 (.ofNat 1)]
 cs:=[]
 x:=.g [.i .i64 (.negSucc 0),.i .i64 (.ofNat 1)]
 outs:=[]
 nx':=2797
end
section
open Go Go.Conc
theorem Big:runE Tryz.prog (xFnsH Tryz.prog [] 100000) eSp1=true:=by kernel_rfl
theorem Bgv:Fd Tryz.prog eSp1:=Ef (es:=[]) .nil 100000 Big
theorem Bhb:runE Tryz.prog (xFnsH Tryz.prog [] 100000) eSp1b=true:=by kernel_rfl
theorem Bet:Fd Tryz.prog eSp1b:=Ef (es:=[]) .nil 100000 Bhb
theorem Bih:runE Tryz.prog (xFnsH Tryz.prog [] 100000) eSp2=true:=by kernel_rfl
theorem Bgw:Fd Tryz.prog eSp2:=Ef (es:=[]) .nil 100000 Bih
theorem Bhc:runE Tryz.prog (xFnsH Tryz.prog [] 100000) eSp2b=true:=by kernel_rfl
theorem Beu:Fd Tryz.prog eSp2b:=Ef (es:=[]) .nil 100000 Bhc
theorem Bgz:runE Tryz.prog (xFnsH Tryz.prog [eSp1,eSp1b] 100000) eEx21=true:=by kernel_rfl
theorem Ber:Fd Tryz.prog eEx21:=Ef (es:=[eSp1,eSp1b]) (.cons Bgv (.cons Bet .nil)) 100000 Bgz
theorem Bha:runE Tryz.prog (xFnsH Tryz.prog [eSp2,eSp2b] 100000) eEx22=true:=by kernel_rfl
theorem Bes:Fd Tryz.prog eEx22:=Ef (es:=[eSp2,eSp2b]) (.cons Bgw (.cons Beu .nil)) 100000 Bha
theorem Bbd:runE Tryz.prog (xFnsH Tryz.prog [] 100000) eDebts1=true:=by kernel_rfl
theorem Awt:Fd Tryz.prog eDebts1:=Ef (es:=[]) .nil 100000 Bbd
theorem Bbe:runE Tryz.prog (xFnsH Tryz.prog [] 100000) eDebts2=true:=by kernel_rfl
theorem Awu:Fd Tryz.prog eDebts2:=Ef (es:=[]) .nil 100000 Bbe
theorem Bbf:runE Tryz.prog (xFnsH Tryz.prog [] 100000) eJudge1=true:=by kernel_rfl
theorem Awv:Fd Tryz.prog eJudge1:=Ef (es:=[]) .nil 100000 Bbf
theorem Bbg:runE Tryz.prog (xFnsH Tryz.prog [] 100000) eJudge2=true:=by kernel_rfl
theorem Aww:Fd Tryz.prog eJudge2:=Ef (es:=[]) .nil 100000 Bbg
theorem Axj:runE Tryz.prog (xFnsH Tryz.prog [eDebts1,eJudge1] 100000) eReplay1=true:=by kernel_rfl
theorem Ash:Fd Tryz.prog eReplay1:=Ef (es:=[eDebts1,eJudge1]) (.cons Awt (.cons Awv .nil)) 100000 Axj
theorem Axk:runE Tryz.prog (xFnsH Tryz.prog [eDebts2,eJudge2] 100000) eReplay2=true:=by kernel_rfl
theorem Asi:Fd Tryz.prog eReplay2:=Ef (es:=[eDebts2,eJudge2]) (.cons Awu (.cons Aww .nil)) 100000 Axk
theorem Anc:runE Tryz.prog (xFnsH Tryz.prog [] 100000) eContents1=true:=by kernel_rfl
theorem Ajj:Fd Tryz.prog eContents1:=Ef (es:=[]) .nil 100000 Anc
theorem Axi:runE Tryz.prog (xFnsH Tryz.prog [] 100000) eRecall1=true:=by kernel_rfl
theorem Asg:Fd Tryz.prog eRecall1:=Ef (es:=[]) .nil 100000 Axi
theorem Ane:runE Tryz.prog (xFnsH Tryz.prog [] 100000) eContents2=true:=by kernel_rfl
theorem Ajk:Fd Tryz.prog eContents2:=Ef (es:=[]) .nil 100000 Ane
theorem Bhd:runE Tryz.prog (xFnsH Tryz.prog [eContents2] 100000) eTin1=true:=by kernel_rfl
theorem Bev:Fd Tryz.prog eTin1:=Ef (es:=[eContents2]) (.cons Ajk .nil) 100000 Bhd
end
section
open Go
theorem Anx:∀a b:List UInt8,Value.string (bs a)=Value.string (bs b)→a=b:=fun a b h=>Bdc (by injection h)
theorem Bgc:Fw Tryz.prog 98 (.pointer none):=⟨_,Ab Tryz.typeInfo98,rfl⟩
theorem Nh{ρ:Ro}{σ:Own}:∀{g:Own},ObjsO g→Ghost ρ (g++σ) ρ σ
 | [],_=>.refl
 | x::g,h=>by
  obtain⟨r,o,rfl⟩:=h x mC
  exact Ghost.trans .drop (Nh fun y hy=>h y (lZ0 _ hy))
theorem Aqz{ρ:Ro}{g pf σ:Own}{r6:Nat}{o6:Obj}{a b c d:Nat×Res}(h:ObjsO g):Ghost ρ (g++((r6,Res.obj o6)::a::b::c::d::(pf++σ))) ρ (pf++(d::c::b::a::σ)):=by
 refine(Nh h).trans (Ghost.drop.trans (Ghost.perm ?_))
 have e:a::b::c::d::(pf++σ)=[a,b,c,d]++(pf++σ):=rfl
 have e':pf++(d::c::b::a::σ)=pf++([d,c,b,a]++σ):=rfl
 rw[e,e',←lZ6,←lZ6]
 refine List.Perm.append_right σ (List.perm_append_comm.trans (List.Perm.append_left pf ?_))
 exact(List.reverse_perm [a,b,c,d]).symm
theorem Grow.objs{ρ:Ro}{v:Value}{xs:List ByteArray}{g:Own}(hg:Grow ρ 9 v xs g):ObjsO g:=fun y hy=>by
 obtain⟨k,b⟩:=y
 obtain⟨z,hz⟩:=hg.1 _ hy
 exact⟨k,z,by rw[←hz]⟩
theorem Alx{ρ:Ro}{v:Value}{xs:List ByteArray}{g σ:Own}{k:Nat}{o:Obj}(hg:Grow ρ 9 v xs g):Ghost ρ (g++((k,Res.obj o)::σ)) ρ σ:=(Nh hg.objs).trans .drop
theorem Bbl{s kd:List UInt8}{n:Nat}{my:Int}{xs:List ByteArray}(h:Xc (Bu [] s) n kd my xs)(hs:s.length≤60000):I64 (n:Int):=by
 have a:=Nr (s:=s) (acc:=[])
 have:=h.2.1
 unfold I64
 simp at a;omega
theorem Aka{s kd:List UInt8}{xs:List ByteArray}{v:Value}{g:Own}{ρ ρ₀:Ro}{σ₀:Own}(hl:Ro.le ρ₀ ρ)(h:Bw s=(kd,xs,0,0))(hg:Grow ρ 9 v xs g):Oe s ρ₀ σ₀ (.tuple #[.string (bs kd),v,z0,z0]) ρ (g++σ₀):=by
 unfold Oe
 rw[h]
 exact⟨hl,v,g,rfl,hg,rfl,fun h=>absurd rfl h⟩
theorem Jx{s:List UInt8}{ρ ρ₀:Ro}{σ₀:Own}{ln f:Int}(hl:Ro.le ρ₀ ρ)(h:Bw s=([],[],ln,f)):Oe s ρ₀ σ₀ (.tuple #[.string ⟨#[]⟩,nS,.int .i64 ln,.int .i64 f]) ρ σ₀:=by
 unfold Oe
 rw[h]
 exact⟨hl,_,[],rfl,Hm,rfl,fun _=>⟨rfl,rfl⟩⟩
theorem Aud{mn:Bool}{X:Frame→List Frame→Ro→Own→Cy→Prop}{ρ:Ro}{σ:Own}{s:List UInt8}(hb:s.length<2^60):CallsH (CX mn X) 7 #[.string (bs s)] ρ σ (fun w ρ' σ'=>Oe s ρ σ w ρ' σ'):=by
 refine Alo (n:=45) (args:=[.string (bs s)]) Tryz.func7 rfl rfl rfl fun Q M bj=>?_
 refine w_q rfl rfl fun K1 k1=>Arv (Ct zr9 fun c=>?_)
 refine Arv (Ct Biw fun d=>?_)
 refine Arv (Ct zr3 fun e=>?_)
 refine Arv (Ct Bix fun g=>?_)
 refine Ary rfl rfl k1 fun K6 K7 k6 k7=>Au (.string (bs s)) (l_v (Ce Biy (p:=s) rfl) (l_v (Gl (p:=(s.length:Int)) (q:=60000) rfl rfl) (l_k k7 (Bp (t:=decide ((s.length:Int)>60000)) rfl (fun J=>?_) (fun J=>?_)))))
 ·have q8:=Ee J
  refine w_q rfl rfl fun K9 k9=>Cx rfl (Cz (j:=3) (v:=.string (ByteArray.mk #[])) ty9.2 rfl rfl rfl rfl nL ?_)
  refine Cx rfl (Cz (j:=2) (v:=nS) ⟨_,Ab Bjh,rfl⟩ rfl rfl rfl rfl nL ?_)
  refine Cx rfl (Cz (j:=1) (v:=iV 0) ⟨_,Ab Bjc,rfl⟩ rfl rfl rfl rfl nL ?_)
  refine Cx rfl (Cz (j:=0) (v:=iV 2) ⟨_,Ab Bjl,rfl⟩ rfl rfl rfl rfl nL ?_)
  refine l_k k9 (Aj (Ghost.perm Arz) (Aj (Ghost.perm (Gr Arz)) (Aj (Ghost.perm (Gr (Gr Arz))) (Aq (M _ _ _ _ (Uu rfl rfl rfl rfl rfl ⟨ρ,σ,.refl,Jx .refl (Bff (by omega))⟩))))))
 have q8:=Fv J
 refine Al (kk k6 ?_)
 refine w_q rfl rfl fun b6 al=>l_v (Il (fn:=.func 26) (caps:=[.tmp 2,.tmp 3,.tmp 4,.tmp 5]) (vs:=[pV c,pV d,pV e,pV g]) ⟨rfl,rfl,rfl,rfl,trivial⟩) (Cx rfl (Atd (fs:=[pV c,pV d,pV e,pV g]) rfl ?_))
 refine Arx rfl rfl al fun b7 am=>l_v (Dn (ns:=[1,1,1,1]) (vs:=[]) (zc:=Bga) (cs:=[iV 0,.string (ByteArray.mk #[]),iV 0,nS]) Bja Bgd rfl ⟨⟨_,Ab Bjc,rfl⟩,ty9.2,⟨_,Ab Bjc,rfl⟩,⟨_,Ab Bjh,rfl⟩,trivial⟩ (EvB.map trivial) rfl) (Arv (Eb (v:=.agg #[iV 0,.string (ByteArray.mk #[]),iV 0,nS]) rfl fun a=>?_))
 refine Arv (Ct Bgc fun k=>?_)
 refine Cx rfl (Cz (j:=0) (v:=pV a) ⟨_,Ab Tryz.typeInfo98,rfl⟩ rfl rfl rfl rfl nL ?_)
 refine Ary rfl rfl am fun b9 ba an ao=>Au (.string (bs s)) (Arv (Cm (vs:=[.string (bs s)]) (Auc (t:=s)) Tryz.func27 rfl rfl ⟨rfl,trivial⟩ fun bv c3 c7 a2=>?_))
 obtain⟨L,ap,af,N⟩:=a2
 replace L:=L.symm;replace N:=N.symm;subst L N af
 refine l_k ao (Ao (Wl (ys:=(Bu [] s).map (fun l:List UInt8=>Value.string (bs l))) (O:=[(ap,oC #[.string (bs s)] 9)]) (fun pre ρ' τ=>∃(y:List (List UInt8)) (n:Nat) (kd:List UInt8) (my:Int) (xs:List ByteArray) (b:Value) (h:Own),pre=y.map (fun l:List UInt8=>Value.string (bs l))∧(h++((k,oC #[pV a] 98)::((a,oC #[iV n,.string (bs kd),iV my,b] 100)::((g,oC #[iV 0] 25)::((e,oC #[iV 0] 3)::((d,oC #[nS] 22)::((c,oC #[.string (ByteArray.mk #[])] 9)::σ)))))))=τ∧(Xc y n kd my xs)∧Grow ρ' 9 b xs h∧True) (fun v _ τ=>(∃ln f,Qu 0 [] 0 [] (Bu [] s) = .inl (ln,f)∧v=Nx ln f)∧τ=Bbn c d e g (.string ⟨#[]⟩) nS z0 z0 σ) rfl rfl Tryz.func7 nL rfl (Are (by omega)) ?_ ?_ ?_ ?_ ?_))
 ·rintro pre ρa ρb σa hle ⟨y,n,kd,my,xs,b,h,V,W,m,u,_⟩;exact⟨y,n,kd,my,xs,b,h,V,W,m,u.mono hle,trivial⟩
 ·exact⟨[],0,[],0,[],nS,[],rfl,rfl,Axq,Hm,trivial⟩
 ·rintro bp _ c0 br c4 _ ak bo ⟨y,n,kd,my,xs,b,h,rfl,rfl,m,u,_⟩ z bk
  obtain⟨x,bq,K,rfl⟩:=Ly Anx ak
  refine Aj (σ':=h++((k,Res.obj (Obj.cells #[pV a] 98 (0,0)))::((a,Res.obj (Obj.cells #[iV n,.string (bs kd),iV my,b] 100 (0,0)))::((g,Res.obj (Obj.cells #[iV 0] 25 (0,0)))::((e,Res.obj (Obj.cells #[iV 0] 3 (0,0)))::((d,Res.obj (Obj.cells #[nS] 22 (0,0)))::((c,Res.obj (Obj.cells #[.string (ByteArray.mk #[])] 9 (0,0)))::(z++σ)))))))) (Ghost.perm (by first|exact Fe z (h++[(k,Res.obj (Obj.cells #[pV a] 98 (0,0))),(a,Res.obj (Obj.cells #[iV n,.string (bs kd),iV my,b] 100 (0,0))),(g,Res.obj (Obj.cells #[iV 0] 25 (0,0))),(e,Res.obj (Obj.cells #[iV 0] 3 (0,0))),(d,Res.obj (Obj.cells #[nS] 22 (0,0))),(c,Res.obj (Obj.cells #[.string (ByteArray.mk #[])] 9 (0,0)))]) σ|simpa only[lZ6,Sp,Qt,Aio]using Fe z (h++[(k,Res.obj (Obj.cells #[pV a] 98 (0,0))),(a,Res.obj (Obj.cells #[iV n,.string (bs kd),iV my,b] 100 (0,0))),(g,Res.obj (Obj.cells #[iV 0] 25 (0,0))),(e,Res.obj (Obj.cells #[iV 0] 3 (0,0))),(d,Res.obj (Obj.cells #[nS] 22 (0,0))),(c,Res.obj (Obj.cells #[.string (ByteArray.mk #[])] 9 (0,0)))]) σ)) ?_
  have aa:=Bfa m K (by omega)
  have a8:x.length≤60000:=Jm (Uo (acc:=[]) (s:=s) x (by rw[K];simp)) (by simp;omega)
  obtain⟨_,bm,bn,ac⟩:=id m
  refine Ag rfl rfl (Av (.string (bs x)) (Bj (σ':=z++(h++((k,Res.obj (Obj.cells #[pV a] 98 (0,0)))::((a,Res.obj (Obj.cells #[iV n,.string (bs kd),iV my,b] 100 (0,0)))::((g,Res.obj (Obj.cells #[iV 0] 25 (0,0)))::((e,Res.obj (Obj.cells #[iV 0] 3 (0,0)))::((d,Res.obj (Obj.cells #[nS] 22 (0,0)))::((c,Res.obj (Obj.cells #[.string (ByteArray.mk #[])] 9 (0,0)))::σ)))))))) (Ghost.perm (by first|exact Fe (h++[(k,Res.obj (Obj.cells #[pV a] 98 (0,0))),(a,Res.obj (Obj.cells #[iV n,.string (bs kd),iV my,b] 100 (0,0))),(g,Res.obj (Obj.cells #[iV 0] 25 (0,0))),(e,Res.obj (Obj.cells #[iV 0] 3 (0,0))),(d,Res.obj (Obj.cells #[nS] 22 (0,0))),(c,Res.obj (Obj.cells #[.string (ByteArray.mk #[])] 9 (0,0)))]) z σ|simpa only[lZ6,Sp,Qt,Aio]using Fe (h++[(k,Res.obj (Obj.cells #[pV a] 98 (0,0))),(a,Res.obj (Obj.cells #[iV n,.string (bs kd),iV my,b] 100 (0,0))),(g,Res.obj (Obj.cells #[iV 0] 25 (0,0))),(e,Res.obj (Obj.cells #[iV 0] 3 (0,0))),(d,Res.obj (Obj.cells #[nS] 22 (0,0))),(c,Res.obj (Obj.cells #[.string (ByteArray.mk #[])] 9 (0,0)))]) z σ)) (Ac ?_)))
  refine⟨rfl,rfl,Bjy,_,rfl,?_⟩
  intro B bl
  refine Aps ?_
  refine Aj (σ':=h++((k,Res.obj (Obj.cells #[pV a] 98 (0,0)))::((a,Res.obj (Obj.cells #[iV n,.string (bs kd),iV my,b] 100 (0,0)))::((g,Res.obj (Obj.cells #[iV 0] 25 (0,0)))::((e,Res.obj (Obj.cells #[iV 0] 3 (0,0)))::((d,Res.obj (Obj.cells #[nS] 22 (0,0)))::((c,Res.obj (Obj.cells #[.string (ByteArray.mk #[])] 9 (0,0)))::(B++σ)))))))) (Ghost.perm (by first|exact Fe B (h++[(k,Res.obj (Obj.cells #[pV a] 98 (0,0))),(a,Res.obj (Obj.cells #[iV n,.string (bs kd),iV my,b] 100 (0,0))),(g,Res.obj (Obj.cells #[iV 0] 25 (0,0))),(e,Res.obj (Obj.cells #[iV 0] 3 (0,0))),(d,Res.obj (Obj.cells #[nS] 22 (0,0))),(c,Res.obj (Obj.cells #[.string (ByteArray.mk #[])] 9 (0,0)))]) σ|simpa only[lZ6,Sp,Qt,Aio]using Fe B (h++[(k,Res.obj (Obj.cells #[pV a] 98 (0,0))),(a,Res.obj (Obj.cells #[iV n,.string (bs kd),iV my,b] 100 (0,0))),(g,Res.obj (Obj.cells #[iV 0] 25 (0,0))),(e,Res.obj (Obj.cells #[iV 0] 3 (0,0))),(d,Res.obj (Obj.cells #[nS] 22 (0,0))),(c,Res.obj (Obj.cells #[.string (ByteArray.mk #[])] 9 (0,0)))]) σ)) (Ao (Ag rfl rfl (Arv (Gu (v:=pV a) ⟨_,Bjk,rfl⟩ rfl (Hb _ mC) rfl ?_))))
  refine Au (.string (bs x)) (Bj (Ghost.perm (Aso Arz)) (Ds rfl (Eo (vs:=[pV a,.string (bs x)]) (Bdg (r:=a) (n:=n) (kd:=kd) (s:=x) (my:=my) u a8 aa (by omega) ac) Tryz.func28 rfl rfl ⟨rfl,rfl,trivial⟩ (fun bx b2 b4 a3=>?_) fun c1 b2 b4 ai=>?_)))
  rotate_left
  ·obtain⟨a7,⟨bh,a6,P⟩,a5,ad⟩:=ai
   subst P
   refine⟨_,_,Aqz a6,rfl,a7,_,rfl,⟨_,_,Axp m K a5,ad⟩,rfl⟩
  obtain⟨ay,F,G,b1,H,E,P,Z,a0,Y,ag⟩:=a3
  subst P ag
  refine Bj (Ghost.perm (Gr Asd)) (Bj (Ghost.perm (Axh Asc)) (Bj (σ':=B++(E++((k,Res.obj (Obj.cells #[pV a] 98 (0,0)))::((a,Res.obj (Obj.cells #[iV ((n+1):Nat),.string (bs F),iV G,H] 100 (0,0)))::((g,Res.obj (Obj.cells #[iV 0] 25 (0,0)))::((e,Res.obj (Obj.cells #[iV 0] 3 (0,0)))::((d,Res.obj (Obj.cells #[nS] 22 (0,0)))::((c,Res.obj (Obj.cells #[.string (ByteArray.mk #[])] 9 (0,0)))::σ)))))))) (Ghost.perm (by first|exact Fe (E++[(k,Res.obj (Obj.cells #[pV a] 98 (0,0))),(a,Res.obj (Obj.cells #[iV ((n+1):Nat),.string (bs F),iV G,H] 100 (0,0))),(g,Res.obj (Obj.cells #[iV 0] 25 (0,0))),(e,Res.obj (Obj.cells #[iV 0] 3 (0,0))),(d,Res.obj (Obj.cells #[nS] 22 (0,0))),(c,Res.obj (Obj.cells #[.string (ByteArray.mk #[])] 9 (0,0)))]) B σ|simpa only[lZ6,Sp,Qt,Aio]using Fe (E++[(k,Res.obj (Obj.cells #[pV a] 98 (0,0))),(a,Res.obj (Obj.cells #[iV ((n+1):Nat),.string (bs F),iV G,H] 100 (0,0))),(g,Res.obj (Obj.cells #[iV 0] 25 (0,0))),(e,Res.obj (Obj.cells #[iV 0] 3 (0,0))),(d,Res.obj (Obj.cells #[nS] 22 (0,0))),(c,Res.obj (Obj.cells #[.string (ByteArray.mk #[])] 9 (0,0)))]) B σ)) (Ac ?_)))
  refine⟨ay,_,rfl,rfl,y++[x],(n+1),F,G,b1,H,E,(by simp),rfl,(Asp m Y a0),(Fy rfl Z),trivial⟩
 ·rintro T c5 _ R ⟨y,n,kd,my,xs,b,h,ab,rfl,m,u,_⟩
  obtain rfl:=Nf Anx ab
  apply an
  refine Ai fun bb aq=>?_
  have hln:=Bbl m (by omega)
  refine Aj (Ghost.perm (Gr (Aso (Gr Arz)))) (Aj (Ghost.perm (Gr (Gr (Aso (Gr Arz))))) (Aj (Ghost.perm (Gr (Gr (Gr (Aso (Gr Arz)))))) (Aj (Ghost.perm (Gr (Gr (Gr (Gr (Aso (Gr Arz))))))) (Aj (Ghost.perm (Gr (Gr (Gr Arz)))) (Aj (Ghost.perm (Gr (Gr (Gr (Gr (Gr (Aso Arz))))))) (Awp ((a,oC #[iV n,.string (bs kd),iV my,b] 100)::((T,Res.obj (Obj.deferred (some [])))::((c,oC #[.string (ByteArray.mk #[])] 9)::((d,oC #[nS] 22)::((e,oC #[iV 0] 3)::((g,oC #[iV 0] 25)::(h++((k,oC #[pV a] 98)::[])))))))) 6 [0,1,2,3,4,5] (by kernel_rfl) rfl rfl ⟨_,rfl⟩ (by kernel_rfl) (by kernel_rfl) fun bg ax=>Cu 0 (zT 1 5) rfl ⟨Bjy,sB⟩ rfl (De (v:=pV a) ⟨_,Bjk,rfl⟩ rfl (lZ0 _ (lZ0 _ (lZ0 _ (lZ0 _ (lZ0 _ (lZ0 _ (Hb _ mC))))))) rfl) (Hs 1 (zT 2 4) rfl ⟨Bjy,sB⟩ rfl (De (v:=pV a) ⟨_,Bjk,rfl⟩ rfl (lZ0 _ (lZ0 _ (lZ0 _ (lZ0 _ (lZ0 _ (lZ0 _ (Hb _ mC))))))) rfl) ⟨Bjy,sB⟩ (Hs 2 (zT 3 3) rfl ⟨Bjy,sB⟩ rfl (Yld.o (Ck rfl)) ⟨Bjy,sB⟩ (Hs 3 (zT 4 2) rfl ⟨Bjy,sB⟩ rfl (Yld.o (Cb Bja rfl rfl ⟨_,Ab Bjc,rfl⟩ (by decide) rfl rfl)) ⟨Bjy,sB⟩ (Hs 4 (zT 5 1) rfl ⟨Bjy,sB⟩ rfl (De (v:=iV n) ⟨_,Bjd,rfl⟩ rfl mC rfl) ⟨Bjy,sB⟩ (Hs 5 (zT 6 0) rfl ⟨Bjy,sB⟩ rfl (Yld.o (Gl (p:=(n:Int)) (q:=0) rfl rfl)) ⟨Bjy,sB⟩ (Adl rfl (ax _ _ _ _ (Ds rfl (Eo (vs:=[pV a,.bool (decide ((n:Int)>0)),iV 3]) (Hv (r:=a) (ln:=(n:Int)) (ok:=decide ((n:Int)>0)) (f:=3) hln) Bjf rfl rfl ⟨rfl,rfl,rfl,trivial⟩ (fun bz b3 b5 a4=>?_) fun c2 b3 b5 aj=>?_)))))))))))))))
  rotate_left
  ·obtain⟨C,D,a1,ae⟩:=aj
   subst C D
   have a9:n=0:=by have:=Fv a1;omega
   subst a9
   exact⟨_,_,.drop,Akb ae rfl rfl rfl rfl rfl ⟨_,σ,Alx u,Jx R (Bfh (by omega) m rfl)⟩⟩
  obtain⟨C,D,U,ah⟩:=a4
  replace C:=C.symm;replace D:=D.symm;subst C D ah
  have bt:=Ee U
  refine Asa aq fun bc ar=>Ai fun bd au=>Wx ((a,oC #[iV n,.string (bs kd),iV my,b] 100)::((T,Res.obj (Obj.deferred (some [])))::((c,oC #[.string (ByteArray.mk #[])] 9)::((d,oC #[nS] 22)::((e,oC #[iV 0] 3)::((g,oC #[iV 0] 25)::(h++((k,oC #[pV a] 98)::[])))))))) [0,1,2,3,4,5,6,7,8,9] (by kernel_rfl) rfl rfl (Cu 0 (zT 1 9) rfl ⟨Bjy,sB⟩ rfl (De (v:=pV a) ⟨_,Bjk,rfl⟩ rfl (lZ0 _ (lZ0 _ (lZ0 _ (lZ0 _ (lZ0 _ (lZ0 _ (Hb _ mC))))))) rfl) (Cu 1 (zT 2 8) rfl ⟨Bjy,sB⟩ rfl (Yld.o (Ck rfl)) (Cu 2 (zT 3 7) rfl ⟨Bjy,sB⟩ rfl (Yld.o (Cb Bja rfl rfl ⟨_,Ab Bjh,rfl⟩ (by decide) rfl rfl)) (Cu 3 (zT 4 6) rfl ⟨Bjy,sB⟩ rfl (De (v:=b) ⟨_,Biz,rfl⟩ rfl mC rfl) ?_))))
  have bi:=Grow.len u
  refine Cu 4 (zT 5 5) rfl ⟨Bjy,sB⟩ rfl (Yld.o (Ajw (el':=9) Biz rfl u)) (Hs 5 (zT 6 4) rfl ⟨Bjy,sB⟩ rfl (De (v:=pV a) ⟨_,Bjk,rfl⟩ rfl (lZ0 _ (lZ0 _ (lZ0 _ (lZ0 _ (lZ0 _ (lZ0 _ (Hb _ mC))))))) rfl) ⟨Bjy,sB⟩ (Hs 6 (zT 7 3) rfl ⟨Bjy,sB⟩ rfl (Yld.o (Ck rfl)) ⟨Bjy,sB⟩ (Hs 7 (zT 8 2) rfl ⟨Bjy,sB⟩ rfl (Yld.o (Cb Bja rfl rfl ⟨_,Ab Bjc,rfl⟩ (by decide) rfl rfl)) ⟨Bjy,sB⟩ (Hs 8 (zT 9 1) rfl ⟨Bjy,sB⟩ rfl (De (v:=iV my) ⟨_,Bjd,rfl⟩ rfl mC rfl) ⟨Bjy,sB⟩ (Hs 9 (zT 10 0) rfl ⟨Bjy,sB⟩ rfl (Yld.o (Dg rfl rfl)) ⟨Bjy,sB⟩ (Adl rfl (kk au ?_)))))))
  refine Bp (t:=(xs.length:Int) != my) rfl (fun I=>?_) (fun I=>?_)
  ·have b0:=Ls I
   refine w_q rfl rfl fun be av=>Cx rfl (Cz (j:=2) (v:=.string (ByteArray.mk #[])) ty9.2 rfl rfl rfl rfl nL ?_)
   refine Cx rfl (Cz (j:=3) (v:=nS) ⟨_,Ab Bjh,rfl⟩ rfl rfl rfl rfl nL ?_)
   refine Cx rfl (Cz (j:=4) (v:=iV 0) ⟨_,Ab Bjc,rfl⟩ rfl rfl rfl rfl nL ?_)
   refine Cx rfl (Cz (j:=5) (v:=iV 2) ⟨_,Ab Bjl,rfl⟩ rfl rfl rfl rfl nL ?_)
   refine l_k av (Aj Ghost.drop (Aj (Ghost.perm (Axh (Axh (Axh (Axh Asc))))) (Hc u fun c6 az bu=>Aj (Ghost.perm (Gr (Gr (Gr (Gr Arz))))) (Aj Ghost.drop (Aq (M _ _ _ _ (Akc rfl rfl rfl rfl rfl ⟨_,σ,.refl,Jx (Ro.le.trans R az) (Bfi (by omega) m (by omega) (by omega))⟩)))))))
  have b0:=Jh I
  refine Al (kk ar ?_)
  refine Ai fun bf aw=>Wx ((a,oC #[iV n,.string (bs kd),iV my,b] 100)::((k,oC #[pV a] 98)::[])) [0,1,2,3,4,5,6,7] (by kernel_rfl) rfl rfl (Cu 0 (zT 1 11) rfl ⟨Bjy,sB⟩ rfl (De (v:=pV a) ⟨_,Bjk,rfl⟩ rfl (lZ0 _ mC) rfl) (Cu 1 (zT 2 10) rfl ⟨Bjy,sB⟩ rfl (Yld.o (Ck rfl)) (Cu 2 (zT 3 9) rfl ⟨Bjy,sB⟩ rfl (Yld.o (Cb Bja rfl rfl ty9.2 (by decide) rfl rfl)) (Cu 3 (zT 4 8) rfl ⟨Bjy,sB⟩ rfl (De (v:=.string (bs kd)) ty9.1 rfl mC rfl) (Cu 4 (zT 5 7) rfl ⟨Bjy,sB⟩ rfl (De (v:=pV a) ⟨_,Bjk,rfl⟩ rfl (lZ0 _ mC) rfl) (Cu 5 (zT 6 6) rfl ⟨Bjy,sB⟩ rfl (Yld.o (Ck rfl)) (Cu 6 (zT 7 5) rfl ⟨Bjy,sB⟩ rfl (Yld.o (Cb Bja rfl rfl ⟨_,Ab Bjh,rfl⟩ (by decide) rfl rfl)) (Cu 7 (zT 8 4) rfl ⟨Bjy,sB⟩ rfl (De (v:=b) ⟨_,Biz,rfl⟩ rfl mC rfl) (Wy (i:=8) (zT 9 3) rfl (by kernel_rfl) rfl rfl (Cz (j:=2) (v:=.string (bs kd)) ty9.2 rfl rfl rfl rfl nL ⟨⟨Bjy,sB⟩,?_⟩))))))))))
  refine Sz 9 (zT 10 2) rfl rfl (Cz (j:=3) (v:=b) ⟨_,Ab Bjh,rfl⟩ rfl rfl (Grow.single u) rfl nL ?_)
  refine Sz 10 (zT 11 1) rfl rfl (Cz (j:=4) (v:=iV 0) ⟨_,Ab Bjc,rfl⟩ rfl rfl rfl rfl nL ?_)
  refine Sz 11 (zT 12 0) rfl rfl (Cz (j:=5) (v:=iV 0) ⟨_,Ab Bjl,rfl⟩ rfl rfl rfl rfl nL ?_)
  refine Adl rfl (kk aw ?_)
  refine Aj Ghost.drop (Aj (Ghost.perm (Gr (Gr (Gr (Gr (Gr Asd)))))) (Aj Ghost.drop (Aq (M _ _ _ _ (Akc rfl rfl rfl rfl rfl ⟨_,_,.refl,Aka R (Bfj (by omega) m (by omega) (by omega)) u⟩)))))
 ·rintro v r ρ' O' τ hO hl ⟨⟨ln,f,hgo,hv⟩,rfl⟩
  exact⟨ρ',_,Nh hO,Akb hv rfl rfl rfl rfl rfl ⟨ρ',σ,.refl,Jx hl (Bfg (by omega) hgo)⟩⟩
end
section
open Go Go.Conc
theorem Yj{E:EntC}{args:List CV}{m:Mem}(h:fitE E args m=true):m.nx=E.nx∧args=E.args∧(∀a∈E.cs,m.M.get a.1=some a.2)∧xNoRes m.M=true:=by
 unfold fitE at h
 split at h
 ·rename_i a1 a2 a3 a4
  exact⟨lZ4 a1,Ix (Ol 50) a2,fun a ha=>Aod (Ln a3 a ha),a4⟩
 ·cases h
theorem MemX.like{R:XR}{m m':Mem}{ρ ρ':Ro}{σ σ₀:Own}(h:MemX R m ρ σ σ₀)(hl:Ro.le ρ ρ')(h1:m'.M=m.M)(h2:m'.nx=m.nx):MemX R m' ρ' σ σ₀:=by
 obtain⟨L,G,h⟩:=h
 refine⟨L,G,h.perm,h.nd,fun p hp=>?_,fun k o hk hd=>h.all k o (by rw[←h1];exact hk) hd,fun k o hk=>?_,h.gar,fun k q hk=>by rw[h2];exact h.lt k q hk,h.glob⟩
 ·rw[h1];exact h.own p hp
 ·obtain⟨b,c,x,a,d,e⟩:=h.ro k o (by rw[←h1];exact hk)
  exact⟨b,c,x,a,hl _ _ d,e⟩
/-- What Read is given by knows(). -/
def Bfb:List UInt8:=[98,111,111,107,32,108,111,116,115,32,50,32,35,54,55,10,97,98,32,35,48,57,10,99,32,35,49,55,10]
theorem Bhk:Bw Bfb=([],[],3,9):=by decide +kernel
theorem Bad:fineE eRead1=true:=by kernel_rfl
theorem Bae:fineE eWrite1=true:=by kernel_rfl
theorem Bay:Fd Tryz.prog eRead1:=by
 intro c m hf
 obtain⟨hnx,rfl,_,_⟩:=Yj hf
 refine⟨Up Bad hnx,fun R b ρ σ σ₀ hn hv hm=>?_⟩
 have hv':VR R [.s Bfb] b:=hv
 cases hv' with
 | s x h2 =>
  cases h2
  refine(Aud (mn:=true) (X:=Ade Tryz.prog) (s:=Bfb) (by decide)).mono ?_
  rintro w ρ' σ' ⟨hl,v,gr,rfl,hg,rfl,a⟩
  rw[Bhk]at a ⊢
  obtain⟨rfl,rfl⟩:=a (by decide)
  exact⟨R,.refl,hl,.t (.s [] (.sn (.i .i64 3 (.i .i64 9 .nil)))) .nil,hm.like hl rfl hnx.symm⟩
def Aym:List ByteArray:=[bs [97,98],bs [99]]
def Bcv:List UInt8:=[98,111,111,107,32,108,111,116,115,32,50,32,35,54,55,10,97,98,32,35,48,57,10,99,32,35,49,54,10]
theorem Bit:Bb [108,111,116,115] Aym=Bcv:=by decide +kernel
theorem Bis:Dd [108,111,116,115] Aym=0:=by decide +kernel
theorem Bho:∀(j:Nat) (a:ByteArray),Aym[j]?=some a→a.data.toList.length≤60000:=by
 intro j a h
 have:=lZ3 h
 simp only[Aym,lZ5,Ow,or_false]at this
 rcases this with rfl|rfl<;>decide
/-- A block of strings that is only read. -/
theorem Ayb{R:XR}{ρ:Ro}{b c d:Nat}{x:Obj}(hρ:ρ b=some x)(hx:ObjO R c (.cells [.s [97,98],.s [99]]) x):Val ρ (.slice (some ⟨b,0,none⟩) 2 (Og true 2 d)) Aym:=by
 obtain⟨f,hx⟩:=hx
 generalize hy:Bfe x f=y at hx
 cases hx with
 | cells hv _ =>
  cases hv with
  | s _ hv =>
   cases hv with
   | s _ hv =>
    cases hv
    cases x<;>simp only[Bfe]at hy<;>try (cases hy;done)
    rename_i cs t fz
    cases hy
    refine Cs.2 ⟨_,2,_,rfl,rfl,by decide,Nat.le.refl,fun i a hi=>⟨b,0,rfl,?_⟩⟩
    match i,hi with
    | 0,hi=>cases hi;exact⟨b,0,_,_,_,[.string (bs [97,98])],[.string (bs [99])],rfl,hρ,⟨rfl,by decide⟩,rfl⟩
    | 1,hi=>cases hi;exact⟨b,1,_,_,_,[.string (bs [99])],[],rfl,hρ,⟨rfl,by decide⟩,rfl⟩
theorem Awy:Fd Tryz.prog eWrite1:=by
 intro j m hf
 obtain⟨hnx,rfl,hcs,_⟩:=Yj hf
 refine⟨Up Bae hnx,fun R e ρ σ σ₀ hn hv hm=>?_⟩
 have hk:m.M.get 1227=some (.own (.cells [.s [97,98],.s [99]])):=hcs (1227,.own (.cells [.s [97,98],.s [99]])) (Jd.2 rfl)
 have hv':VR R [.s [108,111,116,115],.sl 1227 0 2 true 2] e:=hv
 cases hv' with
 | s x h2 =>
  cases h2 with
  | slK hR h3 =>
   cases h3
   rename_i b c
   intro fr cs
   refine Agr hm hk (fun _ _ ho=>by cases ho;exact⟨_,rfl⟩) (by simp) fun ρ' σ' hl _ hm'=>?_
   obtain⟨L,G,h⟩:=id hm'
   obtain⟨b',c',x,a,f,g⟩:=h.ro 1227 (.cells [.s [97,98],.s [99]]) (by
    show (m.M.set 1227 _).get 1227=_
    rw[Tr.get_set,if_pos rfl])
   rw[hR]at a
   obtain⟨rfl,rfl⟩:b=b'∧c=c':=by simpa using a
   refine((Any (mn:=true) (X:=Ade Tryz.prog) (k:=[108,111,116,115]) (by decide) (Ayb (d:=0) f g) Bho) fr cs).mono ?_
   rintro _ _ n p ⟨w,rfl,rfl,rfl,rfl,rfl⟩
   rw[Bit,Bis]
   exact⟨_,rfl,rfl,R,.refl,hl,.t (.s Bcv (.i .i64 0 .nil)) .nil,hm'.like .refl rfl hnx.symm⟩
end
section
open Go Go.Conc
theorem Bbh:runE Tryz.prog (xFnsH Tryz.prog [eContents1,eRecall1,eWrite1,eRead1,eEx21,eReplay1,eEx22,eReplay2,eTin1] 100000) eKnows1=true:=by kernel_rfl
theorem Awx:Fd Tryz.prog eKnows1:=Ef (es:=[eContents1,eRecall1,eWrite1,eRead1,eEx21,eReplay1,eEx22,eReplay2,eTin1]) (.cons Ajj (.cons Asg (.cons Awy (.cons Bay (.cons Ber (.cons Ash (.cons Bes (.cons Asi (.cons Bev .nil))))))))) 100000 Bbh
/-- A plain value,as the program has it. -/
def Abi:CV→Value
 | .b x=>.bool x
 | .i k n=>.int k n
 | .s l=>.string ⟨l.toArray⟩
 | .f g [] []=>.func (.func g) #[] #[]
 | .fn=>.nilFunc
 | _=>undef
def Asn:CV→Bool
 | .b _ | .i _ _ | .s _ | .f _ [] [] | .fn=>true
 | _=>false
theorem Apr{R:XR}:∀{l:List CV},l.all Asn=true→VR R l (l.map Abi)
 | [],_=>.nil
 | x::l,h=>by
  simp only[Yt,Gm]at h
  obtain⟨h1,h2⟩:=h
  have ih:=Apr (R:=R) h2
  unfold Asn at h1
  split at h1
  ·exact .b _ ih
  ·exact .i _ _ ih
  ·exact .s _ ih
  ·exact .f _ .nil .nil ih
  ·exact .fn ih
  ·cases h1
/-- The variables that knows() reads. -/
structure GlobK(ρ:Ro):Prop where
 k:∀a∈eKnows1.cs,∃l t fz,a.2 = .ro (.cells l)∧l.all Asn=true∧ρ a.1=some (.cells (l.map Abi).toArray t fz)
theorem GlobK.mono{ρ ρ':Ro}(h:Ro.le ρ ρ')(hg:GlobK ρ):GlobK ρ':=⟨fun a ha=>let ⟨l,t,fz,h1,h2,h3⟩:=hg.k a ha;⟨l,t,fz,h1,h2,h _ _ h3⟩⟩
theorem Bgq:xEvery (fun a=>Nat.blt a.1 16) eKnows1.cs=true:=by kernel_rfl
theorem Bdv:fitE eKnows1 [] ⟨treeOf eKnows1.cs,16,[],0,[]⟩=true:=by kernel_rfl
theorem Bdx:xNoRes (memE eKnows1 ⟨treeOf eKnows1.cs,16,[],0,[]⟩).M=true:=by kernel_rfl
theorem Bdw{ρ:Ro}{σ:Own}(hg:GlobK ρ):MemX (fun k=>if k<16 then some (k,0) else none) ⟨treeOf eKnows1.cs,16,[],0,[]⟩ ρ σ σ:=by
 refine Bec (fun k o hk=>?_) (fun k o hk=>?_)
 ·have hm:=Dz _ _ _ hk
  obtain⟨l,t,fz,a,c,b⟩:=hg.k _ hm
  simp only at a b
  cases a
  refine⟨?_,_,b,fun R _=>⟨(0,0),.cells (Apr c) (Aay _)⟩⟩
  have:=Ln Bgq _ hm
  simpa using this
 ·have hm:=Dz _ _ _ hk
  obtain⟨l,t,fz,a,_⟩:=hg.k _ hm
  cases a
/-- knows() yields true. -/
theorem Wr{ρ:Ro}{σ:Own}(hg:GlobK ρ)(hnr:NoRecv σ):CallsH (CX true (Ade Tryz.prog)) 5 #[] ρ σ (fun w ρ' σ'=>ρ'=ρ∧σ'=σ∧w = .bool true) :=
 Aqs Awx rfl Bdv Bdx (Bdw hg) hnr
end
section
open Go
variable{mn:Bool}{X:Frame→List Frame→Ro→Own→Cy→Prop}{ρ:Ro}{σ:Own}
theorem Bdf{ls:List ByteArray}{vl:Value}(rl:Val ρ vl ls):CallsH (CX mn X) 4 #[vl] ρ σ (rP ρ σ (.bool (Qx ls))):=by
 refine Ba 19 [2] Tryz.func4 rfl fun Q g Y=>w_q rfl rfl fun I u=>Av bF (Ary rfl rfl u fun M N B C=>Av (iV 0) (l_k C (Ao (Cc (fun mm ee dd ρ' σ'=>∃(i:Nat),(ls.length-i)=mm∧[]=dd∧ρ=ρ'∧σ=σ'∧ee 0=vl∧ee 3=iV i∧(i≤ls.length)∧(∀j,j<i→Tj ls j=true)∧True) (m:=_) ⟨0,rfl,rfl,rfl,rfl,rfl,rfl,Oc _,fun j h=>absurd h (Aiz _),trivial⟩ ?_))))
 rintro Z T _ _ _ ⟨i,rfl,rfl,rfl,rfl,b,e,a0,k,_⟩
 refine Asb rfl rfl fun O P D E=>l_v (Ah (v:=iV i) e) (l_v (Ah (v:=vl) b) ?_)
 have W:=Val.len rl
 refine l_v (Ci (el:=9) Biz rfl rl) (l_v (Da rfl rfl) (l_k E (Bp (t:=decide ((i:Int)<(ls.length:Int))) rfl (fun d=>?_) (fun d=>?_))))
 ·have H:=Ee d
  refine Al (kk D ?_)
  refine Ai fun R F=>Ao (w_q rfl rfl fun J w=>l_v (Ah (v:=vl) b) (l_v (Ah (v:=iV i) e) ?_))
  obtain⟨a,f⟩:=Ed (xs:=ls) (i:=i) (by omega)
  refine Arw (Ch i Biz ty9 rfl rl (q:=(i:Int)) rfl rfl f) fun a1 n=>?_
  have U:a.data.toList.length<2^60:=At.slen n
  refine l_v (Pk ty9 rfl n) (l_v (Ce Biy (p:=a.data.toList) rfl) (l_v (Gl (p:=(a.data.toList.length:Int)) (q:=300) rfl rfl) (l_k w (Bp (t:=decide ((a.data.toList.length:Int)>300)) rfl (fun c=>?_) (fun c=>?_)))))
  ·have G:=Ee c
   refine w_q rfl rfl fun K x=>Av bT (l_k x (Aq (g (rT bT ?_))))
   rw[Bau f (by omega)]
  have G:=Fv c
  refine Al (kk F ?_)
  refine Ag rfl rfl (l_v (Ah (v:=iV i) e) (l_v (Br rfl rfl (z:=(((i+1):Nat):Int)) wrE) (Av (iV ((i+1):Nat)) (Ac ?_))))
  refine⟨_,?_,(i+1),rfl,rfl,rfl,rfl,b,rfl,(by omega),(Eg k (Axx f (by omega))),trivial⟩
  omega
 have H:=Fv d
 refine Bx (kk B ?_)
 refine w_q rfl rfl fun L y=>l_v (Ah (v:=vl) b) ?_
 have V:=Val.len rl
 refine l_v (Ci (el:=9) Biz rfl rl) (l_v (Gl (p:=(ls.length:Int)) (q:=100) rfl rfl) (Av (.bool (decide ((ls.length:Int)>100))) (l_k y (Aq (g (rT (.bool (decide ((ls.length:Int)>100))) ?_))))))
 rw[Bav fun j hj=>k j (by omega)];congr 1;exact decide_eq_decide.2 ⟨fun h=>by omega,fun h=>by omega⟩
theorem Aep{x:List ByteArray}{va vb:Value}(ra:Val ρ va x)(rb:Val ρ vb x):CallsH (CX mn X) 8 #[va,vb] ρ σ (rP ρ σ bT):=by
 refine Ba 26 [4] Tryz.func8 rfl fun Q j a0=>w_q rfl rfl fun H k=>Av bF (Ary rfl rfl k fun L N y C=>Au va ?_)
 have Y:=Val.len ra
 refine l_v (Ci (el:=9) Biz rfl ra) (Au vb ?_)
 have Z:=Val.len rb
 refine l_v (Ci (el:=9) Biz rfl rb) (l_v (Dg rfl rfl) (l_k C (Cg rfl (by simp) (Al (kk y ?_)))))
 refine Asb rfl rfl fun O P D E=>Av (iV 0) (l_k E (Ao (Cc (fun mm ee dd ρ' σ'=>∃(i:Nat),(x.length-i)=mm∧[]=dd∧ρ=ρ'∧σ=σ'∧ee 0=va∧ee 1=vb∧ee 5=iV i∧(i≤x.length)∧True) (m:=_) ⟨0,rfl,rfl,rfl,rfl,rfl,rfl,rfl,Oc _,trivial⟩ ?_)))
 rintro m8 T _ _ _ ⟨i,rfl,rfl,rfl,rfl,d,e,b,a1,_⟩
 refine Asb rfl rfl fun R I F n=>l_v (Ah (v:=iV i) b) (l_v (Ah (v:=va) d) ?_)
 have U:=Val.len ra
 refine l_v (Ci (el:=9) Biz rfl ra) (l_v (Da rfl rfl) (l_k n (Bp (t:=decide ((i:Int)<(x.length:Int))) rfl (fun c=>?_) (fun c=>?_))))
 ·have G:=Ee c
  refine Al (kk F ?_)
  refine Ai fun J u=>Ao (Ai fun K w=>Bgh (Na 0 (zT 1 8) rfl (Ah (v:=va) d) (Na 1 (zT 2 7) rfl (Ah (v:=iV i) b) ?_)))
  obtain⟨a,f⟩:=Ed (xs:=x) (i:=i) (by omega)
  refine Ayw 2 (zT 3 6) rfl (Ch i Biz ty9 rfl ra (q:=(i:Int)) rfl rfl f) fun a2 g=>?_
  have V:a.data.toList.length<2^60:=At.slen g
  refine Na 3 (zT 4 5) rfl (Pk ty9 rfl g) (Na 4 (zT 5 4) rfl (Ah (v:=vb) e) (Iu 5 (zT 6 3) rfl (Ah (v:=iV i) b) (Atp 6 (zT 7 2) rfl (Ch i Biz ty9 rfl rb (q:=(i:Int)) rfl rfl f) fun a3 h=>?_)))
  have W:a.data.toList.length<2^60:=At.slen h
  refine Iu 7 (zT 8 1) rfl (Pk ty9 rfl h) (Iu 8 (zT 9 0) rfl (Aef (p:=a.data.toList) (q:=a.data.toList) rfl rfl) (Ec rfl (kk w ?_)))
  refine Cg rfl (by simp) (Al (kk u ?_))
  refine Ag rfl rfl (l_v (Ah (v:=iV i) b) (l_v (Br rfl rfl (z:=(((i+1):Nat):Int)) wrE) (Av (iV ((i+1):Nat)) (Ac ?_))))
  refine⟨_,?_,(i+1),rfl,rfl,rfl,rfl,d,e,rfl,(by omega),trivial⟩
  omega
 have G:=Fv c
 refine Bx (kk D ?_)
 refine w_q rfl rfl fun M B=>Av bT (l_k B (Aq (j (rT bT ?_))))
 rfl
theorem Ahg{W0:World}{ρ:Ro}{σ:Own}{k:List UInt8}{ls:List ByteArray}{vl:Value}(hg:GlobK ρ)(hnr:NoRecv σ)(rl:Val ρ vl ls):Agd (CY W0) 3 4 [.string (bs k),vl] ρ σ (rP ρ σ bT):=by
 refine Azb (n:=69) Tryz.func3 rfl rfl rfl rfl fun Q d a2=>w_q rfl rfl fun P z=>Av bF (Ary rfl rfl z fun Y Z H h=>Au vl (Arv (Bm (vs:=[vl]) (v:=.bool (Qx ls)) (Bdf rl) Tryz.func4 rfl rfl ⟨rfl,trivial⟩ ?_)))
 refine Au (.bool (Qx ls)) (Cn (Qx ls) (fun a=>?_) (fun a=>?_))
 ·refine Ap (gN rfl a) (Ap (gN rfl a) (Ap (gN rfl a) (l_v (Bt rfl a (v:=bT) rfl) (l_k h (Co rfl rfl (w_q rfl rfl fun K5 I=>Arv (Bm (vs:=[]) (v:=bT) (Sf (Wr hg hnr)) Tryz.func5 rfl rfl trivial ?_)))))))
  refine Av bT (l_k I (Aq (d _ _ _ (rT bT ?_))))
  rfl
 obtain⟨a1,m⟩:=Beb a
 refine l_M (.string (bs k)) (gY rfl a) rfl (Aa (gY rfl a) (Ce Biy (p:=k) rfl) (Aa (gY rfl a) (Gl (p:=(k.length:Int)) (q:=100) rfl rfl) (l_v (Bn rfl a (v:=.bool (decide ((k.length:Int)>100))) rfl) (l_k h (Bp (t:=decide ((k.length:Int)>100)) rfl (fun e=>?_) (fun e=>?_))))))
 ·have N:=Ee e
  refine w_q rfl rfl fun K7 J=>Arv (Bm (vs:=[]) (v:=bT) (Sf (Wr hg hnr)) Tryz.func5 rfl rfl trivial ?_)
  refine Av bT (l_k J (Aq (d _ _ _ (rT bT ?_))))
  rfl
 have N:=Fv e
 refine Al (kk H ?_)
 refine w_q rfl rfl fun K8 K=>Au (.string (bs k)) (Au vl (Arv (Bm (vs:=[.string (bs k),vl]) (v:=.tuple #[.string (bs (Bb k ls)),iV (Dd k ls)]) (Any (k:=k) (by omega) rl m) Tryz.func6 rfl rfl ⟨rfl,rfl,trivial⟩ ?_)))
 refine Au (.tuple #[.string (bs (Bb k ls)),iV (Dd k ls)]) (l_v (Bk (vs:=#[.string (bs (Bb k ls)),iV (Dd k ls)]) rfl (v:=.string (bs (Bb k ls))) rfl) (l_v (Bk (vs:=#[.string (bs (Bb k ls)),iV (Dd k ls)]) rfl (v:=iV (Dd k ls)) rfl) (Av (.string (bs (Bb k ls))) (Av (iV (Dd k ls)) (Ary rfl rfl K fun K9 R L B=>Au (iV (Dd k ls)) (l_v (Dg rfl rfl) (l_k B (Bp (t:=(Dd k ls) != 0) rfl (fun c=>?_) (fun c=>?_)))))))))
 ·have hwn:Bb k ls=[]:=Ati (Ls c)
  have M:=Ls c
  refine w_q rfl rfl fun T C=>Au (.string (bs (Bb k ls))) (l_v (Tq (p:=Bb k ls) (q:=([]:List UInt8)) rfl rfl) (Au (.bool (((Bb k ls))==([]:List UInt8))) (Ae (gY rfl (by rw[hwn];rfl)) (Bm (vs:=[]) (v:=bT) (Sf (Wr hg hnr)) Tryz.func5 rfl rfl trivial ?_))))
  refine l_v (Bt rfl (by rw[hwn];rfl) (v:=bT) rfl) (Av bT (l_k C (Aq (d _ _ _ (rT bT ?_)))))
  rfl
 have w:Dd k ls=0:=Jh c
 obtain⟨hwl,hrw⟩:=Anf w
 have M:=Jh c
 refine Al (kk L ?_)
 refine w_q rfl rfl fun U D=>Au (.string (bs (Bb k ls))) (Arv (Cm (vs:=[.string (bs (Bb k ls))]) (Aud (s:=Bb k ls) (by omega)) Tryz.func7 rfl rfl ⟨rfl,trivial⟩ fun a3 a4 a6 j=>?_))
 obtain⟨f,b,a0,u,i,y,_⟩:=j
 subst u y
 replace rl:=Val.mono f rl
 replace hg:=GlobK.mono f hg
 refine Au (.tuple #[.string (bs ((Bw (Bb k ls)).1)),b,iV ((Bw (Bb k ls)).2.2.1),iV ((Bw (Bb k ls)).2.2.2)]) (l_v (Bk (vs:=#[.string (bs ((Bw (Bb k ls)).1)),b,iV ((Bw (Bb k ls)).2.2.1),iV ((Bw (Bb k ls)).2.2.2)]) rfl (v:=.string (bs ((Bw (Bb k ls)).1))) rfl) (l_v (Bk (vs:=#[.string (bs ((Bw (Bb k ls)).1)),b,iV ((Bw (Bb k ls)).2.2.1),iV ((Bw (Bb k ls)).2.2.2)]) rfl (v:=b) rfl) (l_v (Bk (vs:=#[.string (bs ((Bw (Bb k ls)).1)),b,iV ((Bw (Bb k ls)).2.2.1),iV ((Bw (Bb k ls)).2.2.2)]) rfl (v:=iV ((Bw (Bb k ls)).2.2.1)) rfl) (l_v (Bk (vs:=#[.string (bs ((Bw (Bb k ls)).1)),b,iV ((Bw (Bb k ls)).2.2.1),iV ((Bw (Bb k ls)).2.2.2)]) rfl (v:=iV ((Bw (Bb k ls)).2.2.2)) rfl) (Av (.string (bs ((Bw (Bb k ls)).1))) (Av b (Av (iV ((Bw (Bb k ls)).2.2.1)) (Av (iV ((Bw (Bb k ls)).2.2.2)) (Ary rfl rfl D fun V W E F=>Au (.string (bs (Bb k ls))) (l_v (Ce Biy (p:=Bb k ls) rfl) (l_v (Gl (p:=((((Bb k ls)).length:Nat):Int)) (q:=60000) rfl rfl) (l_k F (Cg rfl (Sq (by omega)) (Al (kk E ?_)))))))))))))))
 refine w_q rfl rfl fun X G=>Au (iV ((Bw (Bb k ls)).2.2.2)) (l_v (Ek rfl rfl) (Au (.bool ((Bw (Bb k ls)).2.2.2==0)) (l_M (iV ((Bw (Bb k ls)).2.2.1)) (gY rfl (by rw[hrw];simp)) rfl (Aa (gY rfl (by rw[hrw];simp)) (Ek rfl rfl) (l_v (Bt rfl (by rw[hrw];simp) (v:=.bool ((Bw (Bb k ls)).2.2.1==0)) rfl) (Au (.bool ((Bw (Bb k ls)).2.2.1==0)) (l_M (.string (bs ((Bw (Bb k ls)).1))) (gY rfl (by rw[hrw];simp)) rfl (l_M (.string (bs k)) (gY rfl (by rw[hrw];simp)) rfl (Aa (gY rfl (by rw[hrw];simp)) (Tq (p:=(Bw (Bb k ls)).1) (q:=k) rfl rfl) (l_v (Bt rfl (by rw[hrw];simp) (v:=.bool ((((Bw (Bb k ls)).1))==k)) rfl) (Au (.bool ((((Bw (Bb k ls)).1))==k)) (l_M b (gY rfl (by rw[hrw];simp)) rfl (l_M vl (gY rfl (by rw[hrw];simp)) rfl (Ca i fun a5 g O=>?_))))))))))))))
 replace rl:=Val.mono g rl
 replace hg:=GlobK.mono g hg
 refine Ae (gY rfl (by rw[hrw];simp)) (Bm (vs:=[b,vl]) (v:=bT) (Aep (x:=ls) (Val.cast (show (Bw (Bb k ls)).2.1=ls by rw[hrw]) O) rl) Tryz.func8 rfl rfl ⟨rfl,rfl,trivial⟩ ?_)
 refine l_v (Bt rfl (by rw[hrw];simp) (v:=bT) rfl) (Au bT (Ae (gY rfl rfl) (Bm (vs:=[]) (v:=bT) (Sf (Wr hg hnr)) Tryz.func5 rfl rfl trivial ?_)))
 refine l_v (Bt rfl rfl (v:=bT) rfl) (Av bT (l_k G (Aj (Ghost.forget (Ro.le.trans f g)) (Aq (d _ _ _ (rT bT ?_))))))
 rfl
end
section
open Go Go.WideShapes Go.ChangeShapes Go.RowKit Go.Conc
theorem Awk{a b:String}(h:a.toUTF8.data.toList=b.toUTF8.data.toList):a=b:=by
 have c:a.toUTF8=b.toUTF8:=ByteArray.ext (Array.ext' h)
 exact String.toByteArray_inj.1 c
section
variable{H:Type}
/-- The function of this name,by a table. -/
def Vg(tab:List (String×FuncId))(x:List UInt8):Option FuncId:=match x with
 | []=>none
 | b::r=>match tab.find? fun p=>p.1.toUTF8.data.toList==b::r with
  | some p=>some p.2
  | none=>none
def Aqu(f:TypeId→DataW H→Option (List Value)):List (TypeId×Nat)→List (DataW H)→Option (List Value)
 | [],[]=>some []
 | x::r,d::ds=>match f x.1 d,Aqu f r ds with
  | some a,some b=>some (a++b)
  | _,_=>none
 | _,_=>none
/-- These parts lie side by side,from o to the end. -/
def Aji(P:Program)(e:Nat):Nat→List (TypeId×Nat)→Bool
 | o,[]=>Nat.beq o e
 | o,x::r=>Nat.beq x.2 o&&Aji P e (o+P.cellsOf x.1) r
/-- The cells that read as this datum. -/
def Rg(P:Program)(hf:H→Option FuncId):Nat→TypeId→DataW H→Option (List Value)
 | 0,_,_=>none
 | n+1,t,d=>match P.underlying t,d with
  | some .bool,.lit (.bool b)=>some [.bool b]
  | some (.int k),.lit (.int _ z)=>some [.int k z]
  | some .string,.lit (.string l)=>some [.string ⟨l.toArray⟩]
  | some (.func _ _ _),.nil=>some [.nilFunc]
  | some (.func _ _ _),.held x=>match hf x with
   | some f=>some [.func (.func f) #[] #[]]
   | none=>none
  | some (.struct fs),.agg ds=>match Aji P (P.cellsOf t) 0 (fs.toList.map fun f=>(f.type,f.offset)) with
   | true=>Aqu (Rg P hf n) (fs.toList.map fun f=>(f.type,f.offset)) ds
   | false=>none
  | some (.array m e),.agg ds=>match Aji P (P.cellsOf t) 0 ((List.range m).map fun i=>(e,i*P.cellsOf e)) with
   | true=>Aqu (Rg P hf n) ((List.range m).map fun i=>(e,i*P.cellsOf e)) ds
   | false=>none
  | _,_=>none
variable{enc:TypeId×Value→H}{P:Program}{w:World}{base:Nat}{sp:Nat→Bool}{held:Bool}{m:Nat}{t:TypeId}{cs:List Value}{q:List MemPlace}
theorem Atb{ps rs:Array TypeId}{va:Bool}(ht:P.underlying t=some (.func ps rs va))(h:DataW.trod enc P w base sp held m t cs=some (.nil,q)):cs=[.nilFunc]:=by
 cases m with
 | zero=>simp[DataW.trod]at h
 | succ n =>
  unfold DataW.trod at h
  rw[ht]at h
  split at h<;>simp_all
theorem Anj{ps rs:Array TypeId}{va:Bool}{x:H}(ht:P.underlying t=some (.func ps rs va))(h:DataW.trod enc P w base sp held m t cs=some (.held x,q)):∃v,cs=[v]∧enc (t,v)=x:=by
 cases m with
 | zero=>simp[DataW.trod]at h
 | succ n =>
  unfold DataW.trod at h
  rw[ht]at h
  split at h<;>simp_all
theorem Aeq{f:TypeId→DataW H→Option (List Value)}(hf:∀t d vs cs q,f t d=some vs→DataW.trod enc P w base sp held m t cs=some (d,q)→cs=vs) :
  ∀{L:List (TypeId×Nat)} {xs:List (DataW H×List MemPlace)} {o:Nat} {vs:List Value},Aji P cs.length o L=true→L.length=xs.length→(∀(i:Nat) (x:TypeId×Nat),L[i]?=some x→DataW.trod enc P w base sp held m x.1 ((cs.drop x.2).take (P.cellsOf x.1))=xs[i]?) →
   Aqu f L (xs.map (·.1))=some vs→cs.drop o=vs
 | [],xs,o,vs,h1,h2,_,h4=>by
  obtain rfl:xs=[]:=Za h2.symm
  have c:=lZ4 h1
  have e:vs=[]:=by simpa[Aqu]using h4.symm
  rw[e,c,List.drop_length]
 | x::L,xs,o,vs,h1,h2,h3,h4=>by
  match xs,h2 with
  | y::ys,h2 =>
   simp only[Aji,Gm]at h1
   obtain⟨g,h⟩:=h1
   have c:=lZ4 g
   simp only[Ez,Aqu]at h4
   split at h4
   ·rename_i a b g1 g2
    cases h4
    have j:=h3 0 x rfl
    have k:=hf x.1 y.1 a _ y.2 g1 j
    have n:=Aeq hf (o:=o+P.cellsOf x.1) h (by simpa using h2) (fun i z hz=>by simpa using h3 (i+1) z (by simpa using hz)) g2
    rw[←k,←n,c,←Amr,Aix]
   ·cases h4
theorem Wt{hf:H→Option FuncId}(hh:∀(t:TypeId) (v:Value) (x:H) (f:FuncId),hf x=some f→enc (t,v)=x→v = .func (.func f) #[] #[]) :
  ∀(n m:Nat) (t:TypeId) (d:DataW H) (vs cs:List Value) (q:List MemPlace),Rg P hf n t d=some vs→DataW.trod enc P w base sp held m t cs=some (d,q)→cs=vs
 | 0,_,_,_,_,_,_,h,_=>by cases h
 | n+1,m,t,d,vs,cs,q,h,h2=>by
  unfold Rg at h
  split at h
  ·rename_i b ht
   obtain⟨b',rfl,e⟩:=DataW.trod_bool ht h2
   cases h;cases e;rfl
  ·rename_i k k' z ht
   obtain⟨z',rfl,e,_⟩:=DataW.trod_int ht h2
   cases h;cases e;rfl
  ·rename_i l ht
   obtain⟨s,rfl,e,_⟩:=DataW.trod_string ht h2
   cases h;cases e;rfl
  ·rename_i ht
   cases h
   exact Atb ht h2
  ·rename_i x ht
   obtain⟨v,rfl,e⟩:=Anj ht h2
   split at h
   ·rename_i f hf'
    cases h
    rw[hh t v x f hf' e]
   ·cases h
  ·rename_i fs ds ht
   split at h
   ·rename_i ho
    obtain⟨xs,k,rfl,e,hl,hx,hg⟩:=DataW.trod_struct ht h2
    simp only[Prod.mk.injEq,DataW.agg.injEq]at e
    obtain⟨rfl,rfl⟩:=e
    rw[←hl]at ho
    have:=Aeq (f:=Rg P hf n) (m:=k) (fun t d vs cs q a b=>Wt hh n k t d vs cs q a b) ho (by simpa using hx.symm) (fun i x hi=>by
     rw[Mg]at hi
     cases hj:fs.toList[i]? with
     | none=>rw[hj]at hi;cases hi
     | some f =>
      rw[hj]at hi
      cases hi
      exact hg i f (by simpa using hj)) h
    rw[Wi]at this
    exact this
   ·cases h
  ·rename_i a e ds ht
   split at h
   ·rename_i ho
    obtain⟨xs,k,rfl,e',hl,hx,hg⟩:=DataW.trod_array ht h2
    simp only[Prod.mk.injEq,DataW.agg.injEq]at e'
    obtain⟨rfl,rfl⟩:=e'
    rw[←hl]at ho
    have:=Aeq (f:=Rg P hf n) (m:=k) (fun t d vs cs q a b=>Wt hh n k t d vs cs q a b) ho (by simpa using hx.symm) (fun i x hi=>by
     rw[Mg]at hi
     cases hj:(List.range a)[i]? with
     | none=>rw[hj]at hi;cases hi
     | some j =>
      rw[hj]at hi
      cases hi
      have g:=lZ8.1 hj
      obtain⟨p,c⟩:=g
      rw[List.getElem_range]at c
      subst c
      exact hg i (by simpa using p)) h
    rw[Wi]at this
    exact this
   ·cases h
  ·cases h
end
/-- What a table of functions holds. -/
theorem Alw{P:Program}{W:World}{n:String}{d:DataW Unit}{g:Nat}{t:TypeId}{vs:List Value}{tab:List (String×FuncId)}(htab:tab.all (fun p=>P.funcNamed p.1==some p.2)=true)(hg:P.globalNamed n=some g)(ht:(P.globals[g]?).map (·.type)=some t)(hd:Rg P (Vg tab) 8 t d.funcsOut=some vs)(h:funcsAt P W n d):∃t' fz,roW W g=some (.cells vs.toArray t' fz):=by
 obtain⟨g',t',cs,k,p,m,u,w,y⟩:=h
 obtain rfl:=Option.some.inj (hg.symm.trans m)
 obtain rfl:=Option.some.inj (ht.symm.trans u)
 obtain⟨t',fz,hh⟩:=Zw hg w
 have:=Wt (P:=P) (hf:=Vg tab) (fun t v x f hf he=>by
  unfold Vg at hf
  split at hf
  ·cases hf
  ·rename_i b r
   split at hf
   ·rename_i q hq
    cases hf
    obtain⟨f'',fn,rfl,_,hn,hb⟩:=funcToken_tells he
    have e:q.1.toUTF8.data.toList=b::r:=by simpa using List.find?_some hq
    have i:q.1=fn.name:=Awk (e.trans hb.symm)
    have c:=Gn.1 htab q (List.mem_of_find?_eq_some hq)
    rw[i,hn]at c
    have j:f''=q.2:=by simpa using c
    rw[j]
   ·cases hf) 8 k t d.funcsOut vs cs.toList p hd y
 refine⟨t',fz,?_⟩
 rw[←this]
 exact Vz hh
/-- What a plain table holds. -/
theorem Ajo{P:Program}{W:World}{n:String}{d:DataW Unit}{g:Nat}{t:TypeId}{vs:List Value}(hg:P.globalNamed n=some g)(ht:(P.globals[g]?).map (·.type)=some t)(hd:Rg P (fun _:Unit=>none) 8 t d=some vs)(h:laidMet P [(n,d)] W):∃t' fz,roW W g=some (.cells vs.toArray t' fz):=by
 obtain⟨ps,⟨g',t',cs,a,p,q,b,c,e,i,_,_⟩,_,_⟩:=h
 obtain rfl:=Option.some.inj (hg.symm.trans b)
 obtain rfl:=Option.some.inj (ht.symm.trans c)
 obtain⟨t',fz,hh⟩:=Zw hg e
 have:=Wt (P:=P) (hf:=fun _:Unit=>none) (fun t v x f hf he=>by cases hf) 8 a t d vs cs.toList p hd i
 refine⟨t',fz,?_⟩
 rw[←this]
 exact Vz hh
end
section
open Go Go.WideShapes Go.ChangeShapes Go.RowKit Go.Conc
theorem Ats{H:Type}{enc:TypeId×Value→H}{W:World}{r:Go.Reach}{base t:Nat}{v:Value}{d:DataW H}{p:List MemPlace}(ht:Tryz.prog.underlying t=some .string)(hv:Value.okWide Tryz.prog W r base t v)(h:DataW.Trod enc Tryz.prog W 0 (fun _=>true) true t v d p):∃l:List UInt8,v = .string (bs l):=by
 obtain⟨s,rfl⟩:=okWide_string ht hv
 exact⟨s.data.toList,by cases s;rfl⟩
def laidLK:List (String×DataW Unit):=[("math/bits.deBruijn32tab",Rows.laid_math_bits_deBruijn32tab),("math/bits.deBruijn64tab",Rows.laid_math_bits_deBruijn64tab),("internal/strconv.uint64pow10",Rows.laid_internal_strconv_uint64pow10),("unicode/utf8.acceptRanges",Rows.laid_unicode_utf8_acceptRanges),("strconv.ErrRange",Rows.laid_strconv_ErrRange),("strconv.ErrSyntax",Rows.laid_strconv_ErrSyntax),("crocus/corm.kinds",Rows.laid_crocus_corm_kinds),("crocus/pool.kinds",Rows.laid_crocus_pool_kinds),("crocus/turn.checks",Rows.laid_crocus_turn_checks),("crocus/turn.nowhere",Rows.laid_crocus_turn_nowhere),("crocus/elder.kinds",Rows.laid_crocus_elder_kinds),("crocus/elder.views",Rows.laid_crocus_elder_views),("unicode/utf8.first",Rows.laid_unicode_utf8_first)]
def Bdz:List (String×DataW Unit):=[("math/bits.deBruijn32tab",Rows.laid_math_bits_deBruijn32tab),("math/bits.deBruijn64tab",Rows.laid_math_bits_deBruijn64tab),("internal/strconv.uint64pow10",Rows.laid_internal_strconv_uint64pow10),("unicode/utf8.acceptRanges",Rows.laid_unicode_utf8_acceptRanges),("strconv.ErrRange",Rows.laid_strconv_ErrRange),("strconv.ErrSyntax",Rows.laid_strconv_ErrSyntax),("crocus/turn.nowhere",Rows.laid_crocus_turn_nowhere),("crocus/elder.views",Rows.laid_crocus_elder_views),("unicode/utf8.first",Rows.laid_unicode_utf8_first)]
def Bea:List (String×DataW Unit):=[("crocus/corm.kinds",Rows.laid_crocus_corm_kinds),("crocus/pool.kinds",Rows.laid_crocus_pool_kinds),("crocus/turn.checks",Rows.laid_crocus_turn_checks),("crocus/elder.kinds",Rows.laid_crocus_elder_kinds)]
/-- A variable's type. -/
def Rx(P:Program)(g:Nat):TypeId:=((P.globals[g]?).map (·.type)).getD 0
/-- The table in its wrapper. -/
def Vs:DataW Unit→DataW Unit
 | .iface _ d=>d
 | d=>d
theorem Bic:Tryz.prog.globalNamed "crocus/elder.kinds" = some 0:=by kernel_rfl
theorem Bin:(Tryz.prog.globals[Cv 0]?).map (·.type)=some (Rx Tryz.prog (Cv 0)):=by kernel_rfl
theorem Bid:Tryz.prog.globalNamed "crocus/pool.kinds" = some 1:=by kernel_rfl
theorem Bio:(Tryz.prog.globals[Cv 1]?).map (·.type)=some (Rx Tryz.prog (Cv 1)):=by kernel_rfl
theorem Bie:Tryz.prog.globalNamed "crocus/corm.kinds" = some 5:=by kernel_rfl
theorem Bip:(Tryz.prog.globals[Cv 5]?).map (·.type)=some (Rx Tryz.prog (Cv 5)):=by kernel_rfl
theorem Bib:Tryz.prog.globalNamed "crocus/turn.checks" = some 6:=by kernel_rfl
theorem Bim:(Tryz.prog.globals[Cv 6]?).map (·.type)=some (Rx Tryz.prog (Cv 6)):=by kernel_rfl
theorem Bif:Tryz.prog.globalNamed "crocus/turn.nowhere" = some 7:=by kernel_rfl
theorem Biq:(Tryz.prog.globals[Cv 7]?).map (·.type)=some (Rx Tryz.prog (Cv 7)):=by kernel_rfl
theorem Arm{P:Program}{W:World}{a:String×DataW Unit}{l:List (String×DataW Unit)}(h:laidMet P (a::l) W):laidMet P [a] W:=by
 obtain⟨ps,⟨g,t,cs,c,p,q,d,e,f,i,j,rfl⟩,hn,hc⟩:=h
 exact⟨MemPlace.row ⟨g,0,none⟩ cs.size++p++[],⟨g,t,cs,c,p,[],d,e,f,i,rfl,rfl⟩,by rw[Jt];exact(Wf.1 hn).1,fun b off hb=>hc b off (Ia _ (by rw[Jt]at hb;exact hb))⟩
theorem Iq{P:Program}{W:World}{a:String×DataW Unit}{l:List (String×DataW Unit)}(h:laidMet P (a::l) W):laidMet P l W:=by
 obtain⟨ps,⟨g,t,cs,d,p,q,e,f,i,j,c,rfl⟩,hn,hc⟩:=h
 exact⟨q,c,(Wf.1 hn).2.1,fun b off hb=>hc b off (Hb _ hb)⟩
def Ayt(W:World)(a:Nat×Cell):Prop:=∃l t fz,a.2 = .ro (.cells l)∧l.all Asn=true∧roW W a.1=some (.cells (l.map Abi).toArray t fz)
def tabK:List (String×FuncId):=[("(crocus/corm.sheet).give",idF (.func 349)),("(crocus/corm.sheet).take",idF (.func 388)),("crocus/pool.kinds$1",idF (.func 384)),("crocus/pool.kinds$2",idF (.func 385)),("crocus/pool.kinds$3",idF (.func 386)),("crocus/pool.kinds$4",idF (.func 387)),("(*crocus/turn.ditch).people",idF (.func 389)),("(*crocus/turn.ditch).times",idF (.func 390)),("(*crocus/turn.ditch).changes",idF (.func 391)),("(*crocus/turn.ditch).ground",idF (.func 392)),("crocus/elder.kinds$1",idF (.func 352)),("crocus/elder.tryCorm",idF (.func 353)),("crocus/elder.kinds$2",idF (.func 354)),("crocus/elder.tryOpen",idF (.func 355)),("crocus/elder.kinds$3",idF (.func 356)),("crocus/elder.tryPay",idF (.func 357)),("crocus/elder.kinds$4",idF (.func 358)),("crocus/elder.trySale",idF (.func 359)),("crocus/elder.kinds$5",idF (.func 360)),("crocus/elder.tryLot",idF (.func 361))]
theorem Bfp:tabK.all (fun p=>Tryz.prog.funcNamed p.1==some p.2)=true:=by kernel_rfl
theorem Sl{W:World}{n:String}{d:DataW Unit}{g:Nat}{l:List CV}(hg:Tryz.prog.globalNamed n=some g)(ht:(Tryz.prog.globals[g]?).map (·.type)=some (Rx Tryz.prog g))(h:funcsAt Tryz.prog W n d)
  (hd:Rg Tryz.prog (Vg tabK) 8 (Rx Tryz.prog g) d.funcsOut=some (l.map Abi)) (hp:l.all Asn=true):Ayt W (g,.ro (.cells l)) :=
 let ⟨t,fz,h⟩:=Alw Bfp hg ht hd h
 ⟨l,t,fz,rfl,hp,h⟩
theorem Avf{W:World}{n:String}{d:DataW Unit}{g:Nat}{l:List CV}(hg:Tryz.prog.globalNamed n=some g)(ht:(Tryz.prog.globals[g]?).map (·.type)=some (Rx Tryz.prog g))(h:laidMet Tryz.prog [(n,d)] W)
  (hd:Rg Tryz.prog (fun _:Unit=>none) 8 (Rx Tryz.prog g) d=some (l.map Abi)) (hp:l.all Asn=true):Ayt W (g,.ro (.cells l)) :=
 let ⟨t,fz,h⟩:=Ajo hg ht hd h
 ⟨l,t,fz,rfl,hp,h⟩
theorem Atr{W:World}:∀{l:List (Nat×Cell)},l.foldr (fun a p=>Ayt W a∧p) True→∀a∈l,Ayt W a
 | b::l,h,a,ha=>(lZ5.1 ha).elim (fun e=>e ▸ h.1) (Atr h.2 a)
def cK23:List CV:=[.f (idF (.func 352)) [] [],.f (idF (.func 353)) [] [],.f (idF (.func 354)) [] [],.f (idF (.func 355)) [] [],.f (idF (.func 356)) [] [],.f (idF (.func 357)) [] [],.f (idF (.func 358)) [] [],.f (idF (.func 359)) [] [],.f (idF (.func 360)) [] [],.f (idF (.func 361)) [] []]
theorem Bhw:Rg Tryz.prog (Vg tabK) 8 (Rx Tryz.prog (Cv 0)) (Vs Rows.laid_crocus_elder_kinds).funcsOut=some (cK23.map Abi):=by kernel_rfl
def cK24:List CV:=[.s [112,97,121],.f (idF (.func 384)) [] [],.s [108,111,97,110],.f (idF (.func 385)) [] [],.s [98,97,99,107],.f (idF (.func 386)) [] [],.s [100,111,119,114,121],.f (idF (.func 387)) [] []]
theorem Bhx:Rg Tryz.prog (Vg tabK) 8 (Rx Tryz.prog (Cv 1)) (Vs Rows.laid_crocus_pool_kinds).funcsOut=some (cK24.map Abi):=by kernel_rfl
def cK26:List CV:=[.s [115,116,97,114,116],.fn,.f (idF (.func 349)) [] [],.b false,.s [103,105,102,116],.f (idF (.func 388)) [] [],.f (idF (.func 349)) [] [],.b true,.s [108,111,97,110],.f (idF (.func 388)) [] [],.f (idF (.func 349)) [] [],.b true,.s [98,97,99,107],.f (idF (.func 388)) [] [],.f (idF (.func 349)) [] [],.b true,.s [115,97,108,101],.f (idF (.func 388)) [] [],.fn,.b true,.s [108,111,115,115],.f (idF (.func 388)) [] [],.fn,.b false]
theorem Bhy:Rg Tryz.prog (Vg tabK) 8 (Rx Tryz.prog (Cv 5)) (Vs Rows.laid_crocus_corm_kinds).funcsOut=some (cK26.map Abi):=by kernel_rfl
def cK10:List CV:=[.f (idF (.func 389)) [] [],.f (idF (.func 390)) [] [],.f (idF (.func 391)) [] [],.f (idF (.func 392)) [] []]
theorem Bhv:Rg Tryz.prog (Vg tabK) 8 (Rx Tryz.prog (Cv 6)) (Vs Rows.laid_crocus_turn_checks).funcsOut=some (cK10.map Abi):=by kernel_rfl
def cK27:List CV:=[.i .i64 (.negSucc 0),.i .i64 (.negSucc 0)]
theorem Bhz:Rg Tryz.prog (fun _:Unit=>none) 8 (Rx Tryz.prog (Cv 7)) Rows.laid_crocus_turn_nowhere=some (cK27.map Abi):=by kernel_rfl
theorem Aaz{W:World}(h:laidMetH Tryz.prog laidLK W):GlobK (roW W):=by
 have h':laidMet Tryz.prog Bdz W∧handlesMet Tryz.prog Bea W:=h
 refine⟨Atr ?_⟩
 unfold eKnows1
 simp only[List.foldr]
 refine⟨Sl (n:= "crocus/elder.kinds") (d:=Vs Rows.laid_crocus_elder_kinds) Bic Bin (h.funcs (lZ0 _ (lZ0 _ (lZ0 _ (lZ0 _ (lZ0 _ (lZ0 _ (lZ0 _ (lZ0 _ (lZ0 _ (lZ0 _ mC))))))))))) Bhw (by kernel_rfl),?_⟩
 refine⟨Sl (n:= "crocus/pool.kinds") (d:=Vs Rows.laid_crocus_pool_kinds) Bid Bio (h.funcs (lZ0 _ (lZ0 _ (lZ0 _ (lZ0 _ (lZ0 _ (lZ0 _ (lZ0 _ mC)))))))) Bhx (by kernel_rfl),?_⟩
 refine⟨Sl (n:= "crocus/corm.kinds") (d:=Vs Rows.laid_crocus_corm_kinds) Bie Bip (h.funcs (lZ0 _ (lZ0 _ (lZ0 _ (lZ0 _ (lZ0 _ (lZ0 _ mC))))))) Bhy (by kernel_rfl),?_⟩
 refine⟨Sl (n:= "crocus/turn.checks") (d:=Vs Rows.laid_crocus_turn_checks) Bib Bim (h.funcs (lZ0 _ (lZ0 _ (lZ0 _ (lZ0 _ (lZ0 _ (lZ0 _ (lZ0 _ (lZ0 _ mC))))))))) Bhv (by kernel_rfl),?_⟩
 refine⟨Avf (n:= "crocus/turn.nowhere") (d:=Rows.laid_crocus_turn_nowhere) Bif Biq (Arm (Iq (Iq (Iq (Iq (Iq (Iq h'.1))))))) Bhz (by kernel_rfl),?_⟩
 trivial
/-- The cells of a plain table. -/
def Bhm:DataW Unit→List Value
 | .agg ds=>ds.map fun d=>match d with | .lit (.int k z)=>.int k z|_=>undef
 | _=>[]
/-- The variables as the text lays them,the great table of utf8 with them. -/
noncomputable def doorK(os:Os):World:={World.doorLaid Tryz.prog 2000 os with heap:=(World.doorLaid Tryz.prog 2000 os).heap.setIfInBounds (Cv 10) (.cells (Bhm Go.Pinned.utf8First).toArray (Rx Tryz.prog (Cv 10)) (0,0))}
theorem Azs(os:Os)(args:Array Value):(DataW.laidRun Tryz.prog ((doorK os).forCall (fun _ _=>0) ⟨#[],args,[]⟩).memory 8 ((laidLK.filter fun x=>x.2.handleName?.isNone).map (·.1))).map (·.1)=some (laidLK.filter fun x=>x.2.handleName?.isNone):=by kernel_rfl
theorem Azt(os:Os)(args:Array Value):(DataW.laidRun Tryz.prog ((doorK os).forCall (fun _ _=>0) ⟨#[],args,[]⟩).memory 8 ((laidLK.filter fun x=>x.2.handleName?.isNone).map (·.1))).map (fun x=>decide x.2.Nodup&&laidRowsB Tryz.prog ((doorK os).forCall (fun _ _=>0) ⟨#[],args,[]⟩).memory x.2)=some true:=by kernel_rfl
theorem Azu(os:Os)(args:Array Value):(laidLK.filter fun x=>x.2.handleName?.isSome&&x.2.funcsIn?.isNone).all (handleAtB Tryz.prog ((doorK os).forCall (fun _ _=>0) ⟨#[],args,[]⟩).memory)=true:=by kernel_rfl
theorem Azv(os:Os)(args:Array Value):funcsRun Tryz.prog ((doorK os).forCall (fun _ _=>0) ⟨#[],args,[]⟩).memory 8 ((funcsListed laidLK).map (·.1))=some ((funcsListed laidLK).map (·.2.funcsOut)):=by kernel_rfl
theorem Aqx(os:Os)(args:Array Value):laidMetH Tryz.prog laidLK ((doorK os).forCall (fun _ _=>0) ⟨#[],args,[]⟩).memory :=
 laidMetH_of_parts3 (fuel:=8) (laidMet_of_run' 8 (Azs os args) (Azt os args)) (Azu os args) (Azv os args)
def Atn(H:Type)(enc:TypeId×Value→H)(s:ChangeSpec)(fn:Func):World→Array Value→Prop :=
 fun w args=>(s.pre enc Tryz.prog fn [] false w args∧laidMetH Tryz.prog laidLK w)∧sizedMet enc Tryz.prog fn (OpenSpec.ofChange s) false w args
/-- The lift of a law,with the variables of layer 10 laid. -/
theorem Amt{f:FuncId}{r:Nat}{fn:Func}{s:ChangeSpec}(os:Os)(started:os.Started)(H:Type)(enc:TypeId×Value→H)(hfn:Tryz.prog.funcs[f]?=some fn)(hvars:s.vars=[])(hres:fn.resultTypes = #[4])(hi:Tryz.prog.inits.idxOf? f=none)
  (hts:∀t∈fn.params.toList,Tryz.prog.readableRec t=true∧t<Tryz.prog.types.size)
  (hspec:∀ds:List (DataW H),ds.length=fn.params.toList.length→s.fn H ds={results:=[.lit (.bool true)],args:=ds})
  (witness:∃(w:World) (tape:Tape) (i:Input),w.os=os∧(w.forCall tape i).Shaped Tryz.prog∧i.vars=[]∧Input.okWide Tryz.prog (w.forCall tape i) .any w.heap.size f i∧Atn H enc s fn (w.forCall tape i).memory i.args∧({}:Assume).holds Tryz.prog (lone (Frame.enter Tryz.prog f i.args .normal) [] (w.forCall tape i)))
  (walk:∀(W:World) (args:List Value) (ds:List (DataW H)) (ps:List MemPlace),(∀(j:Nat) t v,fn.params[j]?=some t→args.toArray[j]?=some v→∃b,Value.okWide Tryz.prog W .any b t v)→DataW.TrodAll enc Tryz.prog W 0 (fun _=>true) true fn.params.toList args ds ps →
   (DataW.weightsEach Tryz.prog fn.params.toList ds).all (·≤reachBytes)=true→GlobK (roW W)→Agd (CY W) f r args (roW W) [] (fun w ρ' σ'=>ρ'=roW W∧σ'=[]∧w = .bool true)) :
  ReturnsInLeavingWide {} Tryz.checked os f .any (Atn H enc s fn) (s.post enc Tryz.prog fn false true false false):=by
 refine returnsInLeavingWide_of_good (C:=Tryz.checked) Art started witness ?_
 intro w tape i _ _ _ hok z _
 obtain⟨_,_,_,fn',u,_,_,_,_,B⟩:=hok
 have e:fn'=fn:=Option.some.inj (u.symm.trans hfn)
 subst e
 obtain⟨⟨⟨ds,gs,E,hw,_⟩,hL⟩,hz⟩:=z
 have hsz:=hz.weights hw
 have hw':=DataW.Whole.of_heap (w':=w.forCall tape i) (by rfl) hw
 have hL':=hL.of_heap (w':=w.forCall tape i) (by rfl)
 generalize w.forCall tape i=W at *
 obtain⟨p,q,hA,hV,hb,hnf,hnd⟩:=hw'
 have hV':DataW.TrodVars enc Tryz.prog W (fun _=>true) [] gs q:=by rw[←hvars];exact hV
 obtain⟨rfl,rfl⟩:=trodVars_none hV'
 simp only[Jt]at hb
 replace hb:=hb.symm
 subst hb
 have hvt:s.plain.varTypes Tryz.prog=[]:=by unfold DataSpec.varTypes ChangeSpec.plain;rw[hvars];rfl
 rw[show (OpenSpec.ofChange s).bare.plain.varTypes Tryz.prog=[] from hvt,Jt,Jt]at hsz
 obtain⟨F,y⟩:=Sb hA
 have g:i.args.toList.toArray=i.args:=by simp
 have n:=walk W i.args.toList ds p (fun j t v c a=>⟨_,B j t v c (by rw[g]at a;exact a)⟩) hA hsz (Aaz hL')
 have d:DataW.Whole enc Tryz.prog fn'.params.toList s.vars false W i.args.toList ds [] p:=⟨p,[],hA,hV,by simp,hnf,hnd⟩
 have hlt:∀x∈p,x.block<W.heap.size:=fun x hx=>by simpa using d.lt x hx
 have hgo:=Ags (W0:=W) (Pst:=fun v W'=>s.post enc Tryz.prog fn' false true false false W i.args v W') n hi fun v ρ' σ' ⟨_,hσ,hv⟩=>⟨hσ,fun W' hbw=>by
  subst hv
  have er:(s.fn H (ds++[]))={results:=[.lit (.bool true)],args:=ds}:=by rw[Jt];exact hspec ds y
  refine⟨ds,[],p,[],p,[],d,?_,?_,?_,hbw.frame _,fun h=>by cases h⟩
  ·rw[er,hres];exact trodAll_mk1 (shut_bool Tryz.underlying4 true)
  ·rw[er];exact Oo hbw hts hlt hA
  ·rw[er,hvars];rfl⟩
 rw[g]at hgo
 obtain⟨M,D,o,w',t',c,a,k,m⟩:=Agq hgo Anl
 exact⟨M,D,o,w',t',c,a,k,m.mono fun v hp=>ChangeSpec.post_blind hp⟩
end
section
open Go Go.WideShapes Go.ChangeShapes Go.RowKit Go.Conc
set_option maxRecDepth 100000
theorem Ub(os:Os)(started:os.Started)(H:Type)(enc:TypeId×Value→H):ReturnsInLeavingWide {} Tryz.checked os 3 .any (Atn H enc Rows.elderReadSpec Tryz.f3) (Rows.elderReadSpec.post enc Tryz.prog Tryz.f3 false true false false):=by
 refine Amt (r:=4) os started H enc Tryz.func3 rfl rfl (by kernel_rfl) (by decide) (fun ds hd=>?_)
  (ChangeSpec.witness_shaped (enc:=enc) (C:=Tryz.checked) (os:=os) (X:=fun w _=>laidMetH Tryz.prog laidLK w) false (doorK os) #[.string (ByteArray.mk #[]),.slice none 0 0] 8 rfl (World.shaped_of_RefB (by kernel_rfl) (by kernel_rfl)) (by kernel_rfl) (by kernel_rfl) (by kernel_rfl) (Aqx os _)) ?_
 ·match ds,hd with
  | [d1,d2],_=>rfl
 ·intro W a ds ps hv hA hw hg
  obtain⟨b,c⟩:=Sb hA
  match a,b,ds,c,hA with
  | [v1,v2],_,[d1,d2],_,⟨p1,q1,h1,⟨p2,q2,h2,_,_⟩,_⟩ =>
   obtain⟨g,d⟩:=hv 0 9 v1 rfl rfl
   obtain⟨h,e⟩:=hv 1 22 v2 rfl rfl
   obtain⟨i,rfl⟩:=Ats Biy d h1
   obtain⟨k,f⟩:=Aqh (Auj Biz (by kernel_rfl) (lZ2 (by kernel_rfl)) (by decide) (Azn Biy (by kernel_rfl))) Biz e h2 (Ann hw (j:=1) rfl rfl)
   exact Ahg hg NoRecv.nil f
theorem Afd:laidOutB Tryz.prog=true:=by kernel_rfl
theorem Afe:mapsRowed Tryz.prog=true:=by kernel_rfl
theorem Aff:(Rows.elderReadRow.inPlace==Tryz.prog.inPlace (idF (.func 3)))=true:=by kernel_rfl
theorem Afi:(Rows.elderReadRow.unfollowed==Tryz.prog.unfollowed (idF (.func 3)))=true:=by kernel_rfl
theorem Afj:(Rows.elderReadRow.recurses==Tryz.prog.recurses (idF (.func 3)))=true:=by kernel_rfl
theorem Afk:(Rows.elderReadRow.named==Tryz.prog.varsNamed (idF (.func 3)))=true:=by kernel_rfl
theorem Afl:(Rows.elderReadRow.plainKeys==Tryz.prog.plainKeys)=true:=by kernel_rfl
theorem Afm:Tryz.prog.stopsHeard=true:=by kernel_rfl
theorem Afn:Tryz.prog.mayEnter=true:=by kernel_rfl
theorem elderRead_name:Tryz.prog.funcNamed "crocus/crocuslaw10.ElderRead" = some 3:=by kernel_rfl
theorem Ua:joinedFacts Tryz.prog (idF (.func 3)) Tryz.f3 Rows.elderReadSpec Rows.elderReadRow=true:=by
 unfold joinedFacts
 rw[Afd,Afe,Aff,Afi,Afj,Afk,Afl,Afm,Afn]
 kernel_rfl
theorem Aaw:Rows.ElderReadSaid :=
 OpenClaim.holds_of_wide_leaving 3 Tryz.f3 rfl rfl rfl rfl rfl rfl rfl ⟨rfl,rfl,rfl,rfl,rfl⟩ rfl rfl rfl rfl rfl elderRead_name Tryz.func3 Ua
  (Ee (by kernel_rfl)) (by unfold Func.isWrapper;first|(rw[if_pos (by decide +kernel)];kernel_rfl)|(rw[if_neg (by decide +kernel)];exact⟨rfl,rfl⟩))
  (fun os a H enc _=>Ub os a H enc)
theorem elderRead_holds:Rows.ElderReadCardSaid :=
 Ata .later [.data,.data,.data,.data,.sentinel,.sentinel,.funcsDeep,.funcsDeep,.funcs,.data,.funcs,.data,.pinned] true (true,"c3bb91d6090ccda8f9fc656fde9fbb11f613864655b4e1cdb3bad97fa94ed68b") true Aaw (by kernel_rfl) elderRead_row_tie rfl ⟨rfl,rfl⟩ (by kernel_rfl) rfl
  (fun f fn hf hfn=>by
   obtain rfl:f=3:=Option.some.inj (elderRead_name.symm.trans hf) |>.symm
   obtain rfl:fn=Tryz.f3:=(Option.some.inj (Tryz.func3.symm.trans hfn)).symm
   exact⟨by kernel_rfl,fun j t ht=>by
    have a:t=9∨t=22:=by
     match j,ht with
     | 0,h=>exact .inl (Option.some.inj h).symm
     | 1,h=>exact .inr ((Option.some.inj h).symm)
    rcases a with rfl|rfl
    ·exact(show Tryz.prog.wantsStandIn 9=false by kernel_rfl)
    ·exact(show Tryz.prog.wantsStandIn 22=false by kernel_rfl)⟩)
  (by kernel_rfl)
end
end Go.Proofs.YtdkahgpemgjidaaGreatDoor
