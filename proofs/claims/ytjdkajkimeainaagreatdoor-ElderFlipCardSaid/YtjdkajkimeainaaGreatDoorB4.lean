/- Part 4 of what all laws of layer 8 need: a logic of programs that start goroutines, and what the functions yield. -/
import Derived.Test.YtjdkajkimeainaaGreatDoorB3
import Derived.KernelRfl
set_option linter.unusedVariables false
set_option linter.unusedSimpArgs false
set_option maxRecDepth 100000
set_option maxHeartbeats 4000000
namespace Go.Proofs.YtjdkajkimeainaaGreatDoor
section
open Go
section
variable{P:Program}{R:XR}{e:Tr CV}{e':Env}{m m':Mem}{x:CV}
theorem Agr(o:Option Nat)(d:Nat):xOr o d=o.getD d:=by cases o<;>rfl
/-- A bound,if there is one. -/
def BV(v:Option Value)(n:Option Nat):Prop:=(v=none∧n=none)∨∃k q,v=some (.int k (q:Nat))∧n=some q
theorem Asq(he:EnvR R e e')(hg:Jp R)(o:Option Operand){r:Option Nat}(h:(xBnd o).run e=some r):BV (o.map (Af e')) r:=by
 cases o with
 | none=>cases h;exact .inl ⟨rfl,rfl⟩
 | some a =>
  have ha:=Cj he hg a
  have h':(match (rdK a).run e with | .i _ (.ofNat n)=>some (some n)|_=>none)=some r:=h
  split at h'
  ·rename_i k n hu
   cases h'
   rw[hu]at ha
   exact .inr ⟨k,n,by rw[Aes,Jg ha];rfl,rfl⟩
  ·cases h'
theorem Lu{k:IntKind}{q y:Nat}{code:BoundsCode}(h:q≤y):Instr.sliceBound (.int k (q:Nat)) y code=pure q:=by
 show (if 0≤(q:Int)∧(q:Int)≤y then pure (q:Int).toNat else _)=_
 rw[if_pos (by omega)];simp
theorem Yd{b:Bool}{ln cp:Nat}{lo hi mx:Option Value}{l h q:Option Nat}(hlo:BV lo l)(hhi:BV hi h)(hmx:BV mx q)(hq:q.isSome=true→h.isSome=true)(h1:l.getD 0≤h.getD ln)(h2:h.getD ln≤q.getD cp)(h3:q.getD cp≤cp) :
  Instr.sliceBounds b ln cp lo hi mx=pure (l.getD 0,h.getD ln,q.getD cp):=by
 rcases hlo with⟨rfl,rfl⟩|⟨a,c,rfl,rfl⟩<;>rcases hhi with⟨rfl,rfl⟩|⟨k2,q2,rfl,rfl⟩<;>rcases hmx with⟨rfl,rfl⟩|⟨k3,q3,rfl,rfl⟩ <;>
  simp only[Aqf,Option.getD_none,Option.isSome_some,Aps,Aep,imp_false,not_true]at h1 h2 h3 hq ⊢<;>unfold Instr.sliceBounds<;>simp only[Option.isSome_some,Aps]
 ·rfl
 ·simp only[pure_bind,Lu h2]
 ·simp only[pure_bind,Lu h3,Lu h2]
 ·simp only[pure_bind,Lu h1]
 ·simp only[pure_bind,Lu h2,Lu h1]
 ·simp only[pure_bind,Lu h3,Lu h2,Lu h1]
/-- What the run says of an operation that reads: what it yields wherever that is as it was. -/
def Ans(P:Program)(o:Op):Prop:=∀R e e' m x k,EnvR R e e'→Jp R→(opK P o).run e m = .rd x k →
 ∀R₁ m₁ ρ σ σ₀,MemX R₁ m₁ ρ σ σ₀→m₁.obj k=m.obj k→R₁ k=R k→∃v,V1 R₁ x v∧∀dd ty pos af g,wpS P ρ (execOp (Af e') ⟨dd,o,ty,pos,af,g⟩) σ (fun nx σ'=>nx = .value v∧σ'=σ)
theorem Xe{x y:CV}{k j:Nat}(h:OR.rd x k = .rd y j):x=y∧k=j:=by cases h;exact⟨rfl,rfl⟩
theorem MemR.roomC{ρ:Ro}{σ σ₀:Own}{L:List (Nat×Nat×Res)}{G:Own}{m₁:Mem}(hm:MemR R m₁ ρ σ σ₀ L G){n k c q b d:Nat}{kn:Bool}(h:xRoomC m n k kn c q=true)(hk:m₁.obj k=m.obj k)(hR:R k=some (b,d)):q≤Ry kn c d:=by
 unfold xRoomC at h
 cases kn with
 | true=>exact lZ5 h
 | false =>
  simp only at h
  split at h
  ·rename_i n' l ho
   rw[←hk]at ho
   split at h
   ·rename_i hn
    have hn:=lZ7 hn
    subst hn
    have h:=lZ5 h
    rw[Fv]at h
    replace h:(c+q)*n≤l.length:=h
    have key:∀{o:Res},ObjR R d (.grow n l) o→l.length≤d*n∧0<n:=fun {o} ho=>by
     cases ho with
     | grow h1 g j h4=>have:=h1.len;exact⟨by omega,j⟩
    have g:l.length≤d*n∧0<n:=by
     unfold Mem.obj at ho
     split at ho
     ·rename_i o hg
      cases ho
      obtain⟨p,t,r,i,a,u,e,v⟩:=hm.at hg (by simp)
      rw[hR]at a;cases a
      exact key e
     ·rename_i o hg
      cases ho
      obtain⟨p,t,y,a,u,f,e⟩:=hm.ro k _ hg
      rw[hR]at a;cases a
      exact key e
     ·cases ho
    have j:c+q≤d:=Nat.le_of_mul_le_mul_right (Mm h g.1) g.2
    show q≤d-c
    omega
   ·cases h
  ·cases h
theorem Bll{a b:Nat}(h:a≠b):Nat.beq a b=false:=by
 cases hx:Nat.beq a b with
 | false=>rfl
 | true=>exact absurd (lZ7 hx) h
/-- What a part of a slice is. -/
def SlP(R:XR)(n k off ln:Nat)(kn:Bool)(c l:Nat)(h q:Option Nat)(x:CV)(b d:Nat):Prop :=
 h.getD ln≤q.getD (Ry kn c d)∧q.getD (Ry kn c d)≤Ry kn c d ∧
  V1 R x (.slice (some (if q.getD (Ry kn c d)=l then ⟨b,off,none⟩ else ⟨b,off+l*n,none⟩)) (h.getD ln-l) (q.getD (Ry kn c d)-l))
/-- A part of a slice that may be there. -/
theorem Ajl{n k off ln c l:Nat}{kn:Bool}{h q:Option Nat}{y:OR}(hx:xSliceM n k off ln kn c l h q m=y)(hy:y ≠ .bad):(q.isSome=true→h.isSome=true)∧l≤h.getD ln ∧
    ((∃x, y = .v x m ∧ ∀{R : XR} {b d}, R k=some (b, d) → SlP R n k off ln kn c l h q x b d) ∨
     (∃x, y = .rd x k ∧ ∀{R : XR} {m₁ : Mem} {ρ σ σ₀ L G b d}, MemR R m₁ ρ σ σ₀ L G → m₁.obj k=m.obj k → R k=some (b, d) → SlP R n k off ln kn c l h q x b d)) := by
  unfold xSliceM at hx
  have val:∀{R:XR} {q b d:Nat} {h':Nat},R k=some (b,d)→V1 R (.sl k (match Nat.beq q l with|true=>off|false=>Nat.add off (Nat.mul l n)) (Nat.sub h' l) true (Nat.sub q l)) (.slice (some (if q=l then ⟨b,off,none⟩ else ⟨b,off+l*n,none⟩)) (h'-l) (q-l)):=fun {R q b d h'} hR=>by
    by_cases hq:q=l
    · subst hq
      rw[if_pos rfl]
      have:Nat.beq q q=true:=by simp
      rw[this]
      exact .slK hR .nil
    · rw[if_neg hq,Bll hq]
      exact .slK hR .nil
  cases q with
  | some q =>
    cases h with
    | none=>exact absurd hx.symm hy
    | some h =>
      simp only at hx
      split at hx
      · rename_i a e f
        have a:=lZ5 a
        have e:=lZ5 e
        refine⟨fun _=>rfl,a,?_⟩
        split at hx
        · refine .inl ⟨_,hx.symm,fun {R b d} hR=>⟨e,lZ5 f,val hR⟩⟩
        · refine .inr ⟨_,hx.symm,fun {R m₁ ρ σ σ₀ L G b d} hm hk hR=>⟨e,hm.roomC f hk hR,val hR⟩⟩
      · exact absurd hx.symm hy
  | none =>
    simp only[Agr]at hx
    split at hx
    · exact absurd hx.symm hy
    · rename_i a
      have a:=lZ5 a
      split at hx
      · rename_i e
        have e:=lZ5 e
        exact⟨fun h=>(by cases h),a,.inl ⟨_,hx.symm,fun {R b d} hR=>⟨e,Et _,val hR⟩⟩⟩
      · exact absurd hx.symm hy
    · rename_i a
      have a:=lZ5 a
      split at hx
      · rename_i e _
        refine⟨fun h=>(by cases h),a,.inr ⟨_,hx.symm,fun {R m₁ ρ σ σ₀ L G b d} hm hk hR=>⟨hm.roomC e hk hR,Et _,?_⟩⟩⟩
        show V1 R _ (.slice (some (if d-c=0 then ⟨b,off,none⟩ else ⟨b,off+0*n,none⟩)) (h.getD ln-0) (d-c-0))
        rw[Aqc,Vn,ite_self]
        exact .slU hR .nil
      · rename_i l0 e _
        split at hx
        · rename_i f
          refine⟨fun h=>(by cases h),a,.inr ⟨_,hx.symm,fun {R m₁ ρ σ σ₀ L G b d} hm hk hR=>⟨hm.roomC e hk hR,Et _,?_⟩⟩⟩
          have f:l0+2≤d-c:=hm.roomC f hk hR
          show V1 R _ (.slice (some (if d-c=l0+1 then ⟨b,off,none⟩ else ⟨b,off+(l0+1)*n,none⟩)) (h.getD ln-(l0+1)) (d-c-(l0+1)))
          rw[if_neg (by omega)]
          have:d-c-(l0+1)=d-(c+(l0+1)):=by omega
          rw[this]
          exact .slU hR .nil
        · exact absurd hx.symm hy
      · exact absurd hx.symm hy
theorem Zi{n k c q:Nat}(h:xRoomC m n k false c q=true):∃ob,m.obj k=some ob∧ob ≠ .dead:=by
 unfold xRoomC at h
 simp only at h
 split at h
 ·rename_i ho;exact⟨_,ho,by simp⟩
 ·cases h
theorem Auk{n k off ln c l j:Nat}{kn:Bool}{h q:Option Nat}{x:CV}(hx:xSliceM n k off ln kn c l h q m = .rd x j):∃ob,m.obj j=some ob∧ob ≠ .dead:=by
 unfold xSliceM at hx
 cases q with
 | some q =>
  cases h with
  | none=>cases hx
  | some h =>
   simp only at hx
   split at hx
   ·rename_i h3
    split at hx
    ·cases hx
    ·cases hx;exact Zi h3
   ·cases hx
 | none =>
  simp only at hx
  split at hx
  ·cases hx
  ·split at hx<;>cases hx
  ·split at hx
   ·rename_i h3 _;cases hx;exact Zi h3
   ·rename_i h3 _
    split at hx
    ·cases hx;exact Zi h3
    ·cases hx
   ·cases hx
/-- What the machine does then. -/
theorem Akf{t el:TypeId}{n k off ln c l0:Nat}{kn:Bool}{lo hi mx:Option Value}{l h q:Option Nat}{x:CV}{b d:Nat}{ρ:Ro}{σ:Own}{Q:Value→Own→Prop}(hT:P.underlying t=some (.slice el))(hn:xSzT P el=some n)
  (hlo:BV lo l) (hhi:BV hi h) (hmx:BV mx q) (hq:q.isSome=true→h.isSome=true) (h1:l.getD 0≤h.getD ln) (hl:l0=l.getD 0) (hs:SlP R n k off ln kn c l0 h q x b d) (hQ:Q (.slice (some (if q.getD (Ry kn c d)=l0 then ⟨b,off,none⟩ else ⟨b,off+l0*n,none⟩)) (h.getD ln-l0) (q.getD (Ry kn c d)-l0)) σ) :
  wpS P ρ (Instr.sliceAt t (.slice (some ⟨b,off,none⟩) ln (Ry kn c d)) lo hi mx) σ Q:=by
 subst hl
 obtain⟨e,f,g⟩:=hs
 show wpS _ ρ ((underlying t).bind _) σ _
 rw[Ad]
 refine Az hT ?_
 show wpS _ ρ ((underlying t).bind _) σ _
 rw[Ad]
 refine Az hT ?_
 simp only[]
 rw[Yd hlo hhi hmx hq h1 e f]
 show wpS _ ρ ((sizeOf el).bind _) σ _
 rw[Ad]
 refine Dx (Je hn) ?_
 have a:(if q.getD (Ry kn c d)=l.getD 0 then some (⟨b,off,none⟩:Addr) else (some (⟨b,off,none⟩:Addr)).map (·.add (l.getD 0*n)))=some (if q.getD (Ry kn c d)=l.getD 0 then ⟨b,off,none⟩ else ⟨b,off+l.getD 0*n,none⟩):=by
  by_cases hq:q.getD (Ry kn c d)=l.getD 0
  ·rw[if_pos hq,if_pos hq]
  ·rw[if_neg hq,if_neg hq,Aes,Ld]
 rw[a]
 exact hQ
theorem Qx{t:TypeId}{a:Operand}{lo hi mx:Option Operand}:∀dd ty pos af g,execOp (Af e') ⟨dd,.slice t a lo hi mx,ty,pos,af,g⟩=(Instr.sliceAt t (Af e' a) (lo.map (Af e')) (hi.map (Af e')) (mx.map (Af e'))).bind fun v=>Sem.pure (Next.value v):=fun _ _ _ _ _=>rfl
/-- A part of a slice or of a string: what it needs. -/
theorem Zy{t:TypeId}{a:Operand}{lo hi mx:Option Operand}{y:OR}(he:EnvR R e e')(hg:Jp R)(h:(opK P (.slice t a lo hi mx)).run e m=y)(hy:y ≠ .bad) :
  (∃el n k off ln kn c l0 l h q,P.underlying t=some (.slice el)∧xSzT P el=some n∧V1 R (.sl k off ln kn c) (Af e' a)∧BV (lo.map (Af e')) l∧BV (hi.map (Af e')) h∧BV (mx.map (Af e')) q∧l0=l.getD 0∧xSliceM n k off ln kn c l0 h q m=y)∨∃x,y = .v x m∧Nr P (.slice t a lo hi mx) R e' x:=by
 have ha:=Cj he hg a
 have hlo:=fun {r}=>Asq he hg lo (r:=r)
 have hhi:=fun {r}=>Asq he hg hi (r:=r)
 have hmx:=fun {r}=>Asq he hg mx (r:=r)
 unfold opK at h
 simp only at h
 split at h
 ·rename_i el hT
  split at h
  ·rename_i n lo1 hi1 mx1 hn e1 e2 e3
   rw[e1]at hlo;rw[e2]at hhi;rw[e3]at hmx
   have h':(match (rdK a).run e with
    | .sl k off ln kn c=>match lo1 e,hi1 e,mx1 e with
     | some l,some h,some q=>xSliceM n k off ln kn c (xOr l 0) h q m
     | _,_,_=>.bad
    | .sn=>match lo1 e,hi1 e,mx1 e with
     | some l,some h,some q=>match Nat.beq (xOr l 0) 0,Nat.beq (xOr h 0) 0,Nat.beq (xOr q 0) 0,xMxOk h q with
      | true,true,true,true=>OR.v .sn m
      | _,_,_,_=>.bad
     | _,_,_=>.bad
    | _=>.bad)=y:=h
   split at h'
   ·rename_i k off ln kn c hu
    split at h'
    ·rename_i l h0 q g1 g2 g3
     rw[hu]at ha
     exact .inl ⟨el,n,k,off,ln,kn,c,_,l,h0,q,hT,hn,ha,hlo g1,hhi g2,hmx g3,Agr ..,h'⟩
    ·exact absurd h'.symm hy
   ·rename_i hu
    split at h'
    ·rename_i l h0 q g1 g2 g3
     split at h'
     ·rename_i d f g q4
      refine .inr ⟨_,h'.symm,?_⟩
      rw[hu]at ha
      have g:=lZ7 g
      rw[Agr]at g
      have i:q.isSome=true→h0.isSome=true:=fun hq=>by
       cases q with
       | none=>cases hq
       | some q =>
        cases h0 with
        | none=>cases q4
        | some h=>rfl
      have d:=lZ7 d
      have f:=lZ7 f
      rw[Agr]at d f
      refine Gk _ Qx (.sn .nil) fun ρ σ=>?_
      rw[Ase ha]
      show wpS _ ρ ((underlying t).bind _) σ _
      rw[Ad]
      refine Az hT ?_
      show wpS _ ρ ((underlying t).bind _) σ _
      rw[Ad]
      refine Az hT ?_
      simp only[]
      rw[Yd (hlo g1) (hhi g2) (hmx g3) i (by rw[d];exact Mq _) (by rw[f];exact Mq _) (by rw[g];exact Et _)]
      show wpS _ ρ ((sizeOf el).bind _) σ _
      rw[Ad]
      refine Dx (Je hn) ?_
      rw[d,f,g]
      exact⟨rfl,rfl⟩
     ·exact absurd h'.symm hy
    ·exact absurd h'.symm hy
   ·exact absurd h'.symm hy
  ·exact absurd h.symm hy
 ·rename_i hT
  split at h
  ·rename_i lo1 hi1 e1 e2
   rw[e1]at hlo;rw[e2]at hhi
   have h':(match (rdK a).run e,lo1 e,hi1 e with
    | .s b,some l,some h=>match xOr h (xLen b),xOr l 0 with
     | h,l=>match Nat.ble h (xLen b),Nat.ble l h with
      | true,true=>match xTkn (Nat.sub h l) (xDrp l b) with|some r=>OR.v (.s r) m|none=>.bad
      | _,_=>.bad
    | _,_,_=>.bad)=y:=h
   split at h'
   ·rename_i b l h0 hu g1 g2
    simp only[Agr,Fv,Uf]at h'
    split at h'
    ·rename_i d f
     have d:=lZ5 d
     have f:=lZ5 f
     split at h'
     ·rename_i r hr
      refine .inr ⟨_,h'.symm,?_⟩
      obtain⟨_,rfl⟩:=Ui _ _ _ hr
      rw[hu]at ha
      refine Gk _ Qx (.s _ .nil) fun ρ σ=>?_
      rw[Tb ha]
      show wpS _ ρ ((underlying t).bind _) σ _
      rw[Ad]
      refine Az hT ?_
      show wpS _ ρ ((underlying t).bind _) σ _
      rw[Ad]
      refine Az hT ?_
      have hsz:(⟨b.toArray⟩:ByteArray).size=b.length:=rfl
      simp only[hsz,Option.map_none,Aps,Aep,if_false]
      rw[Yd (q:=none) (hlo g1) (hhi g2) (.inl ⟨rfl,rfl⟩) (fun h=>(by cases h)) f d (Et _)]
      refine⟨?_,rfl⟩
      show Value.string ((⟨b.toArray⟩:ByteArray).extract (l.getD 0) (h0.getD b.length))=_
      congr 1
      apply ByteArray.ext
      rw[ByteArray.data_extract]
      simp[Bcy]
     ·exact absurd h'.symm hy
    ·exact absurd h'.symm hy
   ·exact absurd h'.symm hy
  ·exact absurd h.symm hy
 ·exact absurd h.symm hy
theorem Atm(t:TypeId)(a:Operand)(lo hi mx:Option Operand):Gb P (.slice t a lo hi mx):=fun R e e' m x m' he hg h=>by
 rcases Zy he hg h (by simp) with⟨el,n,k,off,ln,kn,c,D,l,C,q,hT,hn,ha,p,u,v,w,y⟩|⟨x',f,i⟩
 ·obtain⟨z,B,j⟩:=Ajl y (by simp)
  rcases j with⟨x',b,j⟩|⟨x',b,_⟩
  ·obtain⟨rfl,rfl⟩:=Fm b
   obtain⟨bl,d,f,i⟩:=Tc ha
   have hs:=j f
   refine .inl ⟨rfl,_,hs.2.2,fun ρ σ dd ty pos af g=>?_⟩
   rw[Qx,Ad,i]
   subst w
   exact Akf hT hn p u v z B rfl hs ⟨rfl,rfl⟩
  ·cases b
 ·obtain⟨rfl,rfl⟩:=Fm f
  exact .inl ⟨rfl,i⟩
theorem Apg(t:TypeId)(a:Operand)(lo hi mx:Option Operand):Ans P (.slice t a lo hi mx):=fun R e e' m x k he hg h R₁ m₁ ρ σ σ₀ hm ho z=>by
 rcases Zy he hg h (by simp) with⟨el,n,k',off,ln,kn,c,E,l,D,q,hT,hn,ha,p,u,v,w,y⟩|⟨x',f,j⟩
 ·obtain⟨B,C,i⟩:=Ajl y (by simp)
  rcases i with⟨x',b,_⟩|⟨x',b,i⟩
  ·cases b
  ·obtain⟨rfl,rfl⟩:=Xe b
   obtain⟨bl,d,f,j⟩:=Tc ha
   obtain⟨L,G,hm⟩:=hm
   have hs:=i hm ho (z.trans f)
   refine⟨_,hs.2.2,fun dd ty pos af g=>?_⟩
   rw[Qx,Ad,j]
   subst w
   exact Akf hT hn p u v B C rfl hs ⟨rfl,rfl⟩
 ·cases f
theorem Azv{t:TypeId}{l:List CV}{v:CV}(h:(partK P t).run l=some v):(∃n r,xAggT P t=some true∧xSzT P t=some n∧xTkn n l=some r∧v = .g r)∨(xAggT P t=some false∧∃r,l=v::r):=by
 unfold partK at h
 split at h
 ·rename_i ha
  split at h
  ·rename_i n hn
   simp only at h
   split at h
   ·rename_i r hr
    cases h;exact .inl ⟨n,r,ha,hn,hr,rfl⟩
   ·cases h
  ·cases h
 ·rename_i ha
  simp only at h
  split at h
  ·cases h;exact .inr ⟨ha,_,rfl⟩
  ·cases h
 ·cases h
theorem Atj(t:TypeId)(a:Operand)(i:Nat):Gb P (.field t a i):=fun R e e' m x m' he hg h=>by
 have ha:=Cj he hg a
 unfold opK at h
 simp only at h
 split at h
 ·rename_i fs hT
  split at h
  ·rename_i f hf
   have h':(match (rdK a).run e with
    | .g l=>match (partK P f.type).run (xDrp f.offset l) with|some v=>OR.v v m|none=>.bad
    | _=>.bad) = .v x m':=h
   split at h'
   ·rename_i l hu
    cases hp:(partK P f.type).run (xDrp f.offset l) with
    | none=>rw[hp]at h';cases h'
    | some v =>
     rw[hp]at h'
     obtain⟨rfl,rfl⟩:=Fm h'
     rw[hu]at ha
     obtain⟨l',j,k⟩:=Xr ha
     rw[Uf]at hp
     have hf':fs[i]?=some f:=by rw[←Avu];exact hf
     have exe:∀dd ty pos af g,execOp (Af e') ⟨dd,.field t a i,ty,pos,af,g⟩=(Instr.field t (Af e' a) i).bind fun v=>Sem.pure (Next.value v):=fun _ _ _ _ _=>rfl
     rcases Azv hp with⟨n,r,b,c,q,rfl⟩|⟨b,r,c⟩
     ·refine .inl ⟨rfl,Gk (v:=.agg ((l'.drop f.offset).take n).toArray) _ exe (.g ?_ .nil) fun ρ σ=>?_⟩
      ·obtain⟨_,rfl⟩:=Ui _ _ _ q
       exact(j.drop _).take _
      rw[k]
      show wpS _ ρ ((underlying t).bind _) σ _
      rw[Ad]
      refine Az hT ?_
      simp only[hf']
      show wpS _ ρ (part f.type l'.toArray f.offset) σ _
      exact Akd (Tg b) (Je c) ⟨rfl,rfl⟩
     ·obtain⟨w,p,u⟩:=(j.drop f.offset).at (d:=0) (v:=v) (by rw[c];rfl)
      refine .inl ⟨rfl,Gk (v:=w) _ exe u fun ρ σ=>?_⟩
      rw[k]
      show wpS _ ρ ((underlying t).bind _) σ _
      rw[Ad]
      refine Az hT ?_
      simp only[hf']
      show wpS _ ρ (part f.type l'.toArray f.offset) σ _
      refine Qr (Tg b) ?_ ⟨rfl,rfl⟩
      rw[Ib]
      rw[Yx,Vn]at p
      exact p
   ·cases h'
  ·cases h
 ·cases h
end
end
section
open Go
section
variable{P:Program}{R:XR}{e:Tr CV}{e':Env}{m m':Mem}{x:CV}
theorem VR.set{l l2:List CV}{c:List Value}{o:Nat}{vs:List CV}{ws:List Value}(h:VR R l c)(hs:xSetL o vs l=some l2)(hv:VR R vs ws):o+ws.length≤c.length∧VR R l2 (over c o ws):=by
 obtain⟨a,b⟩:=Ags o vs l l2 hs
 have hl:=h.len
 have hw:=hv.len
 rw[hw,hl]at a
 refine⟨a,?_⟩
 rw[Qe ws c o a,b,hw]
 exact(h.take o).app (hv.app (h.drop _))
theorem Wl(he:EnvR R e e')(hg:Jp R){off place:Nat→Option (Nat×Nat)}(hp:∀i o z,off i=some (o,z)→place i=some (o,z)):∀(ps:List (Nat×Operand)) (l l2:List CV) (c:List Value),(fillK off ps).run l e=some l2→VR R l c →
  ∃c2,Instr.fill place c.toArray (ps.map fun p=>(p.1,Af e' p.2))=some c2.toArray∧VR R l2 c2
 | [],l,l2,c,h,hv=>by cases h;exact⟨c,rfl,hv⟩
 | (i,a)::ps,l,l2,c,h,hv=>by
  unfold fillK at h
  split at h
  ·cases h
  ·rename_i o z ho
   simp only at h
   split at h
   ·cases h
   ·rename_i vs hc
    split at h
    ·cases h
    ·rename_i hz
     split at h
     ·rename_i l3 hs
      have hz:=lZ7 hz
      rw[Fv]at hz
      have b:=(Cj he hg a).cells hc
      obtain⟨d,f⟩:=hv.set hs b
      have k:=b.len
      obtain⟨c2,g,j⟩:=Wl he hg hp ps l3 l2 _ h f
      refine⟨c2,?_,j⟩
      rw[Hd,Be (cs:=(Af e' a).cells.toList) (by simp) (by rw[hp i o z ho,←k,hz]) d]
      exact g
     ·cases h
/-- The fields' sizes. -/
noncomputable def sizesL(P:Program):List Field→List Nat
 | []=>[]
 | f::fs=>((xSzT P f.type).getD 0)::sizesL P fs
theorem Anz:∀{fs:List Field},allSz P fs=true→Wu P fs (sizesL P fs)
 | [],_=>trivial
 | f::fs,h=>by
  unfold allSz at h
  split at h
  ·rename_i n hn
   refine⟨?_,Anz h⟩
   rw[hn];exact Je hn
  ·cases h
theorem Aww:∀(fs:List Field) (i o z:Nat),fldAt P fs i=some (o,z)→(Gs fs (sizesL P fs))[i]?=some (o,z)
 | [],i,o,z,h=>by simp[fldAt]at h
 | f::fs,0,o,z,h=>by
  unfold fldAt at h
  simp only[Aza]at h
  simp only[sizesL,Gs,Aza]
  cases hn:xSzT P f.type with
  | none=>rw[hn]at h;cases h
  | some n=>rw[hn]at h;cases h;rfl
 | f::fs,i+1,o,z,h=>by
  simp only[sizesL,Gs,Sl]
  refine Aww fs i o z ?_
  unfold fldAt at h ⊢
  rw[Sl]at h;exact h
theorem Atg(t:TypeId)(ps:Array (Nat×Operand)):Gb P (.build t ps):=fun R e e' m x m' he hg h=>by
 have hps:ps=ps.toList.toArray:=by simp
 unfold opK at h
 simp only at h
 split at h
 ·rename_i z fs hz hT
  split at h
  ·rename_i c hsz hc
   have h':(match (fillK (fldAt P fs.toList) ps.toList).run c e with|some l=>OR.v (.g l) m|none=>.bad) = .v x m':=h
   split at h'
   ·rename_i l hf
    obtain⟨rfl,rfl⟩:=Fm h'
    obtain⟨v,hv,rfl⟩:=Mf hz
    have hvc:=(vOf R v).cells hc
    obtain⟨d,a,b⟩:=Wl he hg (place:=((Gs fs.toList (sizesL P fs.toList))[·]?)) (Aww fs.toList) ps.toList c l _ hf hvc
    refine .inl ⟨rfl,Pw (ρ:=fun _=>none) (.g b .nil) fun ρ ty=>?_⟩
    rw[hps]
    exact Dn (fs:=fs.toList) (zc:=v.cells.toList) (by rw[Ww];exact hT) hv (by simp) (Anz hsz) rfl a
   ·cases h'
  ·cases h
 ·rename_i z ln el hz hT
  split at h
  ·rename_i n c hn hc
   have h':(match (fillK (fun i=>some (Nat.mul i n,n)) ps.toList).run c e with|some l=>OR.v (.g l) m|none=>.bad) = .v x m':=h
   split at h'
   ·rename_i l hf
    obtain⟨rfl,rfl⟩:=Fm h'
    obtain⟨v,hv,rfl⟩:=Mf hz
    have hvc:=(vOf R v).cells hc
    obtain⟨d,a,b⟩:=Wl he hg (place:=fun i=>some (i*n,n)) (fun i o z h=>h) ps.toList c l _ hf hvc
    refine .inl ⟨rfl,Gk (Instr.build t (ps.map fun (p:Nat×Operand)=>(p.1,Af e' p.2))) (fun _ _ _ _ _=>rfl) (.g b .nil) fun ρ σ=>?_⟩
    unfold Instr.build
    show wpS P ρ ((zeroValue t).bind _) σ _
    rw[Ad]
    refine Jz hv ?_
    show wpS P ρ ((underlying t).bind _) σ _
    rw[Ad]
    refine Az hT ?_
    dsimp only
    show wpS P ρ ((sizeOf el).bind _) σ _
    rw[Ad]
    refine Dx (Je hn) ?_
    have f:(ps.map fun (p:Nat×Operand)=>(p.1,Af e' p.2)).toList=ps.toList.map fun p=>(p.1,Af e' p.2):=by simp
    have j:v.cells=v.cells.toList.toArray:=by simp
    rw[f,j,a]
    exact⟨rfl,rfl⟩
   ·cases h'
  ·cases h
 ·cases h
theorem Ahh(n:Nat):Axp n (0,0):=fun i _=>by simp
theorem Akq{o:Op}{el:TypeId}{l:List CV}{vs:List Value}(s:Sem Value)(mk:Nat→Value)(hs:∀dd ty pos af g,execOp (Af e') ⟨dd,o,ty,pos,af,g⟩=s.bind fun v=>Sem.pure (Next.value v))
  (h:∀ρ σ Q,(∀r,Q (mk r) ((r,.obj (.cells vs.toArray el (0,0)))::σ))→wpS P ρ s σ Q) (hv:VR R l vs) (hx:∀R' r,R' m.nx=some (r,0)→V1 R' x (mk r)):Axn P o R e' m x (m.add (.cells l)) :=
 Anw (c:=0) s mk hs h (fun R' hR=>.cells (hv.mono hR) (Ahh _)) hx
theorem Atf(t:TypeId):Gb P (.alloc t):=fun R e e' m x m' he hg h=>by
 unfold opK at h
 simp only at h
 split at h
 ·rename_i z hz
  split at h
  ·rename_i c hc
   obtain⟨rfl,rfl⟩:=Fm h
   obtain⟨v,hv,rfl⟩:=Mf hz
   refine .inr (Akq (vs:=v.cells.toList) (el:=t) (Instr.alloc t true (.tuple #[])) (fun r=>.pointer (some ⟨r,0,none⟩)) (fun _ _ _ _ _=>rfl) (fun ρ σ Q hq=>?_) ((vOf R v).cells hc) fun R' r hr=>.p hr .nil)
   show wpS P ρ ((zeroValue t).bind _) σ _
   rw[Ad]
   refine Jz hv ?_
   show wpS P ρ ((newVar t v).bind _) σ _
   rw[Ad]
   refine Ik fun r=>?_
   have:=hq r
   rw[Ww]at this
   exact this
  ·cases h
 ·cases h
theorem Bcl(t:TypeId)(a:Operand):Gb P (.box t a):=fun R e e' m x m' he hg h=>by
 have ha:=Cj he hg a
 have h':(match ((rdK a).run e).cells with|some c=>OR.v (.p m.nx 0) (m.add (.cells c))|none=>.bad) = .v x m':=h
 split at h'
 ·rename_i c hc
  obtain⟨rfl,rfl⟩:=Fm h'
  refine .inr (Akq (vs:=(Af e' a).cells.toList) (el:=t) (Instr.box t (Af e' a)) (fun r=>.pointer (some ⟨r,0,none⟩)) (fun _ _ _ _ _=>rfl) (fun ρ σ Q hq=>?_) (ha.cells hc) fun R' r hr=>.p hr .nil)
  show wpS P ρ ((newVar t (Af e' a)).bind _) σ _
  rw[Ad]
  refine Ik fun r=>?_
  have:=hq r
  rw[Ww]at this
  exact this
 ·cases h'
theorem Amq(t:TypeId):Gb P (.makeMap t none):=fun R e e' m x m' he hg h=>by
 obtain⟨rfl,rfl⟩:=Fm h
 refine .inr (Anw (c:=0) (ob:=.map ([]:List MapEntry).toArray 0) (Instr.makeMap t none) (fun r=>.map (some r)) (fun _ _ _ _ _=>rfl) (fun ρ σ Q hq=>?_) (fun R' hR=>.map .nil .nil ⟨fun i e h=>(by cases h),rfl⟩) fun R' r hr=>.m hr .nil)
 show wpS P ρ ((newObj (.map #[] 0)).bind _) σ _
 rw[Ad]
 exact .inl ⟨rfl,fun r=>hq r⟩
theorem Ahj(t:TypeId)(s:Operand):Gb P (.makeChan t s):=fun R e e' m x m' he hg h=>by
 have hs:=Cj he hg s
 unfold opK at h
 simp only at h
 split at h
 ·rename_i dir el hT
  split at h
  ·rename_i ti hi
   have h':(match (rdK s).run e with
    | .i _ (.ofNat 0)=>OR.v (.c m.nx) (m.add .chan)
    | .i _ (.ofNat (n+1))=>match Nat.ble ti.bytes 4096,Nat.ble (n+1) 1000 with|true,true=>.v (.c m.nx) (m.add (.crowd (n+1) []))|_,_=>.bad
    | _=>.bad) = .v x m':=h
   split at h'
   ·rename_i k hu
    obtain⟨rfl,rfl⟩:=Fm h'
    rw[hu]at hs
    refine .inr ⟨.add m .chan,fun _=>Amx _,fun ρ σ σ₀ dd ty pos af g hm=>?_⟩
    obtain⟨L,G,hm⟩:=hm
    show wpS P ρ ((Instr.makeChan t (Af e' s)).bind fun v=>Sem.pure (Next.value v)) σ _
    rw[Ad,Jg hs]
    show wpS P ρ ((underlying t).bind _) σ _
    rw[Ad]
    refine Az hT ?_
    show wpS P ρ ((typeInfo el).bind _) σ _
    rw[Ad]
    refine Gj hi ?_
    have hmx:¬((0:Int)<0∨(0:Int)>IntKind.i64.max∨(ti.bytes:Int)*0>2^48-112):=by
     have:IntKind.i64.max=9223372036854775807:=by simp[IntKind.max,IntKind.signed,IntKind.bits]
     omega
    show wpS P ρ (if ((0:Int)<0∨(0:Int)>IntKind.i64.max∨(ti.bytes:Int)*0>2^48-112) then _ else _) σ _
    rw[if_neg hmx]
    show wpS P ρ ((newObj (.chan 0 #[] false 0 0 false)).bind _) σ _
    rw[Ad]
    refine .inr (.inl ⟨rfl,fun r=>?_⟩)
    exact⟨R.add m.nx (r,0),_,hm.fresh _,.inl rfl,.c XR.add_same .nil,hm.add .chan⟩
   ·rename_i k n hu
    split at h'
    ·rename_i a b
     have a:=lZ5 a
     have b:=lZ5 b
     obtain⟨rfl,rfl⟩:=Fm h'
     rw[hu]at hs
     refine .inr ⟨.add m _,fun _=>Amx _,fun ρ σ σ₀ dd ty pos af g hm=>?_⟩
     obtain⟨L,G,hm⟩:=hm
     show wpS P ρ ((Instr.makeChan t (Af e' s)).bind fun v=>Sem.pure (Next.value v)) σ _
     rw[Ad,Jg hs]
     show wpS P ρ ((underlying t).bind _) σ _
     rw[Ad]
     refine Az hT ?_
     show wpS P ρ ((typeInfo el).bind _) σ _
     rw[Ad]
     refine Gj hi ?_
     have hmx:¬(((n+1:Nat):Int)<0∨((n+1:Nat):Int)>IntKind.i64.max∨(ti.bytes:Int)*((n+1:Nat):Int)>2^48-112):=by
      have d:IntKind.i64.max=9223372036854775807:=by simp[IntKind.max,IntKind.signed,IntKind.bits]
      have j:ti.bytes*(n+1)≤4096*1000:=Aey a b
      have f:(ti.bytes:Int)*((n+1:Nat):Int)=((ti.bytes*(n+1):Nat):Int):=by push_cast;rfl
      rw[d,f]
      omega
     show wpS P ρ (if (((n+1:Nat):Int)<0∨((n+1:Nat):Int)>IntKind.i64.max∨(ti.bytes:Int)*((n+1:Nat):Int)>2^48-112) then _ else _) σ _
     rw[if_neg hmx]
     show wpS P ρ ((newObj (.chan (n+1) #[] false 0 0 false)).bind _) σ _
     rw[Ad]
     refine .inr (.inr ⟨n+1,rfl,fun r=>?_⟩)
     exact⟨R.add m.nx (r,0),_,hm.fresh _,.inl rfl,.c XR.add_same .nil,hm.add (.crowd (Rs:=[]) trivial)⟩
    ·cases h'
   ·cases h'
  ·cases h
 ·cases h
end
end
section
open Go
section
variable{P:Program}{R:XR}{e:Tr CV}{e':Env}{m m':Mem}{x:CV}{ρ:Ro}{σ σ₀:Own}{L:List (Nat×Nat×Res)}{G:Own}{t:TypeId}
theorem Axb{k off n:Nat}{r:List CV}(h:m.read k off n=some r):∃l,m.row k=some l∧n≤(l.drop off).length∧r=(l.drop off).take n:=by
 unfold Mem.read at h
 cases hr:m.row k with
 | none=>rw[hr]at h;cases h
 | some l =>
  rw[hr]at h
  simp only[Uf]at h
  obtain⟨b,c⟩:=Ui _ _ _ h
  exact⟨l,rfl,b,c⟩
/-- Cells of a row are read. -/
theorem MemR.cells(hm:MemR R m ρ σ σ₀ L G){k off n:Nat}{l r:List CV}(hk:m.row k=some l)(hn:n≤(l.drop off).length)(hr:r=(l.drop off).take n) :
  ∃(b c:Nat) (vs:List Value),R k=some (b,c)∧VR R r vs∧vs.length=n∧(∀Q:Array Value→Own→Prop,Q vs.toArray σ→wpS P ρ (loadCells ⟨b,off,none⟩ n) σ Q)∧∀v,vs=[v]→∀Q:Value→Own→Prop,Q v σ→wpS P ρ (load ⟨b,off,none⟩) σ Q:=by
 obtain⟨b,c,l',rest,t,fz,h,d,e⟩:=hm.row hk
 have hv:VR R r ((l'.drop off).take n):=by rw[hr];exact(e.drop off).take n
 have g:((l'.drop off).take n).length=n:=by
  have:=(e.drop off).len
  rw[Ea];omega
 have f:∀j v,((l'.drop off).take n)[j]?=some v→Gy (.cells (l'++rest).toArray t fz) (off+j)=some v:=fun j v hj=>by
  have hj':=(Ig.1 hj).1
  rw[List.getElem?_take_of_lt (by omega),Yx]at hj
  simp only[Gy,Ib]
  rw[Ahm (Ig.1 hj).1];exact hj
 refine⟨b,c,_,h,hv,g,fun Q hq=>?_,fun v i Q hq=>?_⟩
 ·show wpS P ρ (loadCellsFrom ⟨b,off,none⟩ 0 n #[]) σ Q
  have:=Ff (P:=P) (a:=⟨b,off,none⟩) rfl d (Q:=Q) ((l'.drop off).take n) 0 #[] (fun j v hj=>by simpa using f j v hj) (by simpa using hq)
  rwa[g]at this
 ·refine⟨rfl,rfl,_,v,d,?_,hq⟩
  have:=f 0 v (by rw[i];rfl)
  simpa using this
/-- Cells are stored,where nothing is frozen. -/
theorem Wa{Q:Unit→Own→Prop}{r i:Nat}{fz:Nat×Nat}:∀(vs:List Value) (a:Addr) (k:Nat) (c:List Value) (σ:Own),a.block=r→a.spot=none→(∀v∈vs,single v=true)→σ[i]?=some (r,.obj (.cells c.toArray t fz))→a.off+k+vs.length≤c.length→Axp c.length fz →
  Q () (σ.set i (r,.obj (.cells (over c (a.off+k) vs).toArray t fz)))→wpS P ρ (storeCells a vs k) σ Q:=by
 intro vs
 induction vs with
 | nil =>
  intro a k c σ _ _ _ hi _ _ hq
  have:σ.set i (r,Res.obj (.cells (over c (a.off+k) []).toArray t fz))=σ:=by
   apply Ats
   intro j
   rw[Rk]
   split
   ·rename_i e;subst e
    split
    ·exact hi.symm
    ·rename_i h;rw[Og (by omega)]
   ·rfl
  rw[this]at hq
  exact hq
 | cons v vs ih =>
  intro a k c σ ha hs hv hi hl hf hq
  simp only[lZ2]at hl
  show wpS P ρ ((store (a.add k) v).bind _) σ Q
  rw[Ad,Agj a hs]
  refine⟨rfl,rfl,hv v mC,i,c.toArray,t,fz,by rw[ha];exact hi,by simp;omega,hf _ (by show a.off+k<_;omega),?_⟩
  have hlt:i<σ.length:=by
   rcases Mg i σ.length with h|h
   ·exact h
   ·rw[Og h]at hi;cases hi
  refine ih a (k+1) (c.set (a.off+k) v) _ ha hs (fun w hw=>hv w (lZ0 _ hw)) ?_ (by rw[Sm];omega) (by rw[Sm];exact hf) ?_
  ·rw[Rk]
   simp only[if_true,hlt]
   rw[ha];simp
  ·rw[Awg]
   rw[over]at hq
   rw[show a.off+(k+1)=a.off+k+1 by omega]
   exact hq
theorem Atn(t:TypeId)(a v:Operand):Gb P (.store t a v):=fun R e e' m x m' he hg h=>by
 have ha:=Cj he hg a
 have hv:=Cj he hg v
 unfold opK at h
 simp only at h
 split at h
 ·rename_i n hn
  have h':(match (rdK a).run e with
   | .p k off=>match ((rdK v).run e).cells with
    | some c=>match Nat.beq (xLen c) n with
     | true=>match m.store k off c with|some m=>OR.v .undef m|none=>.bad
     | false=>.bad
    | none=>.bad
   | _=>.bad) = .v x m':=h
  split at h'
  ·rename_i k off hu
   rw[hu]at ha
   obtain⟨b,E,hR,hav⟩:=Aru ha
   split at h'
   ·rename_i c hc
    have hcv:=hv.cells hc
    split at h'
    ·rename_i y
     have y:=lZ7 y
     rw[Fv,hcv.len]at y
     cases hst:m.store k off c with
     | none=>rw[hst]at h';cases h'
     | some m1 =>
      rw[hst]at h'
      obtain⟨rfl,rfl⟩:=Fm h'
      unfold Mem.store at hst
      split at hst
      ·cases hst
      ·rename_i hall
       have hsg:=hcv.singles hall
       have go:∀{o o':CO},m.M.get k=some (.own o)→o ≠ .dead→m1=m.put k o'→(∀{R:XR} {d:Nat} {rs:Res},VR R c (Af e' v).cells.toList→ObjR R d o rs→∃cs t fz,rs = .obj (.cells cs.toArray t fz)∧off+(Af e' v).cells.toList.length≤cs.length∧Axp cs.length fz∧ObjR R d o' (.obj (.cells (over cs off (Af e' v).cells.toList).toArray t fz))) →
         Axn P (.store t a v) R e' m .undef m1:=fun {o o'} hget hd hm1 hobj=>by
        subst hm1
        refine⟨.put _ _ _,fun hx=>(by cases hx),fun ρ σ σ₀ dd ty pos af g hm=>?_⟩
        obtain⟨L,G,hm⟩:=hm
        obtain⟨D,F,rs,i,j,f,u,q⟩:=hm.at hget hd
        rw[hR]at j;cases j
        obtain⟨cs,t',fz,rfl,w,z,C⟩:=hobj hcv u
        show wpS P ρ ((Instr.storeAt t (Af e' a) (Af e' v)).bind fun _=>Sem.pure Next.skip) σ _
        rw[Ad,hav]
        show wpS P ρ ((sizeOf t).bind _) σ _
        rw[Ad]
        refine Dx (Je hn) ?_
        have hsz:(Af e' v).cells.size=n:=by rw[←y];simp
        show wpS P ρ (if (Af e' v).cells.size≠n then _ else storeCells ⟨b,off,none⟩ (Af e' v).cells.toList) σ _
        rw[if_neg (by simpa using hsz)]
        refine Wa _ ⟨b,off,none⟩ 0 cs σ rfl rfl hsg f (by simpa using w) z ?_
        rw[Vn]
        exact⟨R,undef,.refl,.inr ⟨rfl,rfl⟩,.t .nil .nil,hm.put q hR f C⟩
       split at hst
       ·rename_i l hget
        split at hst
        ·rename_i r hs
         cases hst
         refine .inr (go hget (by simp) rfl fun {R d rs} hw ho=>?_)
         cases ho with
         | @cells _ l' t1 fz j f =>
          obtain⟨u,q⟩:=j.set hs hw
          exact⟨l',t1,fz,rfl,u,f,.cells q (by rw[Lo];exact f)⟩
        ·cases hst
       ·rename_i n' l hget
        split at hst
        ·rename_i r hs
         cases hst
         refine .inr (go hget (by simp) rfl fun {R d rs} hw ho=>?_)
         cases ho with
         | @grow _ _ l' rest t1 fz j f u q =>
          obtain⟨w,z⟩:=j.set hs hw
          refine⟨l'++rest,t1,fz,rfl,by rw[lZ1];omega,by rw[lZ1];exact q,?_⟩
          have B:over (l'++rest) off (Af e' v).cells.toList=over l' off (Af e' v).cells.toList++rest:=by
           rw[Qe _ _ _ (by rw[lZ1];omega),Qe _ _ _ w,Biq (by omega),Bip w]
           simp
          rw[B]
          exact .grow z (by rw[Lo];exact f) u (by rw[Lo];exact q)
        ·cases hst
       ·cases hst
    ·cases h'
   ·cases h'
  ·cases h'
 ·cases h
end
end
section
open Go
section
variable{P:Program}{R:XR}{e:Tr CV}{e':Env}{m m':Mem}{x:CV}{ρ:Ro}{σ σ₀:Own}{L:List (Nat×Nat×Res)}{G:Own}{t:TypeId}
theorem Xx{n:Nat}(h:xZeroC P t=some n):∃i v,P.info? t=some i∧i.zero=some v∧v.cells.size=n:=by
 unfold xZeroC at h
 cases hi:P.info? t with
 | none=>rw[hi]at h;cases h
 | some i =>
  rw[hi]at h
  simp only at h
  cases hz:i.zero with
  | none=>rw[hz]at h;cases h
  | some v=>rw[hz]at h;cases h;exact⟨i,v,rfl,hz,rfl⟩
theorem Abx(R:XR){c:List CV}{z:List Value}(h:VR R c z):∀(ln:Nat),VR R (xRepL c ln) ((List.replicate ln z).flatten)
 | 0=>.nil
 | n+1=>by
  rw[Bdf,Apv]
  show VR R (xApp c (xRepL c n)) _
  rw[Ho]
  exact h.app (Abx R h n)
theorem Tz(z:Array Value)(n:Nat)(hn:z.size=n)(h0:0<n):∀(ln:Nat),(List.range (ln*n)).map (fun i=>z[i%z.size]!)=(List.replicate ln z.toList).flatten
 | 0=>by simp
 | k+1=>by
  have e0:(k+1)*n=n+k*n:=by rw[Pp,Ael,Aei]
  rw[e0,List.range_add,Ir,Bdf,Apv,←Tz z n hn h0 k,List.map_map]
  congr 1
  ·apply Ats
   intro i
   rw[Oj]
   by_cases hi:i<n
   ·rw[Avy hi]
    simp only[Aes,hn,Nat.mod_eq_of_lt hi]
    rw[Avu,getElem!_pos z i (by omega),Bcx (by omega)]
   ·rw[Og (by simpa using hi),Avu,Azb (by omega)];rfl
  ·apply List.map_congr_left
   intro i _
   simp only[Function.comp,hn,Nat.add_mod_left]
/-- A slice is appended to. -/
theorem Apc{t u:TypeId}{n:Nat}{el el':TypeId}{ti:TypeInfo}{z:Value}{c:Call}(hc:c.callee = .builtin .append)(hts:c.argTypes = #[t,u])(hT:P.underlying t=some (.slice el))(hU:P.underlying u=some (.slice el'))
  (hi:P.info? el=some ti) (hn:ti.size=n) (hn1:1≤n) (hb:ti.bytes≤4096) (hz:ti.zero=some z) (hzn:z.cells.size=n)
  {args:List CV} {vs:List Value} (hv:VR R args vs) (ha:c.args.map (Af e')=vs.toArray) (h:(appendK n).run args m = .v x m'):Axn P (.call c) R e' m x m':=by
 obtain⟨cl,az,ts⟩:=c
 simp only at hc hts ha
 subst hc hts
 have exe:∀dd ty pos af g,execOp (Af e') ⟨dd,.call ⟨.builtin .append,az,#[t,u]⟩,ty,pos,af,g⟩=((Builtin.append_ #[t,u] ty vs.toArray).bind fun v=>Sem.pure (Next.value v)):=fun dd ty pos af g=>by
  obtain⟨cs,y⟩:=Qk (b:=.append) (az:=az) (ts:=#[t,u]) (dd:=dd) (ty:=ty) (pos:=pos) (af:=af) (g:=g) (Af e')
  rw[y,ha];rfl
 unfold appendK at h
 simp only at h
 split at h
 ·rename_i s k2 off2 lx kn2 c2
  split at h
  ·cases h
  ·rename_i cx hcx
   split at h
   ·rename_i hlx0 hall
    have hlx:lx≠0:=fun e=>by subst e;simp at hlx0
    obtain⟨sv,xv,rfl⟩:∃sv xv,vs=[sv,xv]:=by
     have:=hv.len
     match vs,this with
     | [a,b],_=>exact⟨a,b,rfl⟩
    obtain⟨hs,hx'⟩:=VR.cons_iff.1 hv
    obtain⟨l2,aa,a2,a0⟩:=Axb hcx
    have U:∀(ρ:Ro) (σ σ₀:Own) (ty:TypeId) (N:Option Addr) (f p:Nat) (ls:List CV) (hm:MemX R m ρ σ σ₀) (hsv:sv = .slice N f p) (hsz:f+lx≤1000000)
      (K:∃ovs:List Value,VR R ls ovs∧ovs.length=f*n∧∀Q:Array Value→Own→Prop,Q ovs.toArray σ→wpS P ρ (Builtin.firstCells n f sv) σ Q) (Q:Value→Own→Prop)
      (a4:f+lx≤p→∀cvs:List Value,VR R cx cvs→cvs.length=lx*n→(∀v∈cvs,single v=true)→wpS P ρ (Sem.bind (match N with|some a=>storeCells (a.add (f*n)) cvs|none=>pure ()) fun _=>pure (.slice N (f+lx) p)) σ Q)
      (Z:¬f+lx≤p→∀r nc (all rest:List Value),VR R (ls++cx) all→all.length=(f+lx)*n→all.length+rest.length=nc*n→f+lx≤nc→Q (.slice (some ⟨r,0,none⟩) (f+lx) nc) ((r,.obj (.cells (all++rest).toArray el (0,0)))::σ)),
      wpS P ρ (Builtin.append_ #[t,u] ty [sv,xv].toArray) σ Q:=by
     intro ρ σ σ₀ ty N f p ls hm hsv hsz K Q a4 Z
     obtain⟨L,G,hm⟩:=hm
     obtain⟨xb,xd,hxR,hxv⟩:=Tc hx'
     obtain⟨b2,ac,cvs,y,F,J,O,_⟩:=hm.cells (P:=P) aa a2 a0
     rw[hxR]at y;cases y
     replace J:cvs.length=lx*n:=J
     obtain⟨ovs,a8,a9,a3⟩:=K
     have a1:∀Q:Array Value→Own→Prop,Q cvs.toArray σ→wpS P ρ (Builtin.firstCells n lx xv) σ Q:=fun Q hq=>by rw[hxv];exact O Q hq
     have hsg:=F.singles hall
     have ab:Builtin.lenOf xv=pure lx:=by rw[hxv];rfl
     rw[show [sv,xv].toArray = #[sv,xv] from rfl]
     unfold Builtin.append_
     show wpS P ρ ((underlying t).bind _) _ _
     rw[Ad]
     refine Az hT ?_
     simp only[hsv]
     show wpS P ρ ((sizeOf el).bind _) _ _
     rw[Ad]
     refine Dx ⟨ti,hi,hn⟩ ?_
     show wpS P ρ ((underlying u).bind _) _ _
     rw[Ad]
     refine Az hU ?_
     show wpS P ρ ((Builtin.lenOf xv).bind _) _ _
     rw[ab]
     show wpS P ρ (if f+lx≤p then (Builtin.firstCells n lx xv).bind _ else (typeInfo el).bind _) _ _
     by_cases B:f+lx≤p
     ·rw[if_pos B,Ad]
      refine a1 _ ?_
      have:=a4 B cvs F J hsg
      cases N with
      | none=>exact this
      | some a=>exact this
     ·rw[if_neg B,Ad]
      refine Gj hi ?_
      have a5:¬(((f+lx:Nat):Int)>IntKind.i64.max∧((false=true)∨ti.bytes=0)):=by
       intro⟨y,_⟩
       have:IntKind.i64.max=9223372036854775807:=by simp[IntKind.max,IntKind.signed,IntKind.bits]
       omega
      show wpS P ρ (if ((f+lx:Nat):Int)>IntKind.i64.max∧((false=true)∨ti.bytes=0) then _ else (typeInfo el).bind _) _ _
      rw[if_neg a5,Ad]
      refine Gj hi ?_
      have a6:¬(Builtin.nextslicecap (f+lx) p*ti.bytes>2^48):=by
       have y:=Alk (need:=f+lx) (cap:=p) (by omega)
       have F:Builtin.nextslicecap (f+lx) p*ti.bytes≤(2*(f+lx)+1000)*4096:=Aey y hb
       omega
      show wpS P ρ (if Builtin.nextslicecap (f+lx) p*ti.bytes>2^48 then _ else (choose (.appendCap (f+lx) p el)).bind _) _ _
      rw[if_neg a6,Ad]
      show (if (Question.appendCap (f+lx) p el).forced then _ else ∀tt,_)
      rw[if_neg (by simp[Question.forced])]
      intro tt
      have hnc:f+lx≤(Question.appendCap (f+lx) p el).cut tt:=by simp[Question.cut]
      generalize (Question.appendCap (f+lx) p el).cut tt=nc at hnc
      show wpS P ρ ((typeInfo el).bind _) _ _
      rw[Ad]
      refine Gj hi ?_
      show wpS P ρ ((askRoom (nc*ti.bytes)).bind _) _ _
      rw[Ad]
      have X:∀{Q:Unit→Own→Prop} {σ':Own},Q () σ'→wpS P ρ (askRoom (nc*ti.bytes)) σ' Q:=fun hq=>by
       unfold askRoom
       split
       ·exact⟨rfl,hq⟩
       ·exact hq
      refine X ?_
      show wpS P ρ ((Builtin.firstCells n f (.slice N f p)).bind _) _ _
      rw[Ad]
      rw[hsv]at a3
      refine a3 _ ?_
      show wpS P ρ ((Builtin.firstCells n lx xv).bind _) _ _
      rw[Ad]
      refine a1 _ ?_
      show wpS P ρ ((zeroValue el).bind _) _ _
      rw[Ad]
      refine Jz ⟨ti,hi,hz⟩ ?_
      show wpS P ρ ((newRow el (ovs.toArray++cvs.toArray++Builtin.zeroCells z.cells (nc-(f+lx)))).bind _) _ _
      rw[Ad]
      refine Ik fun r=>?_
      have e4:(ovs.toArray++cvs.toArray++Builtin.zeroCells z.cells (nc-(f+lx)))=((ovs++cvs)++(Builtin.zeroCells z.cells (nc-(f+lx))).toList).toArray:=by
       apply Array.ext';simp
      rw[e4]
      have e5:(Builtin.zeroCells z.cells (nc-(f+lx))).toList.length=(nc-(f+lx))*n:=by
       simp[Builtin.zeroCells,hzn]
      have e6:(ovs++cvs).length=(f+lx)*n:=by rw[lZ1,a9,J,←Pp]
      exact Z B r nc (ovs++cvs) _ (a8.app F) e6 (by rw[e6,e5,←Pp];congr 1;omega) hnc
    split at h
    ·split at h
     ·rename_i hle
      have hle:=lZ5 hle
      obtain⟨rfl,rfl⟩:=Fm h
      have hsv:=Ase hs
      refine⟨.add _ _,fun _=>Amx _,fun ρ σ σ₀ dd ty pos af g hm=>?_⟩
      rw[exe,Ad]
      refine U ρ σ σ₀ ty none 0 0 [] hm hsv (by omega) ⟨[],.nil,by simp,fun Q hq=>by rw[hsv];exact hq⟩ _ (fun B=>absurd B (by omega)) fun _ r nc all rest j w q C=>?_
      obtain⟨L,G,hm⟩:=hm
      refine⟨R.add m.nx (r,nc),_,hm.fresh _,.inl rfl,?_,hm.add (.grow (j.mono (hm.fresh _)) q hn1 (Ahh _))⟩
      rw[Po]
      exact .slU XR.add_same .nil
     ·cases h
    ·rename_i k off ls c1
     split at h
     ·rename_i n' l hget
      split at h
      ·rename_i H D M I E
       have H:=lZ7 H
       have D:=lZ7 D
       have M:=lZ7 M
       have I:=lZ7 I
       have E:=lZ5 E
       subst H D M
       rw[Fv]at I
       replace I:l.length=ls*n:=I
       replace E:ls+lx≤1000000:=E
       obtain⟨rfl,rfl⟩:=Fm h
       rw[Ho]
       obtain⟨sb,sd,hsR,hsv⟩:=Tc hs
       simp only[Ry,Nat.sub_zero]at hsv
       refine⟨(LogOk.put _ _ _).trans (.add _ _),fun _=>Amx _,fun ρ σ σ₀ dd ty pos af g hm=>?_⟩
       rw[exe,Ad]
       have T:=hm
       obtain⟨L,G,hm⟩:=hm
       obtain⟨b,d,rs,i,y,F,J,O⟩:=hm.at hget (by simp)
       rw[hsR]at y;cases y
       have Y:m.row k=some l:=by unfold Mem.row;rw[hget];rfl
       have K:∃ovs:List Value,VR R l ovs∧ovs.length=ls*n∧∀Q:Array Value→Own→Prop,Q ovs.toArray σ→wpS P ρ (Builtin.firstCells n ls sv) σ Q:=by
        obtain⟨b3,c3,ovs,j,w,q,C,_⟩:=hm.cells (P:=P) (off:=0) (n:=ls*n) Y (by rw[Vi,I];exact Et _) rfl
        rw[hsR]at j;cases j
        rw[Vi,Avs (by rw[I];exact Et _)]at w
        exact⟨ovs,w,q,fun Q hq=>by rw[hsv];exact C Q hq⟩
       refine U ρ σ σ₀ ty (some ⟨sb,0,none⟩) ls sd l T hsv E K _ (fun B cvs j w q=>?_) fun _ r nc all rest j w q C=>?_
       ·cases J with
        | @grow _ _ l' rest t1 fz o1 o2 o3 o4 =>
         have hl':=o1.len
         show wpS P ρ (Sem.bind (storeCells ((⟨sb,0,none⟩:Addr).add (ls*n)) cvs) _) σ _
         rw[Ad,Ld,Po]
         have W:ls*n+cvs.length≤(l'++rest).length:=by
          rw[w,lZ1,o2,←Pp];exact Apo _ B
         refine Wa cvs ⟨sb,ls*n,none⟩ 0 (l'++rest) σ rfl rfl q F (by simpa using W) (by rw[lZ1];exact o4) ?_
         simp only[Vn]
         have V:over (l'++rest) (ls*n) cvs=(l'++cvs)++rest.drop cvs.length:=by
          rw[Qe _ _ _ W,←I,hl',Aqi,lZ9]
          congr 2
          rw[List.drop_append,Avr (by omega)]
          simp
         rw[V]
         have ag:cvs.length≤rest.length:=by
          rw[lZ1,←hl',I]at W;omega
         refine⟨R.add m.nx (sb,sd),_,hm.fresh _,.inl rfl,?_,hm.move O F (.grow ((o1.app j).mono (hm.fresh _)) ?_ o3 ?_)⟩
         ·exact .slU XR.add_same .nil
         ·rw[lZ1,En];omega
         ·rw[lZ1,En,show l'.length+cvs.length+(rest.length-cvs.length)=l'.length+rest.length by omega];exact o4
       ·have hob:∃ob,rs = .obj ob:=by cases J with|grow=>exact⟨_,rfl⟩
        obtain⟨ob,rfl⟩:=hob
        obtain⟨L',G',hm'⟩:=hm.kill O
        have hfr:=hm'.fresh (r,nc)
        refine⟨R.add m.nx (r,nc),_,hm.fresh _,.inl rfl,.slU XR.add_same .nil,?_⟩
        exact hm'.add (.grow (j.mono hfr) q hn1 (Ahh _))
      ·rename_i H D M I E
       have H:=lZ7 H
       have D:=lZ7 D
       have M:=lZ7 M
       have E:=lZ5 E
       subst H D M
       replace E:ls+lx≤1000000:=E
       split at h
       ·rename_i l2 hset
        replace hset:xSetL (ls*n) cx l=some l2:=hset
        obtain⟨rfl,rfl⟩:=Fm h
        obtain⟨sb,sd,hsR,hsv⟩:=Tc hs
        simp only[Ry,Nat.sub_zero]at hsv
        refine⟨.put _ _ _,fun h=>(by cases h),fun ρ σ σ₀ dd ty pos af g hm=>?_⟩
        rw[exe,Ad]
        have T:=hm
        obtain⟨L,G,hm⟩:=hm
        obtain⟨b,d,rs,i,y,F,J,O⟩:=hm.at hget (by simp)
        rw[hsR]at y;cases y
        obtain⟨ae,_⟩:=Ags _ _ _ _ hset
        have ad:cx.length=lx*n:=by
         rw[a0,Ea]
         exact Nat.min_eq_left a2
        have Y:m.row k=some l:=by unfold Mem.row;rw[hget];rfl
        have K:∃ovs:List Value,VR R (l.take (ls*n)) ovs∧ovs.length=ls*n∧∀Q:Array Value→Own→Prop,Q ovs.toArray σ→wpS P ρ (Builtin.firstCells n ls sv) σ Q:=by
         obtain⟨b3,c3,ovs,j,w,q,C,_⟩:=hm.cells (P:=P) (off:=0) (n:=ls*n) Y (by rw[Vi];omega) rfl
         rw[hsR]at j;cases j
         rw[Vi]at w
         exact⟨ovs,w,q,fun Q hq=>by rw[hsv];exact C Q hq⟩
        cases J with
        | @grow _ _ l' rest t1 fz o1 o2 o3 o4 =>
         have hl':=o1.len
         have X:ls+lx≤sd:=by
          have:(ls+lx)*n≤sd*n:=by rw[Pp];omega
          exact Nat.le_of_mul_le_mul_right this o3
         refine U ρ σ σ₀ ty (some ⟨sb,0,none⟩) ls sd (l.take (ls*n)) T hsv E K _ (fun B cvs j w q=>?_) fun B=>absurd X B
         show wpS P ρ (Sem.bind (storeCells ((⟨sb,0,none⟩:Addr).add (ls*n)) cvs) _) σ _
         rw[Ad,Ld,Po]
         obtain⟨C,g5⟩:=o1.set hset j
         refine Wa cvs ⟨sb,ls*n,none⟩ 0 (l'++rest) σ rfl rfl q F (by rw[lZ1];simpa using Mm C (Bdn _ _)) (by rw[lZ1];exact o4) ?_
         simp only[Vn]
         have V:over (l'++rest) (ls*n) cvs=over l' (ls*n) cvs++rest:=by
          rw[Qe _ _ _ (by rw[lZ1];omega),Qe _ _ _ C,Biq (by omega),Bip C]
          simp
         rw[V]
         exact⟨R,_,.refl,.inl rfl,.slU hsR .nil,hm.put O hsR F (.grow g5 (by rw[Lo];exact o2) o3 (by rw[Lo];exact o4))⟩
       ·cases h
      ·cases h
     ·cases h
    ·rename_i k off ls c1
     split at h
     ·rename_i co hco
      split at h
      ·rename_i H D M
       have H:c1<ls+lx:=lZ5 H
       have D:ls+lx≤1000000:=lZ5 D
       obtain⟨rfl,rfl⟩:=Fm h
       rw[Ho]
       obtain⟨sb,sd,hsR,hsv⟩:=Tc hs
       simp only[Ry]at hsv
       obtain⟨l,hr,hn,a7⟩:=Axb hco
       refine⟨.add _ _,fun _=>Amx _,fun ρ σ σ₀ dd ty pos af g hm=>?_⟩
       rw[exe,Ad]
       have T:=hm
       obtain⟨L,G,hm⟩:=hm
       have K:∃ovs:List Value,VR R co ovs∧ovs.length=ls*n∧∀Q:Array Value→Own→Prop,Q ovs.toArray σ→wpS P ρ (Builtin.firstCells n ls sv) σ Q:=by
        obtain⟨b3,c3,ovs,j,w,q,C,_⟩:=hm.cells (P:=P) hr hn a7
        rw[hsR]at j;cases j
        exact⟨ovs,w,q,fun Q hq=>by rw[hsv];exact C Q hq⟩
       refine U ρ σ σ₀ ty (some ⟨sb,off,none⟩) ls c1 co T hsv D K _ (fun B=>absurd B (by omega)) fun _ r nc all rest j w q C=>?_
       exact⟨R.add m.nx (r,nc),_,hm.fresh _,.inl rfl,.slU XR.add_same .nil,hm.add (.grow (j.mono (hm.fresh _)) q hn1 (Ahh _))⟩
      ·cases h
     ·cases h
    ·cases h
   ·cases h
 ·cases h
/-- Fw values are appended to nothing. -/
theorem Amm{t u:TypeId}{n:Nat}{el:TypeId}{ik:IntKind}{ti:TypeInfo}{z:Value}{cz:List CV}{c:Call}(hc:c.callee = .builtin .append)(hts:c.argTypes = #[t,u])(hT:P.underlying t=some (.slice el))(hU:P.underlying u=some (.int ik))
  (hi:P.info? el=some ti) (hn:ti.size=n) (hn1:1≤n) (hb:ti.bytes≤4096) (hz:ti.zero=some z) (hzn:z.cells.size=n) (hcz:VR R cz z.cells.toList)
  {args:List CV} {vs:List Value} (hv:VR R args vs) (ha:c.args.map (Af e')=vs.toArray) (h:(appendZ n cz).run args m = .v x m'):Axn P (.call c) R e' m x m':=by
 obtain⟨cl,az,ts⟩:=c
 simp only at hc hts ha
 subst hc hts
 have exe:∀dd ty pos af g,execOp (Af e') ⟨dd,.call ⟨.builtin .append,az,#[t,u]⟩,ty,pos,af,g⟩=((Builtin.append_ #[t,u] ty vs.toArray).bind fun v=>Sem.pure (Next.value v)):=fun dd ty pos af g=>by
  obtain⟨cs,d⟩:=Qk (b:=.append) (az:=az) (ts:=#[t,u]) (dd:=dd) (ty:=ty) (pos:=pos) (af:=af) (g:=g) (Af e')
  rw[d,ha];rfl
 unfold appendZ at h
 simp only at h
 split at h
 ·rename_i k lx
  split at h
  ·rename_i e f
   have e:=lZ5 e
   have f:=lZ5 f
   obtain⟨rfl,rfl⟩:=Fm h
   obtain⟨sv,xv,rfl⟩:∃sv xv,vs=[sv,xv]:=by
    have:=hv.len
    match vs,this with
    | [a,b],_=>exact⟨a,b,rfl⟩
   obtain⟨hs,hx'⟩:=VR.cons_iff.1 hv
   have hxv:=Jg (VR.cons_iff.1 hx').1
   have hsv:=Ase hs
   subst hxv hsv
   refine⟨.add _ _,fun _=>Amx _,fun ρ σ σ₀ dd ty pos af g hm=>?_⟩
   obtain⟨L,G,hm⟩:=hm
   rw[exe,Ad]
   rw[show [Value.slice none 0 0,Value.int k (Int.ofNat lx)].toArray = #[Value.slice none 0 0,Value.int k (Int.ofNat lx)] from rfl]
   unfold Builtin.append_
   show wpS P ρ ((underlying t).bind _) _ _
   rw[Ad]
   refine Az hT ?_
   show wpS P ρ ((sizeOf el).bind _) _ _
   rw[Ad]
   refine Dx ⟨ti,hi,hn⟩ ?_
   show wpS P ρ ((underlying u).bind _) _ _
   rw[Ad]
   refine Az hU ?_
   have hw:IntKind.i64.wrap (Int.ofNat lx)=(lx:Int):=Bo (z':=(lx:Int)) rfl (by omega) (by omega)
   show wpS P ρ (if IntKind.i64.wrap (Int.ofNat lx)<0 then _ else (typeInfo el).bind _) _ _
   rw[hw,if_neg (by omega),Ad]
   refine Gj hi ?_
   have C:¬((lx:Int)*(ti.bytes:Int)>2^48):=by
    have q:lx*ti.bytes≤1000000*4096:=Aey f hb
    have w:(lx:Int)*(ti.bytes:Int)=((lx*ti.bytes:Nat):Int):=by push_cast;rfl
    rw[w];omega
   show wpS P ρ (if (lx:Int)*(ti.bytes:Int)>2^48 then _ else _) _ _
   rw[if_neg C]
   simp only[Amw]
   show wpS P ρ (if 0+lx≤0 then _ else (typeInfo el).bind _) _ _
   rw[if_neg (by omega),Ad]
   refine Gj hi ?_
   have y:¬(((0+lx:Nat):Int)>IntKind.i64.max∧(True∨ti.bytes=0)):=by
    intro⟨d,_⟩
    have:IntKind.i64.max=9223372036854775807:=by simp[IntKind.max,IntKind.signed,IntKind.bits]
    omega
   rw[if_neg y]
   show wpS P ρ ((typeInfo el).bind _) _ _
   rw[Ad]
   refine Gj hi ?_
   have B:¬(Builtin.nextslicecap (0+lx) 0*ti.bytes>2^48):=by
    have d:=Alk (need:=0+lx) (cap:=0) (by omega)
    have q:Builtin.nextslicecap (0+lx) 0*ti.bytes≤(2*(0+lx)+1000)*4096:=Aey d hb
    omega
   show wpS P ρ (if Builtin.nextslicecap (0+lx) 0*ti.bytes>2^48 then _ else (choose (.appendCap (0+lx) 0 el)).bind _) _ _
   rw[if_neg B,Ad]
   show (if (Question.appendCap (0+lx) 0 el).forced then _ else ∀tt,_)
   rw[if_neg (by simp[Question.forced])]
   intro tt
   have hnc:0+lx≤(Question.appendCap (0+lx) 0 el).cut tt:=by simp[Question.cut]
   generalize (Question.appendCap (0+lx) 0 el).cut tt=nc at hnc
   show wpS P ρ ((typeInfo el).bind _) _ _
   rw[Ad]
   refine Gj hi ?_
   show wpS P ρ ((askRoom (nc*ti.bytes)).bind _) _ _
   rw[Ad]
   have E:∀{Q:Unit→Own→Prop} {σ':Own},Q () σ'→wpS P ρ (askRoom (nc*ti.bytes)) σ' Q:=fun hq=>by
    unfold askRoom
    split
    ·exact⟨rfl,hq⟩
    ·exact hq
   refine E ?_
   show wpS P ρ ((Builtin.firstCells n 0 (.slice none 0 0)).bind _) _ _
   have hf:∀Q:Array Value→Own→Prop,Q #[] σ→wpS P ρ (Builtin.firstCells n 0 (.slice none 0 0)) σ Q:=fun Q hq=>hq
   rw[Ad]
   refine hf _ ?_
   have F:1≤lx*n:=Aey e hn1
   simp only[Bool.not_true,Aep,if_false]
   rw[if_neg (by omega)]
   show wpS P ρ (((zeroValue el).bind _).bind _) _ _
   rw[Ad,Ad]
   refine Jz ⟨ti,hi,hz⟩ ?_
   show wpS P ρ ((zeroValue el).bind _) _ _
   rw[Ad]
   refine Jz ⟨ti,hi,hz⟩ ?_
   show wpS P ρ ((newRow el (#[]++Builtin.zeroCells z.cells lx++Builtin.zeroCells z.cells (nc-(0+lx)))).bind _) _ _
   rw[Ad]
   refine Ik fun r=>?_
   have i:(#[]++Builtin.zeroCells z.cells lx++Builtin.zeroCells z.cells (nc-(0+lx)))=((List.replicate lx z.cells.toList).flatten++(Builtin.zeroCells z.cells (nc-(0+lx))).toList).toArray:=by
    apply Array.ext';simp only[Builtin.zeroCells,Array.toList_append,Pj,Bdi,Array.toList_range]
    rw[Tz z.cells z.cells.size rfl (by omega) lx]
   rw[i]
   have j:(Builtin.zeroCells z.cells (nc-(0+lx))).toList.length=(nc-(0+lx))*n:=by
    simp[Builtin.zeroCells,hzn]
   have D:=Abx R hcz lx
   have p:((List.replicate lx z.cells.toList).flatten).length=lx*n:=by
    simp[hzn]
   refine⟨R.add m.nx (r,nc),_,hm.fresh _,.inl rfl,?_,hm.add (.grow (D.mono (hm.fresh _)) ?_ hn1 (Ahh _))⟩
   ·rw[Po]
    exact .slU XR.add_same .nil
   ·rw[p,j,←Pp];congr 1;omega
  ·cases h
 ·cases h
/-- Built-in functions. -/
theorem Amn(c:Call)(b:Builtin)(hc:c.callee = .builtin b):Gb P (.call c):=fun R e e' m x m' he hg h=>by
 obtain⟨vs,hv,ha⟩:=Xj (R:=R) he hg c.args
 have a:(builtinK P b c.argTypes.toList).run ((rdsK c.args.toList).run e) m = .v x m':=by
  unfold opK at h
  simp only[hc]at h
  exact h
 generalize (rdsK c.args.toList).run e=args at a hv
 have hts:c.argTypes=c.argTypes.toList.toArray:=by simp
 unfold builtinK at a
 split at a
 ·split at a
  ·rename_i t hl
   split at a
   ·rename_i el hT
    have h':(match args with
     | [.sn]=>OR.v (.i .i64 0) m
     | [.sl _ _ n _ _]=>.v (.i .i64 (.ofNat n)) m
     | _=>.bad) = .v x m':=a
    split at h'
    ·obtain⟨rfl,rfl⟩:=Fm h'
     cases vs with
     | nil=>cases hv
     | cons w ws =>
      obtain⟨hw,hws⟩:=VR.cons_iff.1 hv
      cases hws
      have:=Ase hw
      subst this
      refine .inl ⟨rfl,Hz hc ha (.i _ _ .nil) fun ty cs ρ σ=>?_⟩
      rw[hts,hl]
      show wpS P ρ ((Builtin.len_ #[t] ty #[.slice none 0 0]).bind fun v=>Sem.pure (Next.value v)) σ _
      rw[Ad]
      show wpS P ρ ((underlying t).bind _) σ _
      rw[Ad]
      exact Az hT ⟨rfl,rfl⟩
    ·rename_i k off n kn c1
     obtain⟨rfl,rfl⟩:=Fm h'
     cases vs with
     | nil=>cases hv
     | cons w ws =>
      obtain⟨hw,hws⟩:=VR.cons_iff.1 hv
      cases hws
      obtain⟨bl,d,_,hw⟩:=Tc hw
      subst hw
      refine .inl ⟨rfl,Hz hc ha (.i _ _ .nil) fun ty cs ρ σ=>?_⟩
      rw[hts,hl]
      show wpS P ρ ((Builtin.len_ #[t] ty #[.slice (some ⟨bl,off,none⟩) n _]).bind fun v=>Sem.pure (Next.value v)) σ _
      rw[Ad]
      show wpS P ρ ((underlying t).bind _) σ _
      rw[Ad]
      exact Az hT ⟨rfl,rfl⟩
    ·cases h'
   ·rename_i hT
    have h':(match args with|[.s z]=>OR.v (.i .i64 (.ofNat (xLen z))) m|_=>.bad) = .v x m':=a
    split at h'
    ·rename_i z
     obtain⟨rfl,rfl⟩:=Fm h'
     cases vs with
     | nil=>cases hv
     | cons w ws =>
      obtain⟨hw,hws⟩:=VR.cons_iff.1 hv
      cases hws
      have:=Tb hw
      subst this
      refine .inl ⟨rfl,Hz hc ha (.i _ _ .nil) fun ty cs ρ σ=>?_⟩
      rw[hts,hl]
      show wpS P ρ ((Builtin.len_ #[t] ty #[.string ⟨z.toArray⟩]).bind fun v=>Sem.pure (Next.value v)) σ _
      rw[Ad]
      show wpS P ρ ((underlying t).bind _) σ _
      rw[Ad]
      refine Az hT ⟨?_,rfl⟩
      show Next.value (goInt ((z.toArray.size:Nat):Int))=_
      rw[Fv,Aaw];rfl
    ·cases h'
   ·cases a
  ·cases a
 ·have h':(match args with
   | [.i k p,.i k' q]=>match xKind k k' with|true=>OR.v (.i k (match xLtI q p with|true=>q|false=>p)) m|false=>.bad
   | _=>.bad) = .v x m':=a
  split at h'
  ·rename_i k p k' q
   split at h'
   ·rename_i hk
    have hk:=Hv hk
    subst hk
    obtain⟨rfl,rfl⟩:=Fm h'
    match vs,hv with
    | [w,w'],hv =>
     obtain⟨hw,hw'⟩:=VR.cons_iff.1 hv
     have f:=Jg hw
     have B:=Jg hw'
     subst f B
     refine .inl ⟨rfl,Hz hc ha (.i _ _ .nil) fun ty cs ρ σ=>?_⟩
     show wpS P ρ ((Builtin.min_ c.argTypes ty #[.int k p,.int k q]).bind fun v=>Sem.pure (Next.value v)) σ _
     rw[Ad]
     have f:Builtin.min_ c.argTypes ty #[.int k p,.int k q]=pure (.int k (if q<p then q else p)):=by
      simp only[Builtin.min_,Aim,List.foldlM_nil,Builtin.min2];rfl
     rw[f]
     refine⟨?_,rfl⟩
     rw[Ach]
     by_cases hlt:q<p
     ·rw[if_pos hlt,Lg hlt]
     ·rw[if_neg hlt,Om hlt]
   ·cases h'
  ·cases h'
 ·have h':(match args with
   | [.i k p,.i k' q]=>match xKind k k' with|true=>OR.v (.i k (match xLtI p q with|true=>q|false=>p)) m|false=>.bad
   | _=>.bad) = .v x m':=a
  split at h'
  ·rename_i k p k' q
   split at h'
   ·rename_i hk
    have hk:=Hv hk
    subst hk
    obtain⟨rfl,rfl⟩:=Fm h'
    match vs,hv with
    | [w,w'],hv =>
     obtain⟨hw,hw'⟩:=VR.cons_iff.1 hv
     have f:=Jg hw
     have B:=Jg hw'
     subst f B
     refine .inl ⟨rfl,Hz hc ha (.i _ _ .nil) fun ty cs ρ σ=>?_⟩
     show wpS P ρ ((Builtin.max_ c.argTypes ty #[.int k p,.int k q]).bind fun v=>Sem.pure (Next.value v)) σ _
     rw[Ad]
     have f:Builtin.max_ c.argTypes ty #[.int k p,.int k q]=pure (.int k (if q>p then q else p)):=by
      simp only[Builtin.max_,Aim,List.foldlM_nil,Builtin.max2];rfl
     rw[f]
     refine⟨?_,rfl⟩
     rw[Ach]
     by_cases hlt:p<q
     ·rw[if_pos hlt,Lg hlt]
     ·rw[if_neg hlt,Om hlt]
   ·cases h'
  ·cases h'
 ·split at a
  ·rename_i t u hl
   split at a
   ·rename_i el el' hT hU
    split at a
    ·rename_i ti zc hi hz
     split at a
     ·rename_i q1 q2 g
      obtain⟨G,F,j,y,C⟩:=Xx hz
      rw[hi]at j;cases j
      have g:=lZ7 g
      exact .inr (Apc hc (by rw[hts,hl]) hT hU hi rfl (lZ5 q1) (lZ5 q2) y (by rw[C,g]) hv ha a)
     ·cases a
    ·cases a
   ·rename_i el ik hT hU
    split at a
    ·rename_i ti zc v0 hi hz hz0
     split at a
     ·rename_i c0 q1 q2 g q4
      obtain⟨G,F,j,y,C⟩:=Xx hz
      rw[hi]at j;cases j
      obtain⟨w,⟨H,D,E⟩,rfl⟩:=Mf hz0
      rw[hi]at D;cases D
      rw[y]at E;cases E
      have g:=lZ7 g
      exact .inr (Amm hc (by rw[hts,hl]) hT hU hi rfl (lZ5 q1) (lZ5 q2) y (by rw[C,g]) ((vOf R F).cells q4) hv ha a)
     ·cases a
    ·cases a
   ·cases a
  ·cases a
 ·split at a
  ·rename_i t hl
   split at a
   ·rename_i el hT
    have h':(match args with
     | [.sn]=>OR.v (.i .i64 0) m
     | [.sl _ _ _ true c]=>.v (.i .i64 (.ofNat c)) m
     | _=>.bad) = .v x m':=a
    split at h'
    ·obtain⟨rfl,rfl⟩:=Fm h'
     cases vs with
     | nil=>cases hv
     | cons w ws =>
      obtain⟨hw,hws⟩:=VR.cons_iff.1 hv
      cases hws
      have:=Ase hw
      subst this
      refine .inl ⟨rfl,Hz hc ha (.i _ _ .nil) fun ty cs ρ σ=>?_⟩
      rw[hts,hl]
      show wpS P ρ ((Builtin.cap_ #[t] ty #[.slice none 0 0]).bind fun v=>Sem.pure (Next.value v)) σ _
      rw[Ad]
      show wpS P ρ ((underlying t).bind _) σ _
      rw[Ad]
      exact Az hT ⟨rfl,rfl⟩
    ·rename_i k off n c1
     obtain⟨rfl,rfl⟩:=Fm h'
     cases vs with
     | nil=>cases hv
     | cons w ws =>
      obtain⟨hw,hws⟩:=VR.cons_iff.1 hv
      cases hws
      obtain⟨bl,d,_,hw⟩:=Tc hw
      subst hw
      refine .inl ⟨rfl,Hz hc ha (.i _ _ .nil) fun ty cs ρ σ=>?_⟩
      rw[hts,hl]
      show wpS P ρ ((Builtin.cap_ #[t] ty #[.slice (some ⟨bl,off,none⟩) n _]).bind fun v=>Sem.pure (Next.value v)) σ _
      rw[Ad]
      show wpS P ρ ((underlying t).bind _) σ _
      rw[Ad]
      exact Az hT ⟨rfl,rfl⟩
    ·cases h'
   ·cases a
  ·cases a
 ·cases a
/-- A slice that is built: its cells,its block. -/
theorem Aht{t el:TypeId}{ln n:Nat}{ps:Array (Nat×Operand)}(hT:P.underlying t=some (.slice el))(hn:xSzT P el=some n):∃zs:List Value,∀(R:XR) e e' m x m',EnvR R e e'→Jp R→(opK P (.buildSlice t ln ps)).run e m = .v x m' →
  ∃c c2,x = .sl m.nx 0 ln true ln∧m'=m.add (.cells c)∧VR R c c2∧Instr.fill (fun i=>some (i*n,n)) zs.toArray (ps.toList.map fun p=>(p.1,Af e' p.2))=some c2.toArray ∧
   ∀ρ σ (Q:Next→Own→Prop) dd ty pos af g,(∀r,Q (.value (.slice (some ⟨r,0,none⟩) ln ln)) ((r,.obj (.cells c2.toArray el (0,0)))::σ))→wpS P ρ (execOp (Af e') ⟨dd,.buildSlice t ln ps,ty,pos,af,g⟩) σ Q:=by
 by_cases hzz:∃z zc v,xZeroT P el=some z∧xZeroC P el=some zc∧(∃i,P.info? el=some i∧i.zero=some v)∧z=xOfV v
 ·obtain⟨z,zc,v,hz,hzc,⟨iv,q,u⟩,hzv⟩:=hzz
  subst hzv
  have C:v.cells.size=zc:=by
   obtain⟨G,H,a,b,f⟩:=Xx hzc
   rw[q]at a;cases a
   rw[u]at b;cases b
   exact f
  refine⟨(List.replicate ln v.cells.toList).flatten,fun R e e' m x m' he hg h=>?_⟩
  have exe:∀dd ty pos af g,execOp (Af e') ⟨dd,.buildSlice t ln ps,ty,pos,af,g⟩=(Instr.buildSlice t ln (ps.map fun (p:Nat×Operand)=>(p.1,Af e' p.2))).bind fun v=>Sem.pure (Next.value v):=fun _ _ _ _ _=>rfl
  have k:(ps.map fun (p:Nat×Operand)=>(p.1,Af e' p.2)).toList=ps.toList.map fun p=>(p.1,Af e' p.2):=by simp
  unfold opK at h
  simp only[hT,hn,hz,hzc]at h
  split at h
  ·rename_i c hc y B j
   have y:ln*n≤1000000:=lZ5 y
   have B:1≤ln*n:=lZ5 B
   have j:=lZ7 j
   have h':(match (fillK (fun i=>some (Nat.mul i n,n)) ps.toList).run (xRepL c ln) e with
    | some l=>OR.v (.sl m.nx 0 ln true ln) (m.add (.cells l))
    | none=>.bad) = .v x m':=h
   split at h'
   ·rename_i l hf
    obtain⟨rfl,rfl⟩:=Fm h'
    have E:0<n:=by
     rcases Nat.eq_zero_or_pos n with h0|h0
     ·subst h0;omega
     ·exact h0
    have F:=Abx R ((vOf R v).cells hc) ln
    obtain⟨c2,w,D⟩:=Wl he hg (place:=fun i=>some (i*n,n)) (fun i o z h=>h) ps.toList (xRepL c ln) l _ hf F
    refine⟨l,c2,rfl,rfl,D,w,fun ρ σ Q dd ty pos af g hq=>?_⟩
    rw[exe,Ad]
    unfold Instr.buildSlice
    show wpS P ρ ((underlying t).bind _) σ _
    rw[Ad]
    refine Az hT ?_
    show wpS P ρ ((sizeOf el).bind _) σ _
    rw[Ad]
    refine Dx (Je hn) ?_
    dsimp only
    rw[if_neg (by omega),if_neg (by omega)]
    show wpS P ρ ((zeroValue el).bind _) σ _
    rw[Ad]
    refine Jz ⟨_,q,u⟩ ?_
    have d:((Array.range (ln*n)).map fun i=>v.cells[i%v.cells.size]!)=((List.replicate ln v.cells.toList).flatten).toArray:=by
     rw[←Tz v.cells n (by rw[C,j]) E ln]
     apply Array.ext';simp
    simp only[pure_bind,k,d,w]
    show wpS P ρ ((newRow el c2.toArray).bind _) σ _
    rw[Ad]
    exact Ik fun r=>hq r
   ·cases h'
  ·split at h
   ·have hps:ps.toList=[]:=by assumption
    obtain⟨rfl,rfl⟩:=Fm h
    refine⟨[],[],rfl,rfl,.nil,by rw[hps];rfl,fun ρ σ Q dd ty pos af g hq=>?_⟩
    rw[exe,Ad]
    unfold Instr.buildSlice
    show wpS P ρ ((underlying t).bind _) σ _
    rw[Ad]
    refine Az hT ?_
    show wpS P ρ ((sizeOf el).bind _) σ _
    rw[Ad]
    refine Dx (Je hn) ?_
    dsimp only
    rw[Aqc,if_neg (by omega),if_pos rfl]
    have d:Instr.fill (fun i=>some (i*n,n)) (Array.map (fun x=>(#[]:Array Value)[x%(#[]:Array Value).size]!) (Array.range 0)) []=some #[]:=by simp[Instr.fill]
    simp only[pure_bind,k,hps,List.map_nil,d]
    show wpS P ρ ((newRow el #[]).bind _) σ _
    rw[Ad]
    exact Ik fun r=>hq r
   ·cases h
 ·refine⟨[],fun R e e' m x m' he hg h=>?_⟩
  exfalso
  unfold opK at h
  simp only[hT,hn]at h
  split at h
  ·rename_i n' z zc _ hz hzc
   obtain⟨v,⟨i,a,b⟩,f⟩:=Mf hz
   exact hzz ⟨z,zc,v,hz,hzc,⟨i,a,b⟩,f⟩
  ·cases h
theorem Aak(t:TypeId)(ln:Nat)(ps:Array (Nat×Operand)):Gb P (.buildSlice t ln ps):=fun R e e' m x m' he hg h=>by
 have hk:∃el n,P.underlying t=some (.slice el)∧xSzT P el=some n:=by
  have a:=h
  unfold opK at a
  simp only at a
  split at a
  ·rename_i el hT
   split at a
   ·rename_i n _ _ hn _ _;exact⟨el,n,hT,hn⟩
   ·cases a
  ·cases a
 obtain⟨el,n,hT,hn⟩:=hk
 obtain⟨zs,hzs⟩:=Aht (ln:=ln) (ps:=ps) hT hn
 obtain⟨c,f,rfl,rfl,b,_,d⟩:=hzs R e e' m x m' he hg h
 refine .inr ⟨.add _ _,fun _=>Amx _,fun ρ σ σ₀ dd ty pos af g hm=>?_⟩
 obtain⟨L,G,hm⟩:=hm
 refine d ρ σ _ dd ty pos af g fun r=>?_
 exact⟨R.add m.nx (r,0),_,hm.fresh _,.inl rfl,.slK XR.add_same .nil,hm.add (.cells (b.mono (hm.fresh _)) (Ahh _))⟩
theorem Aed(t:TypeId)(a b:Operand):Gb P (.makeSlice t a b):=fun R e e' m x m' he hg h=>by
 have ha:=Cj he hg a
 have hb:=Cj he hg b
 unfold opK at h
 simp only at h
 split at h
 ·rename_i el hT
  split at h
  ·rename_i n z zc ti hn hz hzc hi
   split at h
   ·rename_i c hc d g j
    have d:1≤n:=lZ5 d
    have g:=lZ7 g
    have j:=lZ5 j
    have h':(match (rdK a).run e,(rdK b).run e with
     | .i _ (.ofNat ln),.i _ (.ofNat cp)=>match Nat.beq ln cp,Nat.ble 1 ln,Nat.ble (Nat.mul ln n) 1000000 with
      | true,true,true=>OR.v (.sl m.nx 0 ln true ln) (m.add (.cells (xRepL c ln)))
      | _,_,_=>.bad
     | _,_=>.bad) = .v x m':=h
    split at h'
    ·rename_i k1 ln k2 cp hu hz'
     split at h'
     ·rename_i k p q
      have k:=lZ7 k
      have p:=lZ5 p
      have q:ln*n≤1000000:=lZ5 q
      subst k
      have hln:ln≤1000000:=Mm (Nat.le_mul_of_pos_right _ d) q
      obtain⟨rfl,rfl⟩:=Fm h'
      rw[hu]at ha;rw[hz']at hb
      obtain⟨v,hv,rfl⟩:=Mf hz
      obtain⟨L,N,f,u,E⟩:=Xx hzc
      obtain⟨M,w,y⟩:=hv
      rw[f]at w;cases w
      rw[u]at y;cases y
      rw[hi]at f;cases f
      have hvc:=(vOf R v).cells hc
      have G:=Abx R hvc ln
      refine .inr (Akq (vs:=(List.replicate ln v.cells.toList).flatten) (el:=el) (Instr.makeSlice t (Af e' a) (Af e' b)) (fun r=>.slice (some ⟨r,0,none⟩) ln ln) (fun _ _ _ _ _=>rfl) (fun ρ σ Q hq=>?_) G fun R' r hr=>.slK hr .nil)
      rw[Jg ha,Jg hb]
      unfold Instr.makeSlice
      show wpS P ρ ((underlying t).bind _) σ _
      rw[Ad]
      refine Az hT ?_
      show wpS P ρ ((typeInfo el).bind _) σ _
      rw[Ad]
      refine Gj hi ?_
      have hw:IntKind.i64.wrap (Int.ofNat ln)=(ln:Int):=Bo (z':=(ln:Int)) rfl (by omega) (by omega)
      have J:((ti.bytes:Int)*(ln:Int))≤4096*1000000:=by
       have I:ti.bytes*ln≤4096*1000000:=Aey j hln
       have F:(ti.bytes:Int)*(ln:Int)=((ti.bytes*ln:Nat):Int):=by push_cast;rfl
       rw[F];omega
      dsimp only
      rw[hw]
      have B:((decide ((ln:Int)<0)||decide ((ti.bytes:Int)*(ln:Int)>2^48))||decide ((ln:Int)<0)||decide ((ln:Int)>(ln:Int)))=false:=by
       simp only[Bdq,decide_eq_false_iff_not]
       refine⟨⟨⟨by omega,by omega⟩,by omega⟩,by omega⟩
      rw[B]
      simp only[Aep,if_false]
      show wpS P ρ ((askRoom (ln*ti.bytes)).bind _) _ _
      rw[Ad]
      have H:∀{Q:Unit→Own→Prop} {σ':Own},Q () σ'→wpS P ρ (askRoom (ln*ti.bytes)) σ' Q:=fun hq=>by
       unfold askRoom
       split
       ·exact⟨rfl,hq⟩
       ·exact hq
      refine H ?_
      show wpS P ρ ((sizeOf el).bind _) σ _
      rw[Ad]
      refine Dx (Je hn) ?_
      have K:1≤ln*n:=Aey p d
      have C:¬((ln:Int).toNat*n=0):=by simp only[Amw];omega
      rw[if_neg C]
      show wpS P ρ ((zeroValue el).bind _) σ _
      rw[Ad]
      refine Jz ⟨_,hi,u⟩ ?_
      have D:((Array.range ((ln:Int).toNat*n)).map fun i=>v.cells[i%v.cells.size]!)=((List.replicate ln v.cells.toList).flatten).toArray:=by
       rw[←Tz v.cells n (by rw[E,g]) d ln]
       apply Array.ext';simp
      show wpS P ρ ((newRow el ((Array.range ((ln:Int).toNat*n)).map fun i=>v.cells[i%v.cells.size]!)).bind _) σ _
      rw[D,Ad]
      refine Ik fun r=>?_
      simp only[Amw]
      exact hq r
     ·cases h'
    ·cases h'
   ·cases h
  ·cases h
 ·cases h
end
end
section
open Go
section
variable{P:Program}{R:XR}{e:Tr CV}{e':Env}{m m':Mem}{x:CV}{ρ:Ro}{σ σ₀:Own}{L:List (Nat×Nat×Res)}{G:Own}{t:TypeId}{mk:MK}
theorem Ve{k:CV}:∀{es:List (CV×CV)} {r:Option CV},findX mk k es=some r→(r=none∧∀p∈es,eqM mk k p.1=some false)∨∃j p,r=some p.2∧es[j]?=some p∧eqM mk k p.1=some true∧∀(i:Nat) q,i<j→es[i]?=some q→eqM mk k q.1=some false
 | [],r,h=>by cases h;exact .inl ⟨rfl,fun p hp=>by cases hp⟩
 | (a,v)::es,r,h=>by
  have h':(match eqM mk k a with|some true=>some (some v)|some false=>findX mk k es|none=>none)=some r:=h
  split at h'
  ·rename_i ha
   cases h'
   exact .inr ⟨0,(a,v),rfl,rfl,ha,fun i q hi=>absurd hi (Aeq _)⟩
  ·rename_i ha
   rcases Ve h' with⟨b,c⟩|⟨j,p,b,c,d,e⟩
   ·refine .inl ⟨b,fun p hp=>?_⟩
    rcases lZ8.1 hp with rfl|hp
    ·exact ha
    ·exact c p hp
   ·refine .inr ⟨j+1,p,b,by simpa using c,d,fun i q hi hq=>?_⟩
    cases i with
    | zero=>cases hq;exact ha
    | succ i=>exact e i q (by omega) (by simpa using hq)
  ·cases h'
theorem Aje{k v:CV}:∀{es r:List (CV×CV)},putX mk k v es=some r→(r=es++[(k,v)]∧∀p∈es,eqM mk k p.1=some false)∨∃j p,r=es.set j (k,v)∧es[j]?=some p∧eqM mk k p.1=some true∧∀(i:Nat) q,i<j→es[i]?=some q→eqM mk k q.1=some false
 | [],r,h=>by cases h;exact .inl ⟨rfl,fun p hp=>by cases hp⟩
 | (a,w)::es,r,h=>by
  have h':(match eqM mk k a with
   | some true=>some ((k,v)::es)
   | some false=>match putX mk k v es with|some r=>some ((a,w)::r)|none=>none
   | none=>none)=some r:=h
  split at h'
  ·rename_i ha
   cases h'
   exact .inr ⟨0,(a,w),rfl,rfl,ha,fun i q hi=>absurd hi (Aeq _)⟩
  ·rename_i ha
   cases hp:putX mk k v es with
   | none=>rw[hp]at h';cases h'
   | some r' =>
    rw[hp]at h'
    cases h'
    rcases Aje hp with⟨b,c⟩|⟨j,p,b,c,d,e⟩
    ·refine .inl ⟨by rw[b];rfl,fun p hp=>?_⟩
     rcases lZ8.1 hp with rfl|hp
     ·exact ha
     ·exact c p hp
    ·refine .inr ⟨j+1,p,by rw[b];rfl,by simpa using c,d,fun i q hi hq=>?_⟩
     cases i with
     | zero=>cases hq;exact ha
     | succ i=>exact e i q (by omega) (by simpa using hq)
  ·cases h'
theorem Aoz:∀{ks:List IntKind} {a b:List CV},eqF ks a b=some true→a=b
 | [],a,b,h=>by
  replace h:eqF0 a b=some true:=h
  unfold eqF0 at h
  split at h
  ·rfl
  ·cases h
 | k::ks,a,b,h=>by
  obtain⟨p,x,q,y,r',rfl,rfl,d,c⟩:=Adr h
  have c:=c.symm
  rw[Fd]at c
  rw[c.2]at d
  rw[Aoz d,eq_of_beq c.1]
theorem Aie:∀{ks:List IntKind} {a b:List CV} {r:Bool} {v w:List Value},eqF ks a b=some r→VR R a v→VR R a w→v=w
 | [],a,b,r,v,w,h,h1,h2=>by
  replace h:eqF0 a b=some r:=h
  unfold eqF0 at h
  split at h
  ·cases h1;cases h2;rfl
  ·cases h
 | k::ks,a,b,r,v,w,h,h1,h2=>by
  obtain⟨p,x,q,y,r',rfl,rfl,g,i⟩:=Adr h
  match v,w,h1,h2 with
  | v0::v,w0::w,h1,h2 =>
   obtain⟨c,d⟩:=VR.cons_iff.1 h1
   obtain⟨e,f⟩:=VR.cons_iff.1 h2
   rw[Jg c,Jg e,Aie g d f]
theorem Bhu{s:List UInt8}{a:CV}{b:Bool}(h:eqM .str (.s s) a=some b):∃q,a = .s q∧xEqS s q=b:=by
 cases a<;>first|exact⟨_,rfl,Option.some.inj h⟩|cases h
theorem Bbx{ks:List IntKind}{a:List CV}{c:CV}{b:Bool}(h:eqM (.flat ks) (.g a) c=some b):∃q,c = .g q∧eqF ks a q=some b:=by
 cases c<;>first|exact⟨_,rfl,h⟩|cases h
/-- Equal keys are one value. -/
theorem Bby{k a:CV}{v w:Value}(h:eqM mk k a=some true)(hv:V1 R k v)(hw:V1 R a w):w=v:=by
 unfold eqM at h
 split at h
 ·rename_i p q
  rw[Re]at h
  have:p=q:=by simpa using h
  subst this
  rw[Tb hv,Tb hw]
 ·rename_i ks p q
  have:=Aoz h
  subst this
  obtain⟨v',d,e⟩:=Xr hv
  obtain⟨w',f,g⟩:=Xr hw
  rw[e,g,Aie h d f]
 ·split at h
  ·rename_i b c
   have b:=Hv b
   have c:=Hv c
   rw[Uh]at h
   have:=eq_of_beq (Option.some.inj h)
   rw[Jg hv,Jg hw,←b,←c,this]
  ·cases h
 ·cases h
theorem Bht{k k1:IntKind}{n:Int}{a:CV}{b:Bool}(h:eqM (.int k) (.i k1 n) a=some b):∃q,k1=k∧a = .i k q∧(n==q)=b:=by
 cases a with
 | i k2 q =>
  have h':(match xKind k k1,xKind k k2 with|true,true=>some (xEqI n q)|_,_=>none)=some b:=h
  split at h'
  ·rename_i q1 q2
   rw[Uh]at h'
   rw[←Hv q2]
   exact⟨q,(Hv q1).symm,rfl,Option.some.inj h'⟩
  ·cases h'
 | _=>cases h
theorem Yv{k:CV}(h:keyOk .str k=true):∃s,k = .s s:=by
 cases k with
 | s s=>exact⟨s,rfl⟩
 | _=>cases h
theorem Yt{kk:IntKind}{k:CV}(h:keyOk (.int kk) k=true):∃n,k = .i kk n:=by
 cases k with
 | i k1 n =>
  have h':xKind kk k1=true:=h
  rw[←Hv h']
  exact⟨n,rfl⟩
 | _=>cases h
theorem Vg{ks:List IntKind}{k:CV}(h:keyOk (.flat ks) k=true):∃a,k = .g a∧(eqF ks a a).isSome=true:=by
 cases k with
 | g a=>exact⟨a,rfl,h⟩
 | _=>cases h
/-- The keys before j differ from this one;the one at j does not (or there is none). -/
def Before(mk:MK)(k:CV)(es:List (CV×CV))(j:Nat):Prop:=∀(i:Nat) q,i<j→es[i]?=some q→eqM mk k q.1=some false
theorem Akc{kd:TypeDesc}{k:CV}{kv:Value}(hstep:∀{a:CV} {w:Value} {b:Bool},V1 R a w→eqM mk k a=some b→Instr.sameNow kd kv w=some b):∀(es:List (CV×CV)) (en:List MapEntry) (i:Nat),VR R (es.map Prod.fst) (en.map MapEntry.key) →
  ((∀p∈es,eqM mk k p.1=some false)→Instr.findNow kd kv en i=some none) ∧
  (∀j p,es[j]?=some p→eqM mk k p.1=some true→Before mk k es j→∃e,en[j]?=some e∧Instr.findNow kd kv en i=some (some (i+j,e.val)))
 | [],[],i,_=>⟨fun _=>rfl,fun j p h=>by cases h⟩
 | (a,v)::es,e::en,i,h=>by
  rw[Hd,Hd]at h
  obtain⟨h1,h2⟩:=VR.cons_iff.1 h
  obtain⟨m,n⟩:=Akc hstep es en (i+1) h2
  refine⟨fun c=>?_,fun j p hj ht hb=>?_⟩
  ·simp only[Instr.findNow,hstep h1 (c (a,v) mC)]
   exact m fun p hp=>c p (lZ0 _ hp)
  ·cases j with
   | zero =>
    cases hj
    exact⟨e,rfl,by simp only[Instr.findNow,hstep h1 ht,Vn]⟩
   | succ j =>
    obtain⟨d,f,g⟩:=n j p (by simpa using hj) ht fun i' q hi hq=>hb (i'+1) q (by omega) (by simpa using hq)
    refine⟨d,by simpa using f,?_⟩
    simp only[Instr.findNow,hstep h1 (hb 0 (a,v) (by omega) rfl)]
    rw[g];congr 3;omega
 | [],_::_,_,h=>absurd h.len (by simp)
 | _::_,[],_,h=>absurd h.len (by simp)
theorem Bfx{s:List UInt8}{a:CV}{w:Value}{b:Bool}(h1:V1 R a w)(hb:eqM .str (.s s) a=some b):Instr.sameNow .string (.string ⟨s.toArray⟩) w=some b:=by
 obtain⟨q,rfl,hq⟩:=Bhu hb
 rw[Tb h1]
 simp only[Instr.sameNow]
 rw[Aec,ByteArray.toList_eq,ByteArray.toList_eq]
 rw[Re]at hq
 simpa using hq
theorem Bfw{k:IntKind}{n:Int}{a:CV}{w:Value}{b:Bool}(h1:V1 R a w)(hb:eqM (.int k) (.i k n) a=some b):Instr.sameNow (.int k) (.int k n) w=some b:=by
 obtain⟨q,_,rfl,hq⟩:=Bht hb
 rw[Jg h1]
 simp only[Instr.sameNow,if_true,hq]
theorem Asi{kt:TypeId}{ks:List IntKind}(hf:flatT P kt=some ks){a:List CV}{av:List Value}(hav:VR R a av):∀(es:List (CV×CV)) (en:List MapEntry) (i:Nat) (Q:Option (Nat×Value)→Own→Prop),VR R (es.map Prod.fst) (en.map MapEntry.key) →
  ((∀p∈es,eqM (.flat ks) (.g a) p.1=some false)→Q none σ→wpS P ρ (Instr.findAsking kt (.agg av.toArray) en i) σ Q) ∧
  (∀j p,es[j]?=some p→eqM (.flat ks) (.g a) p.1=some true→Before (.flat ks) (.g a) es j→∃e,en[j]?=some e∧(Q (some (i+j,e.val)) σ→wpS P ρ (Instr.findAsking kt (.agg av.toArray) en i) σ Q))
 | [],[],i,Q,_=>⟨fun _ hq=>hq,fun j p h=>by cases h⟩
 | (b,v)::es,e::en,i,Q,h=>by
  rw[Hd,Hd]at h
  obtain⟨h1,h2⟩:=VR.cons_iff.1 h
  obtain⟨w,x⟩:=Asi hf hav es en (i+1) Q h2
  obtain⟨fs,n,t,B,u⟩:=Wm hf
  have c:∀{r:Bool},eqM (.flat ks) (.g a) b=some r→∀{Q':Bool→Own→Prop},Q' r σ→wpS P ρ (Op.equal kt (.agg av.toArray) e.key) σ Q':=fun {r} hb {Q'} hq=>by
   obtain⟨q,rfl,hb⟩:=Bbx hb
   obtain⟨bv,o1,f⟩:=Xr h1
   rw[f]
   obtain⟨ps,qs,y,z⟩:=Ads fs.toList 0 ks a q av bv r u hb hav o1
   refine Ms (d:=9998) (fs:=fs.toList) (by rw[Ww];exact n) t y ?_
   rw[←z];exact hq
  refine⟨fun k hq=>?_,fun j p hj ht hb=>?_⟩
  ·show wpS P ρ ((Op.equal kt (.agg av.toArray) e.key).bind _) σ Q
   rw[Ad]
   refine c (k (b,v) mC) ?_
   exact w (fun p hp=>k p (lZ0 _ hp)) hq
  ·cases j with
   | zero =>
    cases hj
    refine⟨e,rfl,fun hq=>?_⟩
    show wpS P ρ ((Op.equal kt (.agg av.toArray) e.key).bind _) σ Q
    rw[Ad]
    exact c ht hq
   | succ j =>
    obtain⟨m,o1,f⟩:=x j p (by simpa using hj) ht fun i' q hi hq=>hb (i'+1) q (by omega) (by simpa using hq)
    refine⟨m,by simpa using o1,fun hq=>?_⟩
    show wpS P ρ ((Op.equal kt (.agg av.toArray) e.key).bind _) σ Q
    rw[Ad]
    refine c (hb 0 (b,v) (by omega) rfl) ?_
    refine f ?_
    rw[show i+1+j=i+(j+1) by omega];exact hq
 | [],_::_,_,_,h=>absurd h.len (by simp)
 | _::_,[],_,_,h=>absurd h.len (by simp)
theorem Afd{kt:TypeId}(h:mapKind P kt=some mk):(P.underlying kt=some .string∧mk = .str)∨(∃k,P.underlying kt=some (.int k)∧mk = .int k)∨∃ks,flatT P kt=some ks∧mk = .flat ks:=by
 unfold mapKind at h
 split at h
 ·rename_i hk;cases h;exact .inl ⟨hk,rfl⟩
 ·rename_i k hk;cases h;exact .inr (.inl ⟨k,hk,rfl⟩)
 ·split at h
  ·rename_i ks hf;cases h;exact .inr (.inr ⟨ks,hf,rfl⟩)
  ·cases h
 ·cases h
/-- A key is looked for. -/
theorem Xu{kt:TypeId}(hk:mapKind P kt=some mk){k:CV}{kv:Value}(hkv:V1 R k kv)(hok:keyOk mk k=true){es:List (CV×CV)}{en:List MapEntry}(hes:VR R (es.map Prod.fst) (en.map MapEntry.key))(Q:Option (Nat×Value)→Own→Prop) :
  ((∀p∈es,eqM mk k p.1=some false)→Q none σ→wpS P ρ (Instr.findKey kt kv en) σ Q) ∧
  (∀j p,es[j]?=some p→eqM mk k p.1=some true→Before mk k es j→∃e,en[j]?=some e∧(Q (some (j,e.val)) σ→wpS P ρ (Instr.findKey kt kv en) σ Q)):=by
 have now:∀{kd:TypeDesc},P.underlying kt=some kd→(∀{a:CV} {w:Value} {b:Bool},V1 R a w→eqM mk k a=some b→Instr.sameNow kd kv w=some b) →
   ((∀p∈es,eqM mk k p.1=some false)→Q none σ→wpS P ρ (Instr.findKey kt kv en) σ Q) ∧
   (∀j p,es[j]?=some p→eqM mk k p.1=some true→Before mk k es j→∃e,en[j]?=some e∧(Q (some (j,e.val)) σ→wpS P ρ (Instr.findKey kt kv en) σ Q)):=fun {kd} c hstep=>by
  obtain⟨g,h⟩:=Akc hstep es en 0 hes
  refine⟨fun i hq=>?_,fun j p hj ht hb=>?_⟩
  ·show wpS P ρ ((underlying kt).bind _) σ Q
   rw[Ad]
   refine Az c ?_
   simp only[g i]
   exact hq
  ·obtain⟨f,o1,t⟩:=h j p hj ht hb
   refine⟨f,o1,fun hq=>?_⟩
   show wpS P ρ ((underlying kt).bind _) σ Q
   rw[Ad]
   refine Az c ?_
   simp only[t,Po]
   exact hq
 rcases Afd hk with⟨c,rfl⟩|⟨kk,c,rfl⟩|⟨ks,c,rfl⟩
 ·obtain⟨s,rfl⟩:=Yv hok
  have:=Tb hkv
  subst this
  exact now c Bfx
 ·obtain⟨n,rfl⟩:=Yt hok
  have:=Jg hkv
  subst this
  exact now c Bfw
 ·obtain⟨a,rfl,hok⟩:=Vg hok
  obtain⟨av,o1,rfl⟩:=Xr hkv
  obtain⟨g,h⟩:=Asi (ρ:=ρ) (σ:=σ) c o1 es en 0 Q hes
  obtain⟨fs,q,_⟩:=Wm c
  have hne:∀d l,Instr.findNow (.struct fs) (.agg av.toArray) (d::l) 0=none:=fun d l=>rfl
  have m:wpS P ρ (Instr.findAsking kt (.agg av.toArray) en 0) σ Q→wpS P ρ (Instr.findKey kt (.agg av.toArray) en) σ Q:=fun hq=>by
   show wpS P ρ ((underlying kt).bind _) σ Q
   rw[Ad]
   refine Az q ?_
   cases en with
   | nil=>exact hq
   | cons d l=>simp only[hne];exact hq
  refine⟨fun i hq=>m (g i hq),fun j p hj ht hb=>?_⟩
  obtain⟨f,u,v⟩:=h j p hj ht hb
  refine⟨f,u,fun hq=>m (v (by rw[Po];exact hq))⟩
theorem Ur{xs ys:Array Value}{d:Nat}{em:Bool}{K:PUnit→Own→Prop}:∀(fs:List Field) (ps qs:List Int),EqF P xs ys fs ps qs→K PUnit.unit σ →
  wpS P ρ (forIn fs PUnit.unit fun (f:Field) (_:PUnit) =>
   if f.name ≠ "_" then do
    Instr.checkKey em (d+1) f.type (←part f.type xs f.offset)
    pure (ForInStep.yield PUnit.unit)
   else pure (ForInStep.yield PUnit.unit)) σ K
 | [],[],[],_,h=>h
 | f::fs,p::ps,q::qs,⟨⟨hn,k,hT,hx,hy⟩,hr⟩,h=>by
  rw[Awd]
  show wpS P ρ (Sem.bind _ _) σ K
  rw[Ad,if_pos hn]
  show wpS P ρ ((part f.type xs f.offset).bind _) σ _
  rw[Ad]
  refine Qr ⟨_,hT,rfl⟩ hx ?_
  show wpS P ρ (Sem.bind (Instr.checkKey em (d+1) f.type (.int k p)) _) σ _
  rw[Ad]
  show wpS P ρ ((underlying f.type).bind _) σ _
  rw[Ad]
  refine Az hT ?_
  exact Ur fs ps qs hr h
 | [],[],_::_,h,_=>h.elim
 | [],_::_,_,h,_=>h.elim
 | _::_,[],_,h,_=>h.elim
 | _::_,_::_,[],h,_=>h.elim
/-- A key may be one. -/
theorem Akb{kt:TypeId}(hk:mapKind P kt=some mk){k:CV}{kv:Value}(hkv:V1 R k kv)(hok:keyOk mk k=true){em:Bool}{Q:Unit→Own→Prop}(h:Q () σ):wpS P ρ (Instr.checkKey em 10000 kt kv) σ Q:=by
 rcases Afd hk with⟨b,rfl⟩|⟨kk,b,rfl⟩|⟨ks,b,rfl⟩
 ·obtain⟨s,rfl⟩:=Yv hok
  have:=Tb hkv
  subst this
  exact Qo (m:=9999) b h
 ·obtain⟨n,rfl⟩:=Yt hok
  have:=Jg hkv
  subst this
  show wpS P ρ ((underlying kt).bind _) σ Q
  rw[Ad]
  exact Az b h
 ·obtain⟨a,rfl,hok⟩:=Vg hok
  obtain⟨av,o1,rfl⟩:=Xr hkv
  obtain⟨fs,e,i,j,f⟩:=Wm b
  obtain⟨r,hr⟩:=Atp.1 hok
  obtain⟨ps,qs,g,p⟩:=Ads fs.toList 0 ks a a av av r f hr o1 o1
  show wpS P ρ ((underlying kt).bind _) σ Q
  rw[Ad]
  refine Az e ?_
  have c:fs=fs.toList.toArray:=by simp
  rw[c]
  simp only[Awb]
  show wpS P ρ (Sem.bind (forIn fs.toList _ _) _) σ Q
  rw[Ad]
  exact Ur (d:=9998) fs.toList ps qs g h
end
end
section
open Go
section
variable{P:Program}{R:XR}{e:Tr CV}{e':Env}{m m':Mem}{x:CV}{ρ:Ro}{σ:Own}
theorem Adt{fn:Func}(h:fn.name = "internal/bytealg.IndexByteString"):Extern.find fn=some Extern.BytealgIndexByte.indexByte:=by
 have a:(Extern.allGenericRows.lookup "internal/bytealg.IndexByteString").isNone=true:=by kernel_rfl
 have b:(Extern.allTypedRows.lookup "internal/bytealg.IndexByteString").isNone=true:=by kernel_rfl
 have c:Extern.allRows.lookup "internal/bytealg.IndexByteString" = some Extern.BytealgIndexByte.indexByte:=by kernel_rfl
 rw[Option.isNone_iff_eq_none]at a b
 unfold Extern.find
 simp only[h,a,b,c]
 rfl
theorem Asx{fn:Func}(h:fn.name = "internal/bytealg.CountString"):Extern.find fn=some Extern.BytealgCount.count:=by
 have a:(Extern.allGenericRows.lookup "internal/bytealg.CountString").isNone=true:=by kernel_rfl
 have b:(Extern.allTypedRows.lookup "internal/bytealg.CountString").isNone=true:=by kernel_rfl
 have c:Extern.allRows.lookup "internal/bytealg.CountString" = some Extern.BytealgCount.count:=by kernel_rfl
 rw[Option.isNone_iff_eq_none]at a b
 unfold Extern.find
 simp only[h,a,b,c]
 rfl
theorem Bmd{g:Nat}{ex:EX}(h:xExt P g=some ex):∃fn,P.funcs[g]?=some fn∧(fn.name == "runtime.NumGoroutine")=false∧fn.body.isNone=true∧Extern.findNext fn=none∧xExtN fn.name=some ex:=by
 unfold xExt at h
 split at h
 ·rename_i fn hf
  split at h
  ·cases h
  ·rename_i hb
   split at h
   ·rename_i hn hx
    exact⟨fn,hf,hn,hb,by simpa using hx,h⟩
   ·cases h
 ·cases h
theorem Avn{c:UInt8}:∀(l pre:List UInt8),xIdxB c.toNat l pre.length=(List.range' pre.length l.length).find? fun i=>(pre++l)[i]! == c
 | [],pre=>rfl
 | a::l,pre=>by
  have e1:xIdxB c.toNat (a::l) pre.length=(match Nat.beq a.toNat c.toNat with|true=>some pre.length|false=>xIdxB c.toNat l (pre.length+1)):=rfl
  have b:(pre++a::l)[pre.length]! = a:=by simp
  rw[e1,lZ2,Yy,List.find?_cons,b]
  by_cases h:a=c
  ·subst h
   have:Nat.beq a.toNat a.toNat=true:=by simp
   rw[this];simp
  ·have d:Nat.beq a.toNat c.toNat=false:=by
    cases hx:Nat.beq a.toNat c.toNat with
    | false=>rfl
    | true=>exact absurd (UInt8.toNat_inj.1 (lZ7 hx)) h
   have e:(a==c)=false:=by simpa using h
   rw[d,e]
   have:=Avn (c:=c) l (pre++[a])
   rw[lZ1,Qq,lZ9]at this
   exact this
theorem Ale{c:UInt8}:∀(l:List UInt8) (n:Int),l.foldl (fun n x=>if x==c then n+1 else n) n=n+(xCntB c.toNat l:Nat)
 | [],n=>(Int.add_zero n).symm
 | a::l,n=>by
  have e1:xCntB c.toNat (a::l)=(match Nat.beq a.toNat c.toNat with|true=>Nat.succ (xCntB c.toNat l)|false=>xCntB c.toNat l):=rfl
  rw[Aio,e1]
  by_cases h:a=c
  ·subst h
   have:Nat.beq a.toNat a.toNat=true:=by simp
   rw[this,Ale l]
   simp only[beq_self_eq_true,if_true]
   show n+1+_=n+((xCntB a.toNat l+1:Nat):Int)
   omega
  ·have b:Nat.beq a.toNat c.toNat=false:=by
    cases hx:Nat.beq a.toNat c.toNat with
    | false=>rfl
    | true=>exact absurd (UInt8.toNat_inj.1 (lZ7 hx)) h
   have d:(a==c)=false:=by simpa using h
   rw[b,d,Ale l]
   simp
theorem Ady{β:Type}(l:List UInt8)(f:β→UInt8→β)(h:l.length≤(⟨l.toArray⟩:ByteArray).size):∀(i j:Nat) (z:β),i+j=l.length→@ByteArray.foldlM.loop β _root_.Id _ (fun b a=>f b a) (⟨l.toArray⟩:ByteArray) l.length h i j z=(l.drop j).foldl f z
 | 0,j,z,hij=>by
  unfold ByteArray.foldlM.loop
  rw[dif_neg (by omega),Avr (by omega)];rfl
 | i+1,j,z,hij=>by
  have hj:j<l.length:=by omega
  unfold ByteArray.foldlM.loop
  rw[dif_pos hj,Avp hj,Aio]
  exact Ady l f h i (j+1) _ (by omega)
theorem Bpk{β:Type}(l:List UInt8)(f:β→UInt8→β)(z:β):(⟨l.toArray⟩:ByteArray).foldl f z=l.foldl f z:=by
 have:=Ady l f (Et _) l.length 0 z (by omega)
 rw[Vi]at this
 rw[←this]
 unfold ByteArray.foldl ByteArray.foldlM
 rw[dif_pos (Et _)]
 rfl
theorem Avk{n:String}{ex:EX}(h:xExtN n=some ex):(n = "internal/bytealg.IndexByteString"∧ex = .indexByte)∨(n = "internal/bytealg.CountString"∧ex = .count):=by
 unfold xExtN at h
 split at h
 ·rename_i hn;cases h;exact .inl ⟨by simpa using hn,rfl⟩
 ·split at h
  ·rename_i hn;cases h;exact .inr ⟨by simpa using hn,rfl⟩
  ·cases h
theorem Bhx{fn:Func}{ex:EX}{args:List CV}{vs:List Value}{v:CV}(hx:xExtN fn.name=some ex)(hv:xExtV ex args=some v)(h:VR R args vs) :
  ∃w G,Extern.find fn=some G∧V1 R v w∧∀ρ σ,wpS P ρ (G vs.toArray) σ (fun a σ'=>a=w∧σ'=σ):=by
 have two:∀{l:List UInt8} {b:Nat},args=[.s l,.i .u8 (.ofNat b)]→vs=[.string ⟨l.toArray⟩,.int .u8 (b:Nat)]:=fun {l b} e=>by
  subst e
  match vs,h with
  | [p,q],h =>
   obtain⟨j,k⟩:=VR.cons_iff.1 h
   have m:=VR.cons_iff.1 k
   rw[Tb j,Jg m.1];rfl
 have f:∀{b:Nat},Nat.ble b 255=true→(b.toUInt8).toNat=b:=fun {b} h=>by
  have:=lZ5 h
  simp;omega
 have get:∀(l:List UInt8) (i:Nat),(⟨l.toArray⟩:ByteArray)[i]! = l[i]!:=fun l i=>by
  by_cases h:i<l.length
  ·rw[getElem!_pos (⟨l.toArray⟩:ByteArray) i (by show i<l.toArray.size;simpa using h),getElem!_pos l i h];rfl
  ·rw[getElem!_neg (⟨l.toArray⟩:ByteArray) i (by show ¬i<l.toArray.size;simpa using h),getElem!_neg l i h]
 unfold xExtV at hv
 split at hv
 ·rename_i l b
  rcases Avk hx with⟨hn,_⟩|⟨_,he⟩
  ·split at hv
   ·rename_i hb
    have d:=two rfl
    subst d
    have g:=Avn (c:=b.toUInt8) l []
    rw[f hb,Pj,Dy,←Apn]at g
    have run:∀{ρ:Ro} {σ:Own} {Q:Value→Own→Prop},Q (match xIdxB b l 0 with|some i=>goInt i|none=>goInt (-1)) σ→wpS P ρ (Extern.BytealgIndexByte.indexByte #[.string ⟨l.toArray⟩,.int .u8 (b:Nat)]) σ Q:=fun {ρ σ Q} hq=>by
     show wpS P ρ (match (List.range l.toArray.size).find? fun i=>(⟨l.toArray⟩:ByteArray)[i]! == b.toUInt8 with|some i=>pure (goInt i)|none=>pure (goInt (-1))) σ Q
     simp only[get,Aaw]
     rw[←g]
     revert hq
     cases xIdxB b l 0 with
     | none=>exact fun hq=>hq
     | some i=>exact fun hq=>hq
    split at hv
    ·rename_i i hi
     cases hv
     rw[hi]at run
     exact⟨_,_,Adt hn,.i _ _ .nil,fun ρ σ=>run ⟨rfl,rfl⟩⟩
    ·rename_i hi
     cases hv
     rw[hi]at run
     exact⟨_,_,Adt hn,.i _ _ .nil,fun ρ σ=>run ⟨rfl,rfl⟩⟩
   ·cases hv
  ·cases he
 ·rename_i l b
  rcases Avk hx with⟨_,he⟩|⟨hn,_⟩
  ·cases he
  ·split at hv
   ·rename_i hb
    have d:=two rfl
    subst d
    cases hv
    refine⟨_,_,Asx hn,.i _ _ .nil,fun ρ σ=>?_⟩
    show wpS P ρ (pure (goInt ((⟨l.toArray⟩:ByteArray).foldl (fun n x=>if x==b.toUInt8 then n+1 else n) (0:Int)))) σ _
    refine⟨?_,rfl⟩
    rw[Bpk l _ 0,Ale,f hb,Int.zero_add]
    rfl
   ·cases hv
 ·cases hv
theorem Bcm{c:Call}{g:Nat}{ex:EX}(hc:c.callee = .value (.func g))(hx:xExt P g=some ex)(he:EnvR R e e')(hg:Jp R){v:CV}(hv:xExtV ex ((rdsK c.args.toList).run e)=some v):Nr P (.call c) R e' v:=by
 obtain⟨cl,az,ts⟩:=c
 simp only at hc hv
 subst hc
 obtain⟨fn,hf,hn,hb,j,hxn⟩:=Bmd hx
 obtain⟨vs,h,i⟩:=Xj he hg az
 obtain⟨w,G,b,d,f⟩:=Bhx (P:=P) hxn hv h
 refine⟨w,d,fun ρ σ dd ty pos af gd=>?_⟩
 rw[Bca e' i]
 exact Bkh hf hn hb j b (Eu (by rintro a σ' ⟨rfl,rfl⟩;exact⟨rfl,rfl⟩) _ _ (f ρ σ))
end
end
section
open Go
section
variable{P:Program}{R:XR}{e:Tr CV}{e':Env}{m m':Mem}{x:CV}{ρ:Ro}{σ σ₀:Own}{L:List (Nat×Nat×Res)}{G:Own}{t:TypeId}{mk:MK}
theorem Ane(m:Mem)(k:Nat):m.row k=(match m.obj k with|some o=>xRowO o|none=>none):=by
 unfold Mem.row Mem.obj
 cases m.M.get k with
 | none=>rfl
 | some c=>cases c<;>rfl
theorem Bah{m₁:Mem}{k:Nat}(h:m₁.obj k=m.obj k):m₁.row k=m.row k:=by rw[Ane,Ane,h]
theorem Apj{R₁:XR}:∀{ks:List IntKind} {a b:List CV} {l:List Value},(eqF ks a b).isSome=true→VR R a l→VR R₁ a l
 | [],a,b,l,h,hv=>by
  have h':(eqF0 a b).isSome=true:=h
  unfold eqF0 at h'
  split at h'
  ·cases hv;exact .nil
  ·cases h'
 | k::ks,a,b,l,h,hv=>by
  have h':(eqF1 k (eqF ks) a b).isSome=true:=h
  unfold eqF1 at h'
  split at h'
  ·split at h'
   ·split at h'
    ·rename_i hx
     cases hv with
     | i k n hv=>exact .i _ _ (Apj (by rw[hx];rfl) hv)
    ·cases h'
   ·cases h'
  ·cases h'
theorem Bii{R₁:XR}{y:CV}{v:Value}(h:keyOk mk y=true)(hv:V1 R y v):V1 R₁ y v:=by
 cases mk with
 | str =>
  obtain⟨s,rfl⟩:=Yv h
  rw[Tb hv]
  exact .s _ .nil
 | int k =>
  obtain⟨n,rfl⟩:=Yt h
  rw[Jg hv]
  exact .i _ _ .nil
 | flat ks =>
  obtain⟨a,rfl,h⟩:=Vg h
  cases hv with
  | g h1 h2=>cases h2;exact .g (Apj h h1) .nil
noncomputable def loadM(P:Program)(t:TypeId)(a:CV)(m:Mem):OR:=match a with
 | .p k off=>match m.row k with
  | some l=>match (partK P t).run (xDrp off l) with|some v=>.rd v k|none=>.bad
  | none=>.bad
 | _=>.bad
theorem Ayv(t:TypeId)(a:Operand):Ans P (.load t a):=fun R e e' m x k he hg h R₁ m₁ ρ σ σ₀ hm ho B=>by
 have ha:=Cj he hg a
 have D:∀m,(opK P (.load t a)).run e m=loadM P t ((rdK a).run e) m:=fun m=>rfl
 rw[D]at h
 unfold loadM at h
 split at h
 ·rename_i k1 off hu
  split at h
  ·rename_i l hl
   split at h
   ·rename_i w hw
    obtain⟨rfl,rfl⟩:=Xe h
    rw[hu]at ha
    obtain⟨b,c,hR,hav⟩:=Aru ha
    rw[←B]at hR
    rw[←Bah ho]at hl
    obtain⟨L,G,hm⟩:=hm
    rw[Uf]at hw
    unfold partK at hw
    split at hw
    ·rename_i hagg
     split at hw
     ·rename_i n hn
      cases hr:xTkn n (l.drop off) with
      | none=>simp only[hr]at hw;cases hw
      | some r =>
       simp only[hr,Option.some.injEq]at hw
       subst hw
       obtain⟨y,z⟩:=Ui _ _ _ hr
       obtain⟨j,p,vs,d,f,i,q,_⟩:=hm.cells (P:=P) hl y z
       rw[hR]at d;cases d
       refine⟨.agg vs.toArray,.g f .nil,fun dd ty pos af g=>?_⟩
       show wpS P ρ ((Instr.loadAt t (Af e' a)).bind fun v=>Sem.pure (Next.value v)) σ _
       rw[Ad,hav]
       show wpS P ρ ((isAgg t).bind _) σ _
       rw[Ad]
       refine Hi (Tg hagg) ?_
       show wpS P ρ ((sizeOf t).bind fun n=>(loadCells ⟨b,off,none⟩ n).bind _) σ _
       rw[Ad]
       refine Dx (Je hn) ?_
       rw[Ad]
       exact q _ ⟨rfl,rfl⟩
     ·cases hw
    ·rename_i hagg
     have hw':(match l.drop off with|v::_=>some v|[]=>none)=some w:=hw
     split at hw'
     ·rename_i v rest hd
      cases hw'
      have C:[w]=(l.drop off).take 1:=by rw[hd];rfl
      obtain⟨j,p,vs,d,f,i,_,u⟩:=hm.cells (P:=P) (n:=1) hl (by rw[hd];simp) C
      rw[hR]at d;cases d
      obtain⟨v',rfl⟩:∃v',vs=[v']:=by
       match vs,i with
       | [v'],_=>exact⟨v',rfl⟩
      refine⟨v',f,fun dd ty pos af g=>?_⟩
      show wpS P ρ ((Instr.loadAt t (Af e' a)).bind fun v=>Sem.pure (Next.value v)) σ _
      rw[Ad,hav]
      show wpS P ρ ((isAgg t).bind _) σ _
      rw[Ad]
      refine Hi (Tg hagg) ?_
      exact u v' rfl _ ⟨rfl,rfl⟩
     ·cases hw'
    ·cases hw
   ·cases h
  ·cases h
 ·cases h
/-- A map that may be read. -/
theorem MemR.map(hm:MemR R m ρ σ σ₀ L G){k:Nat}{es:List (CV×CV)}(hk:m.obj k=some (.map es)):∃b c en ck,R k=some (b,c)∧Has ρ σ b (.map (List.toArray en) ck)∧VR R (es.map Prod.fst) (en.map MapEntry.key)∧VR R (es.map Prod.snd) (en.map MapEntry.val)∧BornOk en ck:=by
 unfold Mem.obj at hk
 cases hg:m.M.get k with
 | none=>rw[hg]at hk;cases hk
 | some c0 =>
  rw[hg]at hk
  cases c0 with
  | own o =>
   cases hk
   obtain⟨b,c,r,i,d,e,a,j⟩:=hm.at hg (by simp)
   cases a with
   | map g1 g2 g3=>exact⟨b,c,_,_,d,.inr (lZ6 e),g1,g2,g3⟩
  | ro o =>
   cases hk
   obtain⟨b,c,x,d,e,f,a⟩:=hm.ro k _ hg
   cases x with
   | cells cs t' f'=>exact absurd a (fun h=>by cases h)
   | map en ck =>
    have g:ObjR R c (.map es) (.obj (.map en ck)):=a
    cases g with
    | map g1 g2 g3=>exact⟨b,c,_,_,d,.inl e,g1,g2,g3⟩
   | _=>exact absurd a (fun h=>by cases h)
noncomputable def lookM(mk:MK)(z:CV)(ok:Bool)(a y:CV)(m:Mem):OR:=match a with
 | .m k=>match m.obj k,keyOk mk y with
  | some (.map es),true=>match findX mk y es with
   | some (some v)=>.rd (match ok with|true=>.t [v,.b true]|false=>v) k
   | some none=>.rd (match ok with|true=>.t [z,.b false]|false=>z) k
   | none=>.bad
  | _,_=>.bad
 | _=>.bad
theorem Apf(t:TypeId)(a y:Operand)(ok:Bool):Ans P (.lookup t a y ok):=fun R e e' m x k he hg h R₁ m₁ ρ σ σ₀ hm ho O=>by
 have ha:=Cj he hg a
 have V:=Cj he hg y
 have c:=h
 unfold opK at h
 simp only at h
 split at h
 ·rename_i kt el hT
  split at h
  ·rename_i mk z hk hz
   have U:∀m,(opK P (.lookup t a y ok)).run e m=lookM mk z ok ((rdK a).run e) ((rdK y).run e) m:=fun m=>by
    unfold opK;simp only[hT,hk,hz];rfl
   rw[U]at c
   clear h
   unfold lookM at c
   split at c
   ·rename_i k1 hu
    split at c
    ·rename_i es hes hok
     rw[hu]at ha
     obtain⟨bb,cc,hR,hav⟩:=Bom ha
     have T:k1=k:=by
      split at c
      ·exact(Xe c).2
      ·exact(Xe c).2
      ·cases c
     subst T
     have hy:V1 R₁ ((rdK y).run e) (Af e' y):=Bii hok V
     rw[←O]at hR
     rw[←ho]at hes
     obtain⟨L,G,hm⟩:=hm
     obtain⟨X,Y,en,ck,B,J,C,K,_⟩:=hm.map hes
     rw[hR]at B;cases B
     obtain⟨zv,hzv,rfl⟩:=Mf hz
     have H:∀(v:Value) dd ty pos af g,(wpS P ρ (Instr.findKey kt (Af e' y) en) σ fun r σ'=>σ'=σ∧(match r with|some (_,w)=>(if ok=true then Value.tuple #[w,.bool true] else w)=v|none=>(if ok=true then Value.tuple #[zv,.bool false] else zv)=v)) →
       wpS P ρ (execOp (Af e') ⟨dd,.lookup t a y ok,ty,pos,af,g⟩) σ (fun nx σ'=>nx = .value v∧σ'=σ):=fun v dd ty pos af g hf=>by
      show wpS P ρ ((Instr.lookup t (Af e' a) (Af e' y) ok).bind fun v=>Sem.pure (Next.value v)) σ _
      rw[Ad,hav]
      show wpS P ρ ((underlying t).bind _) σ _
      rw[Ad]
      refine Az hT ?_
      show wpS P ρ ((getObj bb).bind _) σ _
      rw[Ad]
      refine⟨_,J,rfl,?_⟩
      show wpS P ρ ((Instr.checkKey en.toArray.isEmpty 10000 kt _).bind _) σ _
      rw[Ad]
      refine Akb hk hy hok ?_
      show wpS P ρ ((Instr.findKey kt (Af e' y) en).bind _) σ _
      rw[Ad]
      refine Eu ?_ _ _ hf
      rintro r σ' ⟨rfl,hr⟩
      cases r with
      | none =>
       show wpS P ρ ((zeroValue el).bind _) _ _
       rw[Ad]
       refine Jz hzv ?_
       simp only at hr
       rw[←hr]
       exact⟨rfl,rfl⟩
      | some p =>
       simp only at hr
       rw[←hr]
       exact⟨rfl,rfl⟩
     split at c
     ·rename_i v hf
      obtain⟨rfl,_⟩:=Xe c
      rcases Ve hf with⟨d,_⟩|⟨j,p,d,D,M,N⟩
      ·cases d
      ·cases d
       have o0:=fun (w:Value)=>(Xu (ρ:=ρ) (σ:=σ) hk hy hok C (fun r σ'=>σ'=σ∧(match r with|some (_,u)=>(if ok=true then Value.tuple #[u,.bool true] else u)=w|none=>(if ok=true then Value.tuple #[zv,.bool false] else zv)=w))).2 j p D M N
       obtain⟨f,o1,_⟩:=o0 undef
       have i:_:=(o0 (if ok=true then .tuple #[f.val,.bool true] else f.val))
       obtain⟨n,F,W⟩:=i
       rw[o1]at F
       cases F
       have hv:V1 R₁ p.2 f.val:=by
        have n:(es.map Prod.snd)[j]?=some p.2:=by rw[Oj,D];rfl
        obtain⟨v',q,I⟩:=K.at n
        rw[Oj,o1]at q
        cases q;exact I
       refine⟨if ok=true then .tuple #[f.val,.bool true] else f.val,?_,fun dd ty pos af g=>H _ dd ty pos af g (W ⟨rfl,rfl⟩)⟩
       cases ok with
       | true=>exact .t (VR.cons_iff.2 ⟨hv,.b _ .nil⟩) .nil
       | false=>exact hv
     ·rename_i hf
      obtain⟨rfl,_⟩:=Xe c
      rcases Ve hf with⟨_,d⟩|⟨j,p,d,_⟩
      ·have i:=(Xu (ρ:=ρ) (σ:=σ) hk hy hok C (fun r σ'=>σ'=σ∧(match r with|some (_,w)=>(if ok=true then Value.tuple #[w,.bool true] else w)=(if ok=true then Value.tuple #[zv,.bool false] else zv)|none=>(if ok=true then Value.tuple #[zv,.bool false] else zv)=(if ok=true then Value.tuple #[zv,.bool false] else zv)))).1 d ⟨rfl,rfl⟩
       refine⟨if ok=true then .tuple #[zv,.bool false] else zv,?_,fun dd ty pos af g=>H _ dd ty pos af g i⟩
       have E:=vOf R₁ zv
       cases ok with
       | true=>exact .t (VR.cons_iff.2 ⟨E,.b _ .nil⟩) .nil
       | false=>exact E
      ·cases d
     ·cases c
    ·cases c
   ·cases c
  ·cases h
 ·cases h
theorem Zs(o:Op)(t:TypeId)(a y z:Operand)(hmi:xMild o=false)(hrun:opK P o=opK P (.mapUpdate t a y z))
  (exe:∀(f:Operand→Value) dd ty pos af g,execOp f ⟨dd,o,ty,pos,af,g⟩=(Instr.mapUpdate t (f a) (f y) (f z)).bind fun _=>Sem.pure Next.skip):Gb P o:=fun R e e' m x m' he hg h=>by
 have ha:=Cj he hg a
 have hy:=Cj he hg y
 have hz:=Cj he hg z
 rw[hrun]at h
 unfold opK at h
 simp only at h
 split at h
 ·rename_i kt el hT
  split at h
  ·rename_i mk hk
   have h':(match (rdK a).run e with
    | .m k=>match m.M.get k,keyOk mk ((rdK y).run e) with
     | some (.own (.map es)),true=>match putX mk ((rdK y).run e) ((rdK z).run e) es with
      | some es=>OR.v .undef (m.put k (.map es))
      | none=>.bad
     | _,_=>.bad
    | _=>.bad) = .v x m':=h
   split at h'
   ·rename_i k hu
    split at h'
    ·rename_i es hes hok
     split at h'
     ·rename_i es2 hp
      obtain⟨rfl,rfl⟩:=Fm h'
      rw[hu]at ha
      obtain⟨bb,cc,hR,hav⟩:=Bom ha
      refine .inr ⟨.put _ _ _,fun hx=>(by rw[hmi]at hx;cases hx),fun ρ σ σ₀ dd ty pos af g hm=>?_⟩
      obtain⟨L,G,hm⟩:=hm
      obtain⟨O,T,rs,i,w,d,I,B⟩:=hm.at hes (by simp)
      rw[hR]at w;cases w
      cases I with
      | @map _ en ck g3 g4 g5 =>
       rw[exe,Ad,hav]
       show wpS P ρ ((underlying t).bind _) σ _
       rw[Ad]
       refine Az hT ?_
       show wpS P ρ ((getObj bb).bind _) σ _
       rw[Ad]
       refine⟨_,.inr (lZ6 d),rfl,?_⟩
       show wpS P ρ ((Instr.checkKey false 10000 kt _).bind _) σ _
       rw[Ad]
       refine Akb hk hy hok ?_
       show wpS P ρ ((Instr.findKey kt (Af e' y) en).bind _) σ _
       rw[Ad]
       rcases Aje hp with⟨rfl,q⟩|⟨j,p,rfl,q,C,N⟩
       ·refine(Xu hk hy hok g3 _).1 q ?_
        refine⟨rfl,i,_,d,rfl,?_⟩
        refine⟨R,undef,.refl,.inr ⟨rfl,rfl⟩,.t .nil .nil,hm.put B hR d ?_⟩
        have b:(en.toArray.push ({key:=Af e' y,val:=Af e' z,born:=ck}:MapEntry))=(en++[({key:=Af e' y,val:=Af e' z,born:=ck}:MapEntry)]).toArray:=by simp
        rw[b]
        refine .map ?_ ?_ ⟨fun n z hn=>?_,by rw[g5.ck,lZ1];rfl⟩
        ·rw[Ir,Ir];exact g3.app hy
        ·rw[Ir,Ir];exact g4.app hz
        ·rw[List.getElem?_append]at hn
         split at hn
         ·exact g5.at_ n z hn
         ·rename_i hlt
          have hz:n-en.length=0:=by
           rcases Nat.eq_zero_or_pos (n-en.length) with h0|h0
           ·exact h0
           ·rw[Og (by simp only[Qq];omega)]at hn;cases hn
          rw[hz]at hn
          cases hn
          show ck=n
          rw[g5.ck];omega
       ·obtain⟨b,o1,K⟩:=(Xu (ρ:=ρ) (σ:=σ) hk hy hok g3 _).2 j p q C N
        refine K ?_
        have J:V1 R p.1 b.key:=by
         have E:(es.map Prod.fst)[j]?=some p.1:=by rw[Oj,q];rfl
         obtain⟨v',u,H⟩:=g3.at E
         rw[Oj,o1]at u
         cases u;exact H
        have hke:=Bby C hy J
        have hgj:en.toArray[j]?=some b:=by rw[Ib];exact o1
        show wpS P ρ ((Instr.keyThatStays (((en.toArray[j]?).map (·.key)).getD _) _).bind _) σ _
        rw[Ad,hgj]
        refine Xt hke ?_
        refine⟨rfl,i,_,d,rfl,?_⟩
        refine⟨R,undef,.refl,.inr ⟨rfl,rfl⟩,.t .nil .nil,hm.put B hR d ?_⟩
        have F:(en.toArray.modify j fun e=>{e with key:=Af e' y,val:=Af e' z})=(en.set j {b with key:=Af e' y,val:=Af e' z}).toArray:=by
         apply Array.ext'
         rw[Array.toList_modify]
         apply Ats
         intro n
         rw[List.getElem?_modify,Rk]
         by_cases hn:j=n
         ·subst hn
          have hj:=(Ig.1 o1).2
          simp[o1,(Ig.1 o1).1,hj]
         ·simp[hn]
        rw[F]
        have D:∀{l:List CV} {l':List Value} {c:CV} {v:Value},VR R l l'→V1 R c v→VR R (l.set j c) (l'.set j v):=fun {l l' c v} hl hc=>by
         have g:=hl.len
         by_cases hj:j<l.length
         ·rw[Bkr,Bkr,if_pos hj,if_pos (by omega)]
          exact(hl.take j).app (VR.cons_iff.2 ⟨hc,hl.drop (j+1)⟩)
         ·rw[List.set_eq_of_length_le (by omega),List.set_eq_of_length_le (by omega)];exact hl
        refine .map ?_ ?_ ⟨fun n z hn=>?_,by rw[Sm];exact g5.ck⟩
        ·rw[Aeh,Aeh];exact D g3 hy
        ·rw[Aeh,Aeh];exact D g4 hz
        ·rw[Rk]at hn
         split at hn
         ·rename_i hjn
          subst hjn
          split at hn
          ·cases hn;exact g5.at_ j b o1
          ·cases hn
         ·exact g5.at_ n z hn
     ·cases h'
    ·cases h'
   ·cases h'
  ·cases h
 ·cases h
theorem Aee(t:TypeId)(a y z:Operand):Gb P (.mapUpdate t a y z):=Zs _ t a y z rfl rfl fun _ _ _ _ _ _=>rfl
theorem Ape(t:TypeId)(a y z:Operand):Gb P (.insert t a y z):=Zs _ t a y z rfl rfl fun _ _ _ _ _ _=>rfl
theorem Atl(t:TypeId)(a:Operand):Gb P (.range t a):=fun R e e' m x m' he hg h=>by
 have ha:=Cj he hg a
 unfold opK at h
 simp only at h
 split at h
 ·rename_i kt et hT
  have h':(match (rdK a).run e with
   | .m k=>match m.obj k with|some (.map es)=>OR.v (.p m.nx 0) (m.add (.iter k (xLen es) []))|_=>.bad
   | _=>.bad) = .v x m':=h
  split at h'
  ·rename_i k hu
   split at h'
   ·rename_i es ho
    obtain⟨rfl,rfl⟩:=Fm h'
    rw[hu]at ha
    obtain⟨d,u,hR,hav⟩:=Bom ha
    refine .inr ⟨.add _ _,fun hx=>(by cases hx),fun ρ σ σ₀ dd ty pos af g hm=>?_⟩
    obtain⟨L,G,hm⟩:=hm
    obtain⟨b,c,en,ck,f,i,j,w,n⟩:=hm.map ho
    rw[hR]at f;cases f
    have q:xLen es=ck:=by
     rw[Fv,n.ck]
     have:=j.len
     simpa using this
    show wpS P ρ ((Instr.range t (Af e' a)).bind fun v=>Sem.pure (Next.value v)) σ _
    rw[Ad,hav]
    show wpS P ρ ((underlying t).bind _) σ _
    rw[Ad]
    refine Az hT ?_
    show wpS P ρ ((getObj d).bind _) σ _
    rw[Ad]
    refine⟨_,i,rfl,?_⟩
    show wpS P ρ ((newObj (.mapIter (some d) ck #[] ck)).bind _) σ _
    rw[Ad]
    refine .inl ⟨rfl,fun r=>?_⟩
    refine⟨R.add m.nx (r,0),_,hm.fresh _,.inl rfl,.p XR.add_same .nil,hm.add ?_⟩
    rw[q]
    exact .iter (sn:=[]) (hm.fresh _ _ _ hR)
   ·cases h'
  ·cases h'
 ·cases h
theorem Aif:∀(l:List MapEntry) (o:Nat),(∀i e,l[i]?=some e→e.born=o+i)→∀j e,l[j]?=some e→l.find? (·.born==o+j)=some e
 | [],o,h,j,e,hj=>by cases hj
 | a::l,o,h,j,e,hj=>by
  have ha:=h 0 a rfl
  rw[Vn]at ha
  rw[List.find?_cons]
  cases j with
  | zero =>
   cases hj
   rw[ha,Vn];simp
  | succ j =>
   have:(a.born==o+(j+1))=false:=by rw[ha];simp
   rw[this]
   have:=Aif l (o+1) (fun i e he=>by rw[h (i+1) e (by simpa using he)];omega) j e (by simpa using hj)
   rw[show o+1+j=o+(j+1) by omega]at this
   exact this
theorem Ati(a:Operand):Gb P (.entry a):=fun R e e' m x m' he hg h=>by
 have ha:=Cj he hg a
 have h':(match (rdK a).run e with
   | .p k 0=>match m.M.get k with
    | some (.own (.iter mk n seen))=>match seen.getLast?,m.obj mk with
     | some j,some (.map es)=>match Nat.beq (xLen es) n,xNth j es with
      | true,some (a,v)=>OR.v (.t [a,v]) m
      | _,_=>.bad
     | _,_=>.bad
    | _=>.bad
   | _=>.bad) = .v x m':=h
 split at h'
 ·rename_i k hu
  split at h'
  ·rename_i mk n seen hk
   split at h'
   ·rename_i j es hj ho
    split at h'
    ·rename_i ka va hn he2
     obtain⟨rfl,rfl⟩:=Fm h'
     have hn:=lZ7 hn
     rw[Fv]at hn
     rw[Xw]at he2
     rw[hu]at ha
     obtain⟨z,K,hR,hav⟩:=Aru ha
     refine .inr ⟨.refl _,fun hx=>(by cases hx),fun ρ σ σ₀ dd ty pos af g hm=>?_⟩
     obtain⟨L,G,hm⟩:=hm
     obtain⟨J,N,T,O,y,H,I,U⟩:=hm.at hk (by simp)
     rw[hR]at y;cases y
     obtain⟨b,c,en,ck,D,E,u,F,w⟩:=hm.map ho
     cases I with
     | iter hRm =>
      rw[D]at hRm;cases hRm
      have hen:en.length=n:=by
       have:=u.len
       simp only[Aax]at this
       omega
      obtain⟨V,f,B⟩:=u.at (d:=j) (v:=ka) (by rw[Oj,he2];rfl)
      obtain⟨W,q,C⟩:=F.at (d:=j) (v:=va) (by rw[Oj,he2];rfl)
      rw[Oj]at f q
      cases hej:en[j]? with
      | none=>rw[hej]at f;cases f
      | some ej =>
       rw[hej]at f q
       cases f;cases q
       show wpS P ρ ((Instr.entry (Af e' a)).bind fun v=>Sem.pure (Next.value v)) σ _
       rw[Ad,hav]
       show wpS P ρ ((getObj z).bind _) σ _
       rw[Ad]
       refine⟨_,.inr (lZ6 H),rfl,?_⟩
       have hb:seen.toArray.back?=some j:=by rw[List.back?_toArray];exact hj
       simp only[wpS,hb]
       show wpS P ρ ((getObj b).bind _) σ _
       rw[Ad]
       refine⟨_,E,rfl,?_⟩
       show wpS P ρ (if (ck != n)=true then _ else _) σ _
       rw[if_neg (by rw[w.ck,hen];simp)]
       have hf:en.toArray.find? (·.born==j)=some ej:=by
        rw[List.find?_toArray]
        have:=Aif en 0 (fun i e he=>by rw[Po];exact w.at_ i e he) j ej hej
        rwa[Po]at this
       simp only[hf]
       exact⟨R,_,.refl,.inl rfl,.t (VR.cons_iff.2 ⟨B,C⟩) .nil,L,G,hm⟩
    ·cases h'
   ·cases h'
  ·cases h'
 ·cases h'
def Atz:OR→Prop
 | .v _ _=>False
 | _=>True
def Bna:OR→Prop
 | .rd _ _=>False
 | _=>True
theorem Hr{o:Op}(h:∀e m,Atz ((opK P o).run e m)):Gb P o:=fun R e e' m x m' _ _ he=>by have:=h e m;rw[he]at this;exact this.elim
theorem Yo{o:Op}(h:∀e m,Bna ((opK P o).run e m)):Ans P o:=fun R e e' m x k _ _ he=>by have:=h e m;rw[he]at this;exact this.elim
theorem Asv(f:CV)(args:List CV):Atz (callK P f args):=by
 unfold callK
 split
 ·split<;>trivial
 ·trivial
 ·trivial
theorem Adg(f:CV)(args:List CV):Bna (callK P f args):=by
 unfold callK
 split
 ·split<;>trivial
 ·trivial
 ·trivial
/-- A call of a function value. -/
theorem Ji{f:Operand}{az:Array Operand}{ts:Array TypeId}{y:OR}(h:(opK P (.call ⟨.value f,az,ts⟩)).run e m=y) :
  (∃g ex v,f = .func g∧xExt P g=some ex∧xExtV ex ((rdsK az.toList).run e)=some v∧y = .v v m)∨y = .bad∨callK P ((rdK f).run e) ((rdsK az.toList).run e)=y:=by
 cases f with
 | func g =>
  unfold opK at h
  simp only at h
  split at h
  ·rename_i ex hx
   have h':(match xExtV ex ((rdsK az.toList).run e) with|some v=>OR.v v m|none=>.bad)=y:=h
   cases hv:xExtV ex ((rdsK az.toList).run e) with
   | some v=>rw[hv]at h';exact .inl ⟨g,ex,v,rfl,hx,hv,h'.symm⟩
   | none=>rw[hv]at h';exact .inr (.inl h'.symm)
  ·exact .inr (.inr h)
 | tmp t=>exact .inr (.inr h)
 | const v=>exact .inr (.inr h)
 | global g=>exact .inr (.inr h)
theorem Awt(o:Op):Gb P o:=by
 cases o with
 | move a=>exact Ayw a
 | assign a=>exact Apd a
 | pick c a b=>exact Ayx c a b
 | alloc t=>exact Atf t
 | box t a=>exact Bcl t a
 | build t ps=>exact Atg t ps
 | buildSlice t n ps=>exact Aak t n ps
 | load t a =>
  refine Hr fun e m=>?_
  show Atz (loadM P t ((rdK a).run e) m)
  unfold loadM
  split
  ·split
   ·split<;>trivial
   ·trivial
  ·trivial
 | store t a v=>exact Atn t a v
 | nilCheck a=>exact Ahl a
 | binOp op t a b t'=>exact Bck op t a b t'
 | unOp op t a =>
  cases op with
  | not=>exact Bco t a
  | neg=>exact Bcn t a
  | _=>exact Hr fun e m=>trivial
 | convert s d a=>exact Ath s d a
 | makeFunc f xs ys =>
  cases f with
  | func f=>exact Ahk f xs ys
  | _=>exact Hr fun e m=>trivial
 | makeMap t r =>
  cases r with
  | none=>exact Amq t
  | some r=>exact Hr fun e m=>trivial
 | makeChan t s=>exact Ahj t s
 | fieldAddr t a i=>exact Adz t a i
 | indexAddr t a b=>exact Aea t a b
 | index t a b=>exact Atk t a b
 | lookup t a y ok =>
  refine Hr fun e m=>?_
  unfold opK
  simp only
  split
  ·split
   ·rename_i mk z _ _
    show Atz (lookM mk z ok ((rdK a).run e) ((rdK y).run e) m)
    unfold lookM
    split
    ·split
     ·split<;>trivial
     ·trivial
    ·trivial
   ·trivial
  ·trivial
 | mapUpdate t a y z=>exact Aee t a y z
 | slice t a lo hi mx=>exact Atm t a lo hi mx
 | field t a i=>exact Atj t a i
 | makeSlice t a b=>exact Aed t a b
 | insert t a y z=>exact Ape t a y z
 | range t a=>exact Atl t a
 | entry a=>exact Ati a
 | extract a i=>exact Amo a i
 | call c =>
  cases hc:c.callee with
  | builtin b=>exact Amn c b hc
  | value f =>
   intro R e e' m x m' he hg h
   obtain⟨cl,az,ts⟩:=c
   simp only at hc
   subst hc
   rcases Ji h with⟨g,ex,v,rfl,hx,hv,j⟩|j|j
   ·cases j
    exact .inl ⟨rfl,Bcm rfl hx he hg hv⟩
   ·cases j
   ·have:=Asv (P:=P) ((rdK f).run e) ((rdsK az.toList).run e)
    rw[j]at this
    exact this.elim
  | invoke r n =>
   refine Hr fun e m=>?_
   unfold opK
   simp only[hc]
   trivial
 | go c =>
  refine Hr fun e m=>?_
  unfold opK
  simp only
  split<;>trivial
 | defer c =>
  refine Hr fun e m=>?_
  unfold opK
  simp only
  split
  ·rename_i t _ _
   show Atz (match e.get t with|some x=>.dclose x|none=>.bad)
   split<;>trivial
  ·trivial
 | send a b =>
  refine Hr fun e m=>?_
  show Atz (match (rdK a).run e with | .c k=>.send k ((rdK b).run e)|_=>.bad)
  split<;>trivial
 | recv t a ok =>
  refine Hr fun e m=>?_
  unfold opK
  simp only
  split
  ·split
   ·show Atz (match (rdK a).run e with | .c k=>.recv k ok|_=>.bad)
    split<;>trivial
   ·trivial
  ·trivial
 | _=>exact Hr fun e m=>trivial
end
end
section
open Go
section
variable{P:Program}{R:XR}{e:Tr CV}{e':Env}{m m':Mem}{x:CV}{ρ:Ro}{σ σ₀:Own}
def Sz:OR→Prop
 | .v _ _=>True
 | .rd _ _=>True
 | .bad=>True
 | _=>False
def simpleRd:OR→Prop
 | .v _ _=>True
 | .bad=>True
 | _=>False
theorem simpleRd.s{y:OR}(h:simpleRd y):Sz y:=by cases y<;>first|trivial|exact h.elim
theorem simpleRd.r{y:OR}(h:simpleRd y):Bna y:=by cases y<;>first|trivial|exact h.elim
theorem Axv(n:Nat)(args:List CV)(m:Mem):simpleRd ((appendK n).run args m):=by
 unfold appendK
 dsimp only
 repeat' (first|trivial|split)
theorem Axw(n:Nat)(z args:List CV)(m:Mem):simpleRd ((appendZ n z).run args m):=by
 unfold appendZ
 dsimp only
 repeat' (first|trivial|split)
theorem Bat(n k off ln:Nat)(kn:Bool)(c l:Nat)(h q:Option Nat)(m:Mem):Sz (xSliceM n k off ln kn c l h q m):=by
 unfold xSliceM
 repeat' (first|trivial|(dsimp only;split)|split)
theorem Ass(b:Builtin)(ts:List TypeId)(args:List CV)(m:Mem):simpleRd ((builtinK P b ts).run args m):=by
 unfold builtinK
 split
 all_goals repeat' (first|trivial|exact Axv _ _ _|exact Axw _ _ _ _|(dsimp only;split)|split)
/-- What is not simple. -/
def Bcp:Op→Bool
 | .call {callee:=.value _,..}=>true
 | .go _ | .defer _ | .send .. | .recv ..=>true
 | _=>false
def reads:Op→Bool
 | .load .. | .lookup .. | .slice ..=>true
 | _=>false
theorem Aws(o:Op)(h1:Bcp o=false)(h2:reads o=false)(e:Tr CV)(m:Mem):simpleRd ((opK P o).run e m):=by
 cases o with
 | call c =>
  obtain⟨cal,az,ts⟩:=c
  cases cal with
  | value f=>cases h1
  | builtin b=>exact Ass _ _ _ _
  | invoke r n=>trivial
 | go c=>cases h1
 | defer c=>cases h1
 | send a b=>cases h1
 | recv t a ok=>cases h1
 | load t a=>cases h2
 | lookup t a y ok=>cases h2
 | unOp op t a=>cases op<;>(unfold opK;repeat' (first|trivial|(dsimp only;split)|split))
 | makeFunc f xs ys=>cases f<;>(unfold opK;repeat' (first|trivial|(dsimp only;split)|split))
 | makeMap t r=>cases r<;>(unfold opK;repeat' (first|trivial|(dsimp only;split)|split))
 | slice t a lo hi mx=>cases h2
 | extract a i =>
  unfold opK
  dsimp only
  split
  ·unfold xVOf;split<;>trivial
  ·trivial
 | _=>unfold opK;repeat' (first|trivial|(dsimp only;split)|split)
theorem Aub(o:Op):Ans P o:=by
 by_cases h2:reads o=true
 ·cases o with
  | load t a=>exact Ayv t a
  | lookup t a y ok=>exact Apf t a y ok
  | slice t a lo hi mx=>exact Apg t a lo hi mx
  | _=>cases h2
 ·by_cases d:Bcp o=true
  ·refine Yo fun e m=>?_
   cases o with
   | call c =>
    obtain⟨cal,az,ts⟩:=c
    cases cal with
    | value f =>
     rcases Ji (P:=P) (e:=e) (m:=m) (f:=f) (az:=az) (ts:=ts) rfl with⟨g,ex,v,_,_,_,d⟩|d|d
     ·rw[d];trivial
     ·rw[d];trivial
     ·rw[←d];exact Adg _ _
    | builtin b=>cases d
    | invoke r n=>cases d
   | go c=>unfold opK;dsimp only;split<;>trivial
   | defer c=>unfold opK;dsimp only;split<;>first|trivial|(dsimp only;split<;>trivial)
   | send a b=>unfold opK;dsimp only;split<;>trivial
   | recv t a ok=>unfold opK;dsimp only;repeat' (first|trivial|(dsimp only;split)|split)
   | _=>cases d
  ·exact Yo fun e m=>(Aws o (by simpa using d) (by simpa using h2) e m).r
/-- Which operation brings what. -/
theorem Tp{o:Op}(h:¬Sz ((opK P o).run e m)):Bcp o=true:=by
 by_cases h1:Bcp o=true
 ·exact h1
 ·by_cases h2:reads o=true
  ·exfalso
   apply h
   cases o with
   | load t a =>
    show Sz (loadM P t ((rdK a).run e) m)
    unfold loadM
    repeat' (first|trivial|split)
   | lookup t a y ok =>
    unfold opK
    dsimp only
    split
    ·split
     ·rename_i mk z _ _
      show Sz (lookM mk z ok ((rdK a).run e) ((rdK y).run e) m)
      unfold lookM
      repeat' (first|trivial|split)
     ·trivial
    ·trivial
   | slice t a lo hi mx=>unfold opK;repeat' (first|trivial|exact Bat .. | (dsimp only;split)|split)
   | _=>cases h2
  ·exact absurd (Aws o (by simpa using h1) (by simpa using h2) e m).s h
theorem Ln{f:CV}{args:List CV}{y:OR}(h:callK P f args=y)(hb:y ≠ .bad) :
  (∃g xs ys,f = .f g xs ys∧xHasBody P g=true∧y = .enter g (xApp xs (xApp args ys)))∨(∃k,f = .y k∧y = .round k args):=by
 cases f with
 | f g xs ys =>
  have h':(match xHasBody P g with|true=>OR.enter g (xApp xs (xApp args ys))|false=>.bad)=y:=h
  split at h'
  ·rename_i hb;exact .inl ⟨g,xs,ys,rfl,hb,h'.symm⟩
  ·exact absurd h'.symm hb
 | y k=>exact .inr ⟨k,rfl,h.symm⟩
 | _=>exact absurd h.symm hb
theorem Qp{g:Nat}(h:xHasBody P g=true):∃fn,P.funcs[g]?=some fn∧(fn.name == "runtime.NumGoroutine")=false∧fn.body.isNone=false:=by
 unfold xHasBody at h
 split at h
 ·rename_i fn hf
  split at h
  ·cases h
  ·rename_i hn
   refine⟨fn,hf,hn,?_⟩
   cases hb:fn.body with
   | none=>rw[hb]at h;cases h
   | some c=>rfl
 ·cases h
theorem Bge{v:Value}{g:Nat}{xs ys:List CV}(h:V1 R (.f g xs ys) v):∃xs' ys',VR R xs xs'∧VR R ys ys'∧v = .func (.func g) xs'.toArray ys'.toArray:=by
 cases h with|f g h1 h2 _=>exact⟨_,_,h1,h2,rfl⟩
theorem Brl{v:Value}{k:Nat}(h:V1 R (.y k) v):∃b c,R k=some (b,c)∧v = .func (.yield b) #[] #[]:=by
 cases h with|y h1 _=>exact⟨_,_,h1,rfl⟩
/-- A call. -/
theorem Azt{o:Op}{f:FuncId}{args:List CV}(he:EnvR R e e')(hg:Jp R)(h:(opK P o).run e m = .enter f args) :
  ∃args',VR R args args'∧∀(Q:Next→Own→Prop) ρ σ dd ty pos af g,Q (.enter f args'.toArray) σ→wpS P ρ (execOp (Af e') ⟨dd,o,ty,pos,af,g⟩) σ Q:=by
 have hh:=Tp (P:=P) (o:=o) (e:=e) (m:=m) (by rw[h];exact id)
 cases o with
 | call c =>
  obtain⟨cal,ops,tys⟩:=c
  cases cal with
  | value x =>
   have h':callK P ((rdK x).run e) ((rdsK ops.toList).run e) = .enter f args:=by
    rcases Ji h with⟨_,_,_,_,_,_,i⟩|i|i
    ·cases i
    ·cases i
    ·exact i
   have hx:=Cj he hg x
   have ha:=Tx he hg ops.toList
   rcases Ln h' (by simp) with⟨g,xs,ys,i,q,j⟩|⟨k,_,j⟩
   ·cases j
    rw[i]at hx
    obtain⟨xs',ys',u,v,hv⟩:=Bge hx
    obtain⟨fn,hf,hn,hb⟩:=Qp q
    refine⟨xs'++(ops.toList.map (Af e')++ys'),?_,fun Q ρ σ dd ty pos af gd hQ=>?_⟩
    ·rw[Ho,Ho];exact u.app (ha.app v)
    ·show wpS P ρ ((Deferred.ofValue (Af e' x) (ops.map (Af e'))).bind fun d=>invoke d.target d.args) σ Q
     rw[hv]
     show wpS P ρ (callFunc f ((xs'.toArray++ops.map (Af e'))++ys'.toArray)) σ Q
     refine Mr hf hn hb ?_
     have p:(xs'.toArray++ops.map (Af e'))++ys'.toArray=(xs'++(ops.toList.map (Af e')++ys')).toArray:=by
      apply Array.ext'
      simp
     rw[p];exact hQ
   ·cases j
  | builtin b=> cases hh
  | invoke r n=>cases hh
 | go c=>exfalso;unfold opK at h;dsimp only at h;split at h<;>cases h
 | defer c =>
  exfalso;unfold opK at h;dsimp only at h
  split at h
  ·dsimp only at h;split at h<;>cases h
  ·cases h
 | send a b=>exfalso;unfold opK at h;dsimp only at h;split at h<;>cases h
 | recv t a ok =>
  exfalso;unfold opK at h;dsimp only at h
  split at h
  ·split at h
   ·dsimp only at h;split at h<;>cases h
   ·cases h
  ·cases h
 | _=>cases hh
/-- A round of a range over a function. -/
theorem Azu{o:Op}{k:Nat}{args:List CV}(he:EnvR R e e')(hg:Jp R)(h:(opK P o).run e m = .round k args) :
  ∃args' b c,R k=some (b,c)∧VR R args args'∧∀(Q:Next→Own→Prop) ρ σ dd ty pos af g,wpS P ρ (Instr.yield b args'.toArray) σ Q→wpS P ρ (execOp (Af e') ⟨dd,o,ty,pos,af,g⟩) σ Q:=by
 have hh:=Tp (P:=P) (o:=o) (e:=e) (m:=m) (by rw[h];exact id)
 cases o with
 | call c =>
  obtain⟨cal,ops,tys⟩:=c
  cases cal with
  | value x =>
   have h':callK P ((rdK x).run e) ((rdsK ops.toList).run e) = .round k args:=by
    rcases Ji h with⟨_,_,_,_,_,_,f⟩|f|f
    ·cases f
    ·cases f
    ·exact f
   have hx:=Cj he hg x
   have ha:=Tx he hg ops.toList
   rcases Ln h' (by simp) with⟨g,xs,ys,f,p,i⟩|⟨q,f,i⟩
   ·cases i
   ·cases i
    rw[f]at hx
    obtain⟨b,c,hR,hv⟩:=Brl hx
    refine⟨ops.toList.map (Af e'),b,c,hR,ha,fun Q ρ σ dd ty pos af gd hQ=>?_⟩
    show wpS P ρ ((Deferred.ofValue (Af e' x) (ops.map (Af e'))).bind fun d=>invoke d.target d.args) σ Q
    rw[hv]
    show wpS P ρ (Instr.yield b (#[]++ops.map (Af e'))) σ Q
    have j:(#[]++ops.map (Af e'))=(ops.toList.map (Af e')).toArray:=by
     apply Array.ext'
     simp
    rw[j];exact hQ
  | builtin b=>cases hh
  | invoke r n=>cases hh
 | go c=>exfalso;unfold opK at h;dsimp only at h;split at h<;>cases h
 | defer c =>
  exfalso;unfold opK at h;dsimp only at h
  split at h
  ·dsimp only at h;split at h<;>cases h
  ·cases h
 | send a b=>exfalso;unfold opK at h;dsimp only at h;split at h<;>cases h
 | recv t a ok =>
  exfalso;unfold opK at h;dsimp only at h
  split at h
  ·split at h
   ·dsimp only at h;split at h<;>cases h
   ·cases h
  ·cases h
 | _=>cases hh
/-- A goroutine. -/
theorem Bex{o:Op}{f:CV}{args:List CV}(h:(opK P o).run e m = .go f args) :
  ∃x ops tys,o = .go ⟨.value x,ops,tys⟩∧f=(rdK x).run e∧args=(rdsK ops.toList).run e:=by
 have hh:=Tp (P:=P) (o:=o) (e:=e) (m:=m) (by rw[h];exact id)
 cases o with
 | go c =>
  obtain⟨cal,ops,tys⟩:=c
  cases cal with
  | value x =>
   have h':OR.go ((rdK x).run e) ((rdsK ops.toList).run e) = .go f args:=h
   cases h'
   exact⟨x,ops,tys,rfl,rfl,rfl⟩
  | builtin b=>cases h
  | invoke r n=>cases h
 | call c =>
  exfalso
  obtain⟨cal,ops,tys⟩:=c
  cases cal with
  | value x =>
   have h':callK P ((rdK x).run e) ((rdsK ops.toList).run e) = .go f args:=by
    rcases Ji h with⟨_,_,_,_,_,_,d⟩|d|d
    ·cases d
    ·cases d
    ·exact d
   rcases Ln h' (by simp) with⟨_,_,_,_,_,g⟩|⟨_,_,g⟩<;>cases g
  | builtin b=>cases hh
  | invoke r n=>cases hh
 | defer c =>
  exfalso;unfold opK at h;dsimp only at h
  split at h
  ·dsimp only at h;split at h<;>cases h
  ·cases h
 | send a b=>exfalso;unfold opK at h;dsimp only at h;split at h<;>cases h
 | recv t a ok =>
  exfalso;unfold opK at h;dsimp only at h
  split at h
  ·split at h
   ·dsimp only at h;split at h<;>cases h
   ·cases h
  ·cases h
 | _=>cases hh
/-- A receive. -/
theorem Aqv{o:Op}{k:Nat}{ok:Bool}(h:(opK P o).run e m = .recv k ok) :
  ∃t x d el z,o = .recv t x ok∧P.underlying t=some (.chan d el)∧Fw P el z∧(rdK x).run e = .c k:=by
 have hh:=Tp (P:=P) (o:=o) (e:=e) (m:=m) (by rw[h];exact id)
 cases o with
 | recv t a ok' =>
  unfold opK at h;dsimp only at h
  split at h
  ·rename_i d el hT
   split at h
   ·rename_i z hz
    dsimp only at h
    split at h
    ·rename_i k1 hk
     cases h
     obtain⟨v,hv,_⟩:=Mf hz
     exact⟨t,a,d,el,v,rfl,hT,hv,hk⟩
    ·cases h
   ·cases h
  ·cases h
 | call c =>
  exfalso
  obtain⟨cal,ops,tys⟩:=c
  cases cal with
  | value x =>
   have h':callK P ((rdK x).run e) ((rdsK ops.toList).run e) = .recv k ok:=by
    rcases Ji h with⟨_,_,_,_,_,_,f⟩|f|f
    ·cases f
    ·cases f
    ·exact f
   rcases Ln h' (by simp) with⟨_,_,_,_,_,g⟩|⟨_,_,g⟩<;>cases g
  | builtin b=>cases hh
  | invoke r n=>cases hh
 | defer c =>
  exfalso;unfold opK at h;dsimp only at h
  split at h
  ·dsimp only at h;split at h<;>cases h
  ·cases h
 | send a b=>exfalso;unfold opK at h;dsimp only at h;split at h<;>cases h
 | go c=>exfalso;unfold opK at h;dsimp only at h;split at h<;>cases h
 | _=>cases hh
/-- A send. -/
theorem Bey{o:Op}{k:Nat}{x:CV}(h:(opK P o).run e m = .send k x) :
  ∃a b,o = .send a b∧(rdK a).run e = .c k∧(rdK b).run e=x:=by
 have hh:=Tp (P:=P) (o:=o) (e:=e) (m:=m) (by rw[h];exact id)
 cases o with
 | send a b =>
  unfold opK at h;dsimp only at h
  split at h
  ·rename_i k1 hk;cases h;exact⟨a,b,rfl,hk,rfl⟩
  ·cases h
 | recv t a ok =>
  exfalso;unfold opK at h;dsimp only at h
  split at h
  ·split at h
   ·dsimp only at h;split at h<;>cases h
   ·cases h
  ·cases h
 | call c =>
  exfalso
  obtain⟨cal,ops,tys⟩:=c
  cases cal with
  | value y =>
   have h':callK P ((rdK y).run e) ((rdsK ops.toList).run e) = .send k x:=by
    rcases Ji h with⟨_,_,_,_,_,_,d⟩|d|d
    ·cases d
    ·cases d
    ·exact d
   rcases Ln h' (by simp) with⟨_,_,_,_,_,f⟩|⟨_,_,f⟩<;>cases f
  | builtin b=>cases hh
  | invoke r n=>cases hh
 | defer c =>
  exfalso;unfold opK at h;dsimp only at h
  split at h
  ·dsimp only at h;split at h<;>cases h
  ·cases h
 | go c=>exfalso;unfold opK at h;dsimp only at h;split at h<;>cases h
 | _=>cases hh
/-- A close that is deferred. -/
theorem Aua{o:Op}{x:CV}(h:(opK P o).run e m = .dclose x) :
  ∃t tys,o = .defer ⟨.builtin .close,#[.tmp t],tys⟩∧e.get t=some x:=by
 have hh:=Tp (P:=P) (o:=o) (e:=e) (m:=m) (by rw[h];exact id)
 cases o with
 | defer c =>
  obtain⟨cal,ops,tys⟩:=c
  unfold opK at h;dsimp only at h
  split at h
  ·rename_i t ho
   dsimp only at h
   split at h
   ·rename_i y hy
    cases h
    refine⟨t,tys,?_,hy⟩
    have:ops = #[.tmp t]:=by apply Array.ext';simpa using ho
    rw[this]
   ·cases h
  ·cases h
 | recv t a ok =>
  exfalso;unfold opK at h;dsimp only at h
  split at h
  ·split at h
   ·dsimp only at h;split at h<;>cases h
   ·cases h
  ·cases h
 | call c =>
  exfalso
  obtain⟨cal,ops,tys⟩:=c
  cases cal with
  | value y =>
   have h':callK P ((rdK y).run e) ((rdsK ops.toList).run e) = .dclose x:=by
    rcases Ji h with⟨_,_,_,_,_,_,d⟩|d|d
    ·cases d
    ·cases d
    ·exact d
   rcases Ln h' (by simp) with⟨_,_,_,_,_,f⟩|⟨_,_,f⟩<;>cases f
  | builtin b=>cases hh
  | invoke r n=>cases hh
 | send a b=>exfalso;unfold opK at h;dsimp only at h;split at h<;>cases h
 | go c=>exfalso;unfold opK at h;dsimp only at h;split at h<;>cases h
 | _=>cases hh
end
end
section
open Go
noncomputable def xOkL(l:List CV):Bool:=CV.rec_1 (motive_1:=fun _=>Bool) (motive_2:=fun _=>Bool) false (fun _=>true) (fun _ _=>true) (fun _=>true) true (fun _ _=>true) true (fun _ _ _ _ _=>true) true (fun _=>true) true (fun _=>true) true (fun _ _ _ a b=>a&&b) (fun _=>true) true (fun _ _ a=>a) (fun _ a=>a) (fun _ a=>a) true (fun _ _ a b=>a&&b) l
theorem Oc(a:CV)(l:List CV):xOkL (a::l)=(xOkV a&&xOkL l):=rfl
theorem Boq(g:Nat)(xs ys:List CV):xOkV (.f g xs ys)=(xOkL xs&&xOkL ys):=rfl
theorem Bop(t:Nat)(v:CV):xOkV (.a t v)=xOkV v:=rfl
theorem Bor(l:List CV):xOkV (.g l)=xOkL l:=rfl
theorem Bos(l:List CV):xOkV (.t l)=xOkL l:=rfl
theorem VR.uniq{R:XR}{l:List CV}{v:List Value}(h:VR R l v):∀{v':List Value},VR R l v'→xOkL l=true→v=v':=by
 induction h with
 | nil=>intro v' h' _;cases h';rfl
 | bad _ _ ih=>intro v' h' hk;cases hk
 | b x _ ih=>intro v' h' hk;cases h' with|b _ h'=>rw[ih h' hk]
 | i k n _ ih=>intro v' h' hk;cases h' with|i _ _ h'=>rw[ih h' hk]
 | s x _ ih=>intro v' h' hk;cases h' with|s _ h'=>rw[ih h' hk]
 | pn _ ih=>intro v' h' hk;cases h' with|pn h'=>rw[ih h' hk]
 | p h1 _ ih=>intro v' h' hk;cases h' with|p h2 h'=>rw[h1]at h2;cases h2;rw[ih h' hk]
 | sn _ ih=>intro v' h' hk;cases h' with|sn h'=>rw[ih h' hk]
 | slK h1 _ ih=>intro v' h' hk;cases h' with|slK h2 h'=>rw[h1]at h2;cases h2;rw[ih h' hk]
 | slU h1 _ ih=>intro v' h' hk;cases h' with|slU h2 h'=>rw[h1]at h2;cases h2;rw[ih h' hk]
 | mn _ ih=>intro v' h' hk;cases h' with|mn h'=>rw[ih h' hk]
 | m h1 _ ih=>intro v' h' hk;cases h' with|m h2 h'=>rw[h1]at h2;cases h2;rw[ih h' hk]
 | cn _ ih=>intro v' h' hk;cases h' with|cn h'=>rw[ih h' hk]
 | c h1 _ ih=>intro v' h' hk;cases h' with|c h2 h'=>rw[h1]at h2;cases h2;rw[ih h' hk]
 | fn _ ih=>intro v' h' hk;cases h' with|fn h'=>rw[ih h' hk]
 | f g h1 h2 h3 ih1 ih2 ih3 =>
  intro v' h' hk
  rw[Oc,Boq,Fd,Fd]at hk
  cases h' with|f _ g1 g2 g3=>rw[ih1 g1 hk.1.1,ih2 g2 hk.1.2,ih3 g3 hk.2]
 | y h1 _ ih=>intro v' h' hk;cases h' with|y h2 h'=>rw[h1]at h2;cases h2;rw[ih h' hk]
 | n _ ih=>intro v' h' hk;cases h' with|n h'=>rw[ih h' hk]
 | a t h1 h2 ih1 ih2 =>
  intro v' h' hk
  rw[Oc,Bop,Fd]at hk
  cases h' with|a _ g1 g2 =>
   have:=ih1 g1 (by rw[Oc,hk.1];rfl)
   cases this
   rw[ih2 g2 hk.2]
 | g h1 h2 ih1 ih2 =>
  intro v' h' hk
  rw[Oc,Bor,Fd]at hk
  cases h' with|g g1 g2=>rw[ih1 g1 hk.1,ih2 g2 hk.2]
 | t h1 h2 ih1 ih2 =>
  intro v' h' hk
  rw[Oc,Bos,Fd]at hk
  cases h' with|t g1 g2=>rw[ih1 g1 hk.1,ih2 g2 hk.2]
theorem V1.uniq{R:XR}{x:CV}{v v':Value}(h:V1 R x v)(h':V1 R x v')(hk:xOkV x=true):v=v':=by
 have:=VR.uniq h h' (by rw[Oc,hk];rfl)
 cases this;rfl
/-- A plain value. -/
noncomputable def plainV:CV→Value
 | .b x=>.bool x
 | .i k n=>.int k n
 | .s x=>.string ⟨x.toArray⟩
 | _=>undef
theorem Bfb{R:XR}{x:CV}{v:Value}(hx:xPlainV x=true)(h:V1 R x v):v=plainV x:=by
 cases x with
 | b y=>cases h;rfl
 | i k n=>cases h;rfl
 | s y=>cases h;rfl
 | _=>cases hx
theorem Bfa(R:XR){x:CV}(hx:xPlainV x=true):V1 R x (plainV x):=by
 cases x with
 | b y=>exact .b _ .nil
 | i k n=>exact .i _ _ .nil
 | s y=>exact .s _ .nil
 | _=>cases hx
theorem Aqx(R:XR):∀{l:List CV},(∀x∈l,xPlainV x=true)→VR R l (l.map plainV)
 | [],_=>.nil
 | x::l,h=>VR.cons_iff.2 ⟨Bfa R (h x mC),Aqx R fun y hy=>h y (lZ0 _ hy)⟩
end
section
open Go Go.Conc
structure Kept(m m':Mem):Prop where
 nx:m.nx≤m'.nx
 ex:∃w,m'.log=w++m.log∧m'.ln=m.ln+w.length∧∀k,k<m.nx→k∉w→m'.obj k=m.obj k
 outs:∃w,m'.outs=w++m.outs∧∀x∈w,xPlainV x=true
theorem Afk{m m':Mem}{k:Nat}(h:m'.M.get k=m.M.get k):m'.obj k=m.obj k:=by unfold Mem.obj;rw[h]
theorem LogOk.kept{m m':Mem}(h:LogOk m m'):Kept m m' :=
 ⟨h.nx,let ⟨w,h1,h2,h3⟩:=h.ex;⟨w,h1,h2,fun k hk hn=>Afk (h3 k hk hn)⟩,[],by rw[h.outs];rfl,by simp⟩
theorem Kept.refl(m:Mem):Kept m m:=(LogOk.refl m).kept
theorem Kept.trans{m m' m'':Mem}(h:Kept m m')(h':Kept m' m''):Kept m m'':=by
 obtain⟨w,a,b,c⟩:=h.ex
 obtain⟨w',d,e,f⟩:=h'.ex
 obtain⟨u,g,i⟩:=h.outs
 obtain⟨u',j,n⟩:=h'.outs
 refine⟨Mm h.nx h'.nx,⟨w'++w,by rw[d,a,lZ9],by rw[e,b,lZ1];omega,fun k hk hn=>?_⟩,u'++u,by rw[j,g,lZ9],fun x hx=>?_⟩
 ·rw[f k (Ng hk h.nx) (fun hm=>hn (Lb _ hm)),c k hk (fun hm=>hn (Ix _ hm))]
 ·exact(Fb.1 hx).elim (n x) (i x)
/-- What was sent is put back. -/
theorem Kept.rest{m m':Mem}(h:Kept m m'):Kept m (xRest m' m.outs):=⟨h.nx,h.ex,[],rfl,by simp⟩
/-- What the places of a walk satisfy,by what has been sent. -/
structure GoT(C:Ctx) where
 Go:List CV→Frame→List Frame→Ro→Own→Prop
 suf:List CV→Prop
 bind:∀{o S fr cs ρ σ},GoesH C S fr cs ρ σ→(∀fr cs ρ σ,S fr cs ρ σ→Go o fr cs ρ σ)→Go o fr cs ρ σ
 less:∀w o,suf (w++o)→suf o
 rk:XR→Prop
 rkm:∀R R',XR.le R R'→rk R→rk R'
def goT(C:Ctx)(S:Cy):GoT C:=⟨fun _=>GoesH C S,fun _=>True,fun h hk=>h.bind hk,fun _ _ h=>h,fun _=>True,fun _ _ _ h=>h⟩
def Arp(P:Program)(c kc:Nat)(fin:List CV):GoT (Wn P) :=
  ⟨fun o fr cs ρ σ => ∀l, fin=l++o → SendI P c (l.reverse.map plainV) fr cs ρ σ, fun o => ∃l, fin=l++o, fun h hk l hl => SendI.of_goes h fun fr cs ρ σ hs => hk fr cs ρ σ hs l hl,
   fun w o ⟨l,h⟩=>⟨l++w,by rw[h,lZ9]⟩,
   fun R=>∃cc,R kc=some (c,cc),fun _ _ hR ⟨cc,h⟩=>⟨cc,hR _ _ h⟩⟩
section
variable{C:Ctx}{G:GoT C}{o o' o1:List CV}{fr fr':Frame}{cs cs':List Frame}{ρ:Ro}{σ:Own}
theorem GoT.less_of(G:GoT C){m m':Mem}(h:Kept m m')(hs:G.suf m'.outs):G.suf m.outs:=by
 obtain⟨w,a,_⟩:=h.outs
 rw[a]at hs
 exact G.less w _ hs
theorem GoT.move(G:GoT C)(h:∀W,stepG C.P C.main (Conc.G fr cs) W = .go (Conc.G fr' cs') W #[])(hk:G.Go o fr' cs' ρ σ):G.Go o fr cs ρ σ :=
 G.bind (Eh h (.stop (S:=fun a b c d=>a=fr'∧b=cs'∧c=ρ∧d=σ) ⟨rfl,rfl,rfl,rfl⟩)) (by rintro _ _ _ _ ⟨rfl,rfl,rfl,rfl⟩;exact hk)
end
/-- A piece of code that is left in this way. -/
def Reach{C:Ctx}(G:GoT C)(b:FB)(n:Nat)(c:Code)(o:List CV)(e:Env)(ds:List Deferred)(ρ:Ro)(σ:Own)(ex:Ex)(o':List CV)(Q:Env→List Deferred→Ro→Own→Prop):Prop :=
 ∀tm k cs,EnvOf n tm e→(∀tm' e' ds' ρ' σ' todo,EnvOf n tm' e'→Q e' ds' ρ' σ'→Pl ex k todo→G.Go o' (Fr b tm' ds' todo) cs ρ' σ')→G.Go o (Fr b tm ds (.code c::k)) cs ρ σ
section
variable{C:Ctx}{G:GoT C}{b:FB}{n:Nat}{o o1 o':List CV}{e:Env}{ds:List Deferred}{ρ:Ro}{σ:Own}{ex:Ex}{Q Q':Env→List Deferred→Ro→Own→Prop}
theorem Reach.mono{c:Code}(h:Reach G b n c o e ds ρ σ ex o' Q)(hq:∀e ds ρ σ,Q e ds ρ σ→Q' e ds ρ σ):Reach G b n c o e ds ρ σ ex o' Q' :=
 fun tm k cs ht hk=>h tm k cs ht fun tm' e' ds' ρ' σ' i d f g=>hk tm' e' ds' ρ' σ' i d (hq _ _ _ _ f) g
/-- As a judgement of old. -/
theorem Reach.wp{S:Cy}{c:Code}{Q:Hu}(h:∀S:Cy,Reach (goT C S) b n c o e ds ρ σ ex o' (fun e ds ρ σ=>Q ex e ds ρ σ)):WpC C b n c Q e ds ρ σ:=fun tm k cs ht =>
 h _ tm k cs ht fun tm' e' ds' ρ' σ' g a d f=>.stop (.inl ⟨rfl,ex,tm',e',ds',g,a,d,f,rfl⟩)
theorem Reach.of_wp{c:Code}(h:WpC C b n c (fun ex' e ds ρ σ=>ex'=ex∧Q e ds ρ σ) e ds ρ σ):Reach G b n c o e ds ρ σ ex o Q:=fun tm k cs ht hk =>
 G.bind (h.stops tm k cs ht) (by rintro _ _ _ _ ⟨rfl,ex,tm',e',ds',g,a,⟨rfl,d⟩,f,rfl⟩;exact hk _ _ _ _ _ _ a d f)
theorem Bnu(h:Q e ds ρ σ):Reach G b n .skip o e ds ρ σ .normal o Q:=fun tm k cs ht hk =>
 G.move (fr':=Fr b tm ds k) (cs':=cs) (fun W=>by simp[Conc.G,stepG,stepG.exec,Fr]) (hk tm e ds ρ σ k ht h rfl)
theorem Bqa(h:Q e ds ρ σ):Reach G b n .ret o e ds ρ σ .ret o Q:=fun tm k cs ht hk=>hk tm e ds ρ σ _ ht h ⟨[],rfl⟩
theorem Bnr{id:Nat}(h:Q e ds ρ σ):Reach G b n (.exit id) o e ds ρ σ (.exit id) o Q:=fun tm k cs ht hk=>hk tm e ds ρ σ _ ht h ⟨[],by simp,rfl⟩
theorem Bqb{x y:Code}(h:Reach G b n x o e ds ρ σ .normal o1 (fun e ds ρ σ=>Reach G b n y o1 e ds ρ σ ex o' Q)):Reach G b n (.seq x y) o e ds ρ σ ex o' Q:=fun tm k cs ht hk=>by
 refine G.move (fr':=Fr b tm ds (.code x :: .code y::k)) (cs':=cs) (fun W=>by simp[Conc.G,stepG,stepG.exec,Fr]) ?_
 refine h tm (.code y::k) cs ht fun tm' e' ds' ρ' σ' f a c d=>?_
 cases d
 exact c tm' k cs a hk
theorem Bnt{x y:Code}(hx:ex ≠ .normal)(h:Reach G b n x o e ds ρ σ ex o' Q):Reach G b n (.seq x y) o e ds ρ σ ex o' Q:=fun tm k cs ht hk=>by
 refine G.move (fr':=Fr b tm ds (.code x :: .code y::k)) (cs':=cs) (fun W=>by simp[Conc.G,stepG,stepG.exec,Fr]) ?_
 exact h tm (.code y::k) cs ht fun tm' e' ds' ρ' σ' f a c d=>hk _ _ _ _ _ _ a c (He hx (fun _=>rfl) d)
theorem Bfk{q:Operand}{x y:Code}{t:Bool}(hc:Af e q = .bool t)(h1:t=true→Reach G b n x o e ds ρ σ ex o' Q)(h0:t=false→Reach G b n y o e ds ρ σ ex o' Q):Reach G b n (.cond q x y) o e ds ρ σ ex o' Q:=fun tm k cs ht hk=>by
 have hev:(Fr b tm ds (.code (.cond q x y)::k)).eval q = .bool t:=by rw[ht.eval];exact hc
 refine G.move (fr':=Fr b tm ds (.code (if t then x else y)::k)) (cs':=cs) (fun W=>?_) ?_
 ·simp only[Fr]at hev
  simp[Conc.G,stepG,stepG.exec,Fr,hev]
 ·cases t with
  | true=>exact h1 rfl tm k cs ht hk
  | false=>exact h0 rfl tm k cs ht hk
theorem Bjj{id:Nat}{x:Code}(h:Reach G b n x o e ds ρ σ .normal o' Q):Reach G b n (.block id x) o e ds ρ σ .normal o' Q:=fun tm k cs ht hk=>by
 refine G.move (fr':=Fr b tm ds (.code x :: .inBlock id::k)) (cs':=cs) (fun W=>by simp[Conc.G,stepG,stepG.exec,Fr]) ?_
 refine h tm (.inBlock id::k) cs ht fun tm' e' ds' ρ' σ' f a c d=>?_
 cases d
 exact G.move (fr':=Fr b tm' ds' k) (cs':=cs) (fun W=>by simp[Conc.G,stepG,stepG.exec,Fr]) (hk _ _ _ _ _ _ a c rfl)
theorem Bfh{id:Nat}{x:Code}(h:Reach G b n x o e ds ρ σ (.exit id) o' Q):Reach G b n (.block id x) o e ds ρ σ .normal o' Q:=fun tm k cs ht hk=>by
 refine G.move (fr':=Fr b tm ds (.code x :: .inBlock id::k)) (cs':=cs) (fun W=>by simp[Conc.G,stepG,stepG.exec,Fr]) ?_
 refine h tm (.inBlock id::k) cs ht fun tm' e' ds' ρ' σ' f a c d=>?_
 obtain⟨pre,hp,rfl⟩:=d
 refine G.move (fr':=Fr b tm' ds' k) (cs':=cs) (fun W=>?_) (hk _ _ _ _ _ _ a c rfl)
 have:exitTo id (pre ++ .inBlock id::k)=some k:=by rw[Mj hp];simp[exitTo]
 simp[Conc.G,stepG,stepG.exec,Fr,this]
theorem Bfj{id id':Nat}{x:Code}(hid:id'≠id)(h:Reach G b n x o e ds ρ σ (.exit id') o' Q):Reach G b n (.block id x) o e ds ρ σ (.exit id') o' Q:=fun tm k cs ht hk=>by
 refine G.move (fr':=Fr b tm ds (.code x :: .inBlock id::k)) (cs':=cs) (fun W=>by simp[Conc.G,stepG,stepG.exec,Fr]) ?_
 refine h tm (.inBlock id::k) cs ht fun tm' e' ds' ρ' σ' f a c d=>?_
 obtain⟨pre,hp,rfl⟩:=d
 refine hk _ _ _ _ _ _ a c ⟨pre++[.inBlock id],fun y hy=>?_,by simp⟩
 rcases Fb.1 hy with hy|hy
 ·exact hp y hy
 ·rw[Lc.1 hy];simp[Wc,Ne.symm hid]
theorem Bfi{id:Nat}{x:Code}(h:Reach G b n x o e ds ρ σ .ret o' Q):Reach G b n (.block id x) o e ds ρ σ .ret o' Q:=fun tm k cs ht hk=>by
 refine G.move (fr':=Fr b tm ds (.code x :: .inBlock id::k)) (cs':=cs) (fun W=>by simp[Conc.G,stepG,stepG.exec,Fr]) ?_
 refine h tm (.inBlock id::k) cs ht fun tm' e' ds' ρ' σ' f a c d=>?_
 obtain⟨pre,rfl⟩:=d
 exact hk _ _ _ _ _ _ a c ⟨pre++[.inBlock id],by simp⟩
theorem Bjk{l:Nat}(h:Q e ds ρ σ):Reach G b n (.label l) o e ds ρ σ .normal o Q:=fun tm k cs ht hk =>
 G.move (fr':=Fr b tm ds k) (cs':=cs) (fun W=>by simp[Conc.G,stepG,stepG.exec,Fr]) (hk tm e ds ρ σ k ht h rfl)
theorem Bjl{x:Code}(h:Reach G b n x o e ds ρ σ ex o' Q):Reach G b n (.scope x) o e ds ρ σ ex o' Q:=fun tm k cs ht hk=>by
 refine G.move (fr':=Fr b tm ds (.code x :: .inScope x::k)) (cs':=cs) (fun W=>by simp[Conc.G,stepG,stepG.exec,Fr]) ?_
 refine h tm (.inScope x::k) cs ht fun tm' e' ds' ρ' σ' g c d f=>?_
 by_cases hn:ex = .normal
 ·subst hn
  cases f
  exact G.move (fr':=Fr b tm' ds' k) (cs':=cs) (fun W=>by simp[Conc.G,stepG,stepG.exec,Fr]) (hk _ _ _ _ _ _ c d rfl)
 ·exact hk _ _ _ _ _ _ c d (He hn (fun _=>rfl) f)
/-- The rest of a loop,behind a round. -/
def LoopR(G:GoT C)(b:FB)(n:Nat)(x:Code)(o:List CV)(e:Env)(ds:List Deferred)(ρ:Ro)(σ:Own)(ex:Ex)(o':List CV)(Q:Env→List Deferred→Ro→Own→Prop):Prop :=
 ∀tm k cs,EnvOf n tm e→(∀tm' e' ds' ρ' σ' todo,EnvOf n tm' e'→Q e' ds' ρ' σ'→Pl ex k todo→G.Go o' (Fr b tm' ds' todo) cs ρ' σ')→G.Go o (Fr b tm ds (.code x :: .inLoop x::k)) cs ρ σ
theorem Bdz{x:Code}(hx:ex ≠ .normal)(h:Reach G b n x o e ds ρ σ ex o' Q):LoopR G b n x o e ds ρ σ ex o' Q:=fun tm k cs ht hk =>
 h tm (.inLoop x::k) cs ht fun tm' e' ds' ρ' σ' f a c d=>hk _ _ _ _ _ _ a c (He hx (fun _=>rfl) d)
theorem Azm{x:Code}(h:Reach G b n x o e ds ρ σ .normal o1 (fun e ds ρ σ=>LoopR G b n x o1 e ds ρ σ ex o' Q)):LoopR G b n x o e ds ρ σ ex o' Q:=fun tm k cs ht hk=>by
 refine h tm (.inLoop x::k) cs ht fun tm' e' ds' ρ' σ' f a c d=>?_
 cases d
 exact G.move (fr':=Fr b tm' ds' (.code x :: .inLoop x::k)) (cs':=cs) (fun W=>by simp[Conc.G,stepG,stepG.exec,Fr]) (c tm' k cs a hk)
theorem Bns{x:Code}(h:LoopR G b n x o e ds ρ σ ex o' Q):Reach G b n (.loop x) o e ds ρ σ ex o' Q:=fun tm k cs ht hk =>
 G.move (fr':=Fr b tm ds (.code x :: .inLoop x::k)) (cs':=cs) (fun W=>by simp[Conc.G,stepG,stepG.exec,Fr]) (h tm k cs ht hk)
theorem LoopR.mono{c:Code}(h:LoopR G b n c o e ds ρ σ ex o' Q)(hq:∀e ds ρ σ,Q e ds ρ σ→Q' e ds ρ σ):LoopR G b n c o e ds ρ σ ex o' Q' :=
 fun tm k cs ht hk=>h tm k cs ht fun tm' e' ds' ρ' σ' i d f g=>hk tm' e' ds' ρ' σ' i d (hq _ _ _ _ f) g
/-- One operation of a region,to the place behind it. -/
theorem Awu{ops:Array Oper}{i:Nat}{rest:List Nat}{K:Env→List Deferred→Ro→Own→Prop}(hs:Fu n ops=true)(hk:b.kind ≠ .early)(h:OpH C b ops i K e ds ρ σ){tm:Array Value}{k:List Item}{cs:List Frame}(ht:EnvOf n tm e) :
  GoesH C (fun fr cs' ρ' σ'=>cs'=cs∧∃tm' e' ds',EnvOf n tm' e'∧K e' ds' ρ' σ'∧fr=Fr b tm' ds' (.inRegion ops rest::k)) (Fr b tm ds (.inRegion ops (i::rest)::k)) cs ρ σ:=by
 unfold OpH at h
 cases ho:ops[i]? with
 | none=>simp only[ho]at h
 | some op =>
  simp only[ho]at h
  have hev:=ht.eval b ds (.inRegion ops (i::rest)::k)
  split at h
  ·rename_i hw
   refine .step (fun fr' cs' σ'=>∃nx,NextH C (fun v=>K (Ja e op.dst v)) b.round ds ρ nx σ'∧Ss C.P (Fr b tm ds (.inRegion ops (i::rest)::k)) cs nx fr' cs') (fun W x=>?_) ?_
   ·obtain⟨nx,σ',W',es,m,g,p,q⟩:=Rr _ σ _ W #[] h x
    have hd:∀c,op.op = .defer c→b.round=none:=by
     intro c hc
     have hx:∃d,nx = .defer d:=by
      have w:execOp (Af e) op=(resolve (Af e) c op.type).bind fun d=>pure (Next.defer d):=by
       unfold execOp;rw[hc];rfl
      rw[w,Sem.runT_bind']at m
      split at m
      ·rename_i a' w' es' _
       have:(Result.ok (Next.defer a') w',es')=(Result.ok nx W',es):=m
       simp only[Prod.mk.injEq,Result.ok.injEq]at this
       exact⟨a',this.1.1.symm⟩
      ·simp at m
     obtain⟨d,rfl⟩:=hx
     exact g.1
    have hnx:∃fr' cs',Ss C.P (Fr b tm ds (.inRegion ops (i::rest)::k)) cs nx fr' cs':=by
     cases nx<;>simp only[NextH]at g<;>exact⟨_,_,rfl,rfl⟩
    obtain⟨fr',cs',es',t,j,u⟩:=Sx (s:=execOp (Af e) op) (by exact hk) (by simp[Fr]) m hnx
    refine⟨fr',cs',W',es',σ',?_,p,fun ev he=>Amj q (u ev he),nx,g,j⟩
    rw[Np ho (by rw[Ij hs ht];exact hw) hd,hev]
    exact t
   ·rintro fr' cs' σ' ⟨nx,g,j⟩
    cases nx<;>simp only[NextH]at g
    case value v =>
     obtain⟨rfl,rfl⟩:=j
     rw[Ju ho]
     exact .stop ⟨rfl,_,_,_,Jj hs ht ho v,g,rfl⟩
    case skip =>
     obtain⟨rfl,rfl⟩:=j
     rw[Ju ho]
     exact .stop ⟨rfl,_,_,_,Jj hs ht ho undef,g,rfl⟩
    case defer d =>
     obtain⟨rfl,rfl⟩:=j
     have:Frame.finish {Fr b tm ds (.inRegion ops (i::rest)::k) with defers:=d::(Fr b tm ds (.inRegion ops (i::rest)::k)).defers} undef=(Fr b tm (d::ds) (.inRegion ops (i::rest)::k)).finish undef:=rfl
     rw[this,Ju ho]
     exact .stop ⟨rfl,_,_,_,Jj hs ht ho undef,g.2,rfl⟩
    case enter f args =>
     obtain⟨rfl,rfl⟩:=j
     refine(g _ cs).bind ?_
     rintro _ _ ρ' σ'' ⟨v,rfl,rfl,hv⟩
     rw[Ju ho]
     exact .stop ⟨rfl,_,_,_,Jj hs ht ho v,hv,rfl⟩
    case round l f tmps assign body =>
     obtain⟨rfl,rfl⟩:=j
     refine(g _ cs).bind ?_
     rintro _ _ ρ' σ'' ⟨v,rfl,rfl,hv⟩
     rw[Ju ho]
     exact .stop ⟨rfl,_,_,_,Jj hs ht ho v,hv,rfl⟩
  ·rename_i hw
   refine Eh (fun W=>Abu ho (by rw[Ij hs ht];simpa using hw) W) ?_
   rw[Ju ho]
   exact .stop ⟨rfl,_,_,_,Jj hs ht ho undef,h,rfl⟩
/-- The rest of a region in the text's order. -/
def Ops(G:GoT C)(b:FB)(n:Nat)(l₀ rest:List Oper)(o:List CV)(e:Env)(ds:List Deferred)(ρ:Ro)(σ:Own)(o':List CV)(Q:Env→List Deferred→Ro→Own→Prop):Prop :=
 ∀pre,l₀=pre++rest→∀tm k cs,EnvOf n tm e→(∀tm' e' ds' ρ' σ',EnvOf n tm' e'→Q e' ds' ρ' σ'→G.Go o' (Fr b tm' ds' k) cs ρ' σ')→G.Go o (Fr b tm ds (.inRegion l₀.toArray (List.range' pre.length rest.length)::k)) cs ρ σ
theorem Bkw{l₀:List Oper}(h:Q e ds ρ σ):Ops G b n l₀ [] o e ds ρ σ o Q:=fun pre _ tm k cs ht hk =>
 G.move (fr':=Fr b tm ds k) (cs':=cs) (fun W=>by simp[Conc.G,stepG,stepG.exec,Fr]) (hk tm e ds ρ σ ht h)
theorem Ben{l₀ rest:List Oper}{op:Oper}(hs:Fu n l₀.toArray=true)(hk:b.kind ≠ .early)(h:∀pre,l₀=pre++op::rest→OpH C b l₀.toArray pre.length (fun e ds ρ σ=>Ops G b n l₀ rest o e ds ρ σ o' Q) e ds ρ σ):Ops G b n l₀ (op::rest) o e ds ρ σ o' Q:=fun pre a tm k cs ht hq=>by
 rw[lZ2,Yy]
 refine G.bind (Awu hs hk (h pre a) ht) ?_
 rintro _ _ ρ' σ' ⟨rfl,tm',e',ds',c,d,rfl⟩
 have:=d (pre++[op]) (by rw[a];simp) tm' k _ c hq
 rw[lZ1,Qq]at this
 exact this
/-- As it is used: what the operation does. -/
theorem Bng{l₀ rest:List Oper}{op:Oper}(hs:Fu n l₀.toArray=true)(hk:b.kind ≠ .early)(hw:Bz l₀.toArray op e=true)(h:wpS C.P ρ (execOp (Af e) op) σ (NextH C (fun v ds ρ σ=>Ops G b n l₀ rest o (Ja e op.dst v) ds ρ σ o' Q) b.round ds ρ)):Ops G b n l₀ (op::rest) o e ds ρ σ o' Q :=
 Ben hs hk fun pre a=>by
  unfold OpH
  have ho:l₀.toArray[pre.length]?=some op:=by subst a;simp
  rw[ho]
  simp only[hw,if_true]
  exact h
theorem Beo{l₀ rest:List Oper}{op:Oper}(hs:Fu n l₀.toArray=true)(hk:b.kind ≠ .early)(hw:Bz l₀.toArray op e=false)(h:Ops G b n l₀ rest o (Ja e op.dst undef) ds ρ σ o' Q):Ops G b n l₀ (op::rest) o e ds ρ σ o' Q :=
 Ben hs hk fun pre a=>by
  unfold OpH
  have ho:l₀.toArray[pre.length]?=some op:=by subst a;simp
  rw[ho]
  simp only[hw,Aep,if_false]
  exact h
theorem Aqz{l₀:List Oper}{id:Nat}(h:Ops G b n l₀ l₀ o e ds ρ σ o' Q):Reach G b n (.region id l₀.toArray false) o e ds ρ σ .normal o' Q:=fun tm k cs ht hq=>by
 refine G.move (fr':=Fr b tm ds (.inRegion l₀.toArray (List.range l₀.toArray.size)::k)) (cs':=cs) (fun W=>by simp[Conc.G,stepG,stepG.exec,Fr]) ?_
 rw[Aaw,Apn]
 exact h [] rfl tm k cs ht fun tm' e' ds' ρ' σ' a c=>hq _ _ _ _ _ _ a c rfl
end
end
section
open Go Go.Conc
inductive DsR(R:XR):List CD→List Deferred→Prop
 | nil:DsR R [] []
 | mark {k b c:Nat} {l:List CD} {l':List Deferred}:R k=some (b,c)→DsR R l l'→DsR R (.mark k::l) ({target:=.collected b,args:=#[]}::l')
 | close {k b c:Nat} {tys:Array TypeId} {ty:TypeId} {l:List CD} {l':List Deferred}:R k=some (b,c)→DsR R l l'→DsR R (.close k::l) (Lj b tys ty #[false]::l')
theorem DsR.mono{R R':XR}(hR:XR.le R R'){l:List CD}{l':List Deferred}(h:DsR R l l'):DsR R' l l':=by
 induction h with
 | nil=>exact .nil
 | mark h _ ih=>exact .mark (hR _ _ h) ih
 | close h _ ih=>exact .close (hR _ _ h) ih
/-- The run's state stands for this one. -/
structure Sim(R:XR)(st:St)(e:Env)(ds:List Deferred)(ρ:Ro)(σ σ₀:Own):Prop where
 env:EnvR R st.e e
 mem:MemX R st.m ρ σ σ₀
 ds:DsR R st.ds ds
def RdOk{C:Ctx}(G:GoT C)(R:XR)(rd:Option Nat)(b:FB):Prop:=G.rk R∧match rd with
 | none=>b.round=none
 | some k=>∃l c,b.round=some l∧R k=some (l,c)
theorem RdOk.mono{C:Ctx}{G:GoT C}{R R':XR}{rd:Option Nat}{b:FB}(h:RdOk G R rd b)(hR:XR.le R R'):RdOk G R' rd b:=by
 obtain⟨a,h⟩:=h
 refine⟨G.rkm _ _ hR a,?_⟩
 cases rd with
 | none=>exact h
 | some k=>obtain⟨l,c,d,e⟩:=h;exact⟨l,c,d,hR _ _ e⟩
def Em:Ex→St→R
 | .normal,s=>.n s
 | .exit id,s=>.x id s
 | .ret,s=>.r s
/-- A run of a piece of code that ended so. -/
def Bkk{C:Ctx}(G:GoT C)(b:FB)(n:Nat)(rd:Option Nat)(c:Code)(st:St)(ex:Ex)(st':St):Prop :=
 Kept st.m st'.m∧(G.suf st'.m.outs→∀R e ds ρ σ σ₀,NoRecv σ₀→RdOk G R rd b→Sim R st e ds ρ σ σ₀ →
  Reach G b n c st.m.outs e ds ρ σ ex st'.m.outs (fun e' ds' ρ' σ'=>∃R',XR.le R R'∧Ro.le ρ ρ'∧Sim R' st' e' ds' ρ' σ' σ₀))
/-- Calls and pieces of code that are run one call deeper. -/
structure FnsOk(C:Ctx)(F:Fns):Prop where
 call:∀g args m x m',F.call g args m = .v x m'→Kept m m'∧∀R args' ρ σ σ₀,NoRecv σ₀→VR R args args'→MemX R m ρ σ σ₀ →
  CallsH C g args'.toArray ρ σ (fun v ρ' σ'=>∃R',XR.le R R'∧Ro.le ρ ρ'∧V1 R' x v∧MemX R' m' ρ' σ' σ₀)
 code:∀n rd c st ex st',F.code n rd c st=Em ex st'→∀b S,b.kind ≠ .early→Bkk (goT C S) b n rd c st ex st'
section
variable{C:Ctx}{R:XR}{m:Mem}{ρ:Ro}{σ σ₀:Own}
theorem MemX.rest{o:List CV}(h:MemX R m ρ σ σ₀):MemX R (xRest m o) ρ σ σ₀:=by
 obtain⟨L,G,h⟩:=h
 exact⟨L,G,h.perm,h.nd,h.own,h.all,h.ro,h.gar,h.lt,h.glob⟩
theorem Jl{e:Tr CV}{e':Env}{d:Option Tmp}{x:CV}{v:Value}(h:EnvR R e e')(hv:V1 R x v):EnvR R ((dstK d).run e x) (Ja e' d v):=by
 cases d with
 | none=>exact h
 | some d=>exact h.set hv
theorem Js{l:List Oper}{o:Oper}{e:Tr CV}{e':Env}(h:EnvR R e e')(hk:(gokK l o).run e=true):Bz l.toArray o e'=(guardK l o).run e:=by
 unfold gokK at hk
 unfold Bz guardK
 cases hg:o.guard with
 | none=>rfl
 | some jw =>
  obtain⟨j,w⟩:=jw
  rw[hg]at hk
  simp only at hk ⊢
  unfold Ht
  rw[Ib]
  cases hd:(l[j]?).bind (·.dst) with
  | none=>rw[hd]at hk;cases hk
  | some d =>
   rw[hd]at hk
   simp only at hk ⊢
   split at hk
   ·rename_i x hx
    rw[hx]
    have:=Agc (h d _ hx)
    rw[this]
    cases x<;>cases w<;>rfl
   ·rename_i x hx
    rw[hx]
    obtain⟨l',_,hv⟩:=Bqg (h d _ hx)
    rw[hv]
    rfl
   ·cases hk
theorem Ub{n:Nat}:∀{l:List Oper},xSlotsN n l=true→Fu n l.toArray=true:=by
 intro l h
 unfold Fu
 rw[Bdj]
 induction l with
 | nil=>rfl
 | cons o l ih =>
  rw[Un,Fd]
  unfold xSlotsN at h
  cases hd:o.dst with
  | none=>rw[hd]at h;exact⟨rfl,ih h⟩
  | some d =>
   rw[hd]at h
   simp only at h
   split at h
   ·rename_i hb
    exact⟨by simp only[decide_eq_true_eq];exact lZ5 hb,ih h⟩
   ·cases h
theorem Adq{n:Nat}:∀{ps:List Nat} {args:List CV} {args':List Value} {tm:Array Value} {env:Tr CV} {e:Env},ps.length=args.length→xAllLt n ps=true→VR R args args'→EnvOf n tm e→EnvR R env e →
  ∃e',EnvOf n ((ps.toArray.zip args'.toArray).foldl (fun tmps (t,a)=>tmps.setIfInBounds t a) tm) e'∧EnvR R (xPutP ps args env) e'
 | [],[],args',tm,env,e,_,_,hv,h1,h2=>by
  cases hv
  exact⟨e,by simpa using h1,h2⟩
 | t::ps,a::args,[],tm,env,e,_,_,hv,h1,h2=>by cases hv
 | t::ps,a::args,a'::args',tm,env,e,hl,hlt,hv,h1,h2=>by
  obtain⟨v1,v2⟩:=VR.cons_iff.1 hv
  have b:(match Nat.ble (Nat.succ t) n with|true=>xAllLt n ps|false=>false)=true:=hlt
  split at b
  ·rename_i hb
   have ht:t<n:=lZ5 hb
   obtain⟨e',f,g⟩:=Adq (by simpa using hl) b v2 (h1.put ht a') (h2.set (d:=t) v1)
   refine⟨e',?_,g⟩
   have c:(((t::ps).toArray.zip (a'::args').toArray).foldl (fun tmps (x:Nat×Value)=>tmps.setIfInBounds x.1 x.2) tm)=((ps.toArray.zip args'.toArray).foldl (fun tmps (x:Nat×Value)=>tmps.setIfInBounds x.1 x.2) (tm.setIfInBounds t a')):=by
    have h:(t::ps).toArray.zip (a'::args').toArray=((t,a')::ps.zip args').toArray:=by simp
    have i:ps.toArray.zip args'.toArray=(ps.zip args').toArray:=by simp
    rw[h,i,List.foldl_toArray,List.foldl_toArray]
    rfl
   exact c ▸ f
  ·cases b
 | [],_::_,_,_,_,_,hl,_,_,_,_=>by cases hl
 | _::_,[],_,_,_,_,hl,_,_,_,_=>by cases hl
end
section
variable{C:Ctx}{F:Fns}{st:St}{o:Op}
/-- What doOR says of an operation. -/
def Anr(C:Ctx)(o:Op)(st:St)(x:CV)(m':Mem)(ds':List CD):Prop :=
 Kept st.m m'∧m'.outs=st.m.outs∧ds'=st.ds∧∀R e ds ρ σ σ₀ rd dd ty pos af g,NoRecv σ₀→Sim R st e ds ρ σ σ₀→wpS C.P ρ (execOp (Af e) ⟨dd,o,ty,pos,af,g⟩) σ
  (NextH C (fun v ds1 ρ' σ'=>ds1=ds∧∃R',XR.le R R'∧Ro.le ρ ρ'∧V1 R' x v∧MemX R' m' ρ' σ' σ₀) rd ds ρ)
theorem Bez{x y:CV}{m m':Mem}{l l':List CD}(h:OV.v x m l = .v y m' l'):x=y∧m=m'∧l=l':=by cases h;exact⟨rfl,rfl,rfl⟩
/-- Every value stands for something. -/
def allR:XR:=fun k=>some (k,0)
theorem Bbz(x:CV):∃v,V1 allR x v :=
 CV.rec (motive_1:=fun x=>∃v,V1 allR x v) (motive_2:=fun l=>∃l',VR allR l l')
  ⟨undef,.bad _ .nil⟩ (fun x=>⟨_,.b x .nil⟩) (fun k n=>⟨_,.i k n .nil⟩) (fun s=>⟨_,.s s .nil⟩) ⟨_,.pn .nil⟩ (fun k off=>⟨_,.p (k:=k) (off:=off) rfl .nil⟩) ⟨_,.sn .nil⟩
  (fun k off ln kn c=>by cases kn with
   | true=>exact⟨_,.slK (k:=k) (off:=off) (ln:=ln) (cp:=c) rfl .nil⟩
   | false=>exact⟨_,.slU (k:=k) (off:=off) (ln:=ln) (a:=c) rfl .nil⟩)
  ⟨_,.mn .nil⟩ (fun k=>⟨_,.m (k:=k) rfl .nil⟩) ⟨_,.cn .nil⟩ (fun k=>⟨_,.c (k:=k) rfl .nil⟩) ⟨_,.fn .nil⟩
  (fun g xs ys ⟨_,d⟩ ⟨_,e⟩=>⟨_,.f g d e .nil⟩) (fun k=>⟨_,.y (k:=k) rfl .nil⟩) ⟨_,.n .nil⟩ (fun t v ⟨_,h⟩=>⟨_,.a t h .nil⟩) (fun l ⟨_,h⟩=>⟨_,.g h .nil⟩) (fun l ⟨_,h⟩=>⟨_,.t h .nil⟩)
  ⟨_,.nil⟩ (fun x l ⟨_,h⟩ ⟨_,h'⟩=>⟨_,VR.cons_iff.2 ⟨h,h'⟩⟩) x
theorem Bmc(e:Tr CV):∃e':Env,EnvR allR e e':=by
 refine⟨fun t=>match e.get t with|some v=>(Bbz v).choose|none=>undef,fun t v h=>?_⟩
 simp only[h]
 exact(Bbz v).choose_spec
theorem Bdx{P:Program}{o:Op}{e:Tr CV}{m m':Mem}{x:CV}(h:(opK P o).run e m = .v x m'):LogOk m m'∧(xMild o=true→m'.nx=m.nx→m'=m):=by
 obtain⟨e',he⟩:=Bmc e
 rcases Awt o allR e e' m x m' he (fun k _=>rfl) h with⟨rfl,_⟩|⟨a,b,_⟩
 ·exact⟨.refl _,fun _ _=>rfl⟩
 ·exact⟨a,fun hm hn=>absurd hn (b hm)⟩
theorem Bqw{x y:CV}{m1 m':Mem}{ds':List CD}(he:(opK C.P o).run st.e st.m = .v x m1)(h:OV.v x m1 st.ds = .v y m' ds'):Anr C o st y m' ds':=by
 obtain⟨rfl,rfl,rfl⟩:=Bez h
 have hk:=(Bdx he).1
 refine⟨hk.kept,hk.outs,rfl,fun R e ds ρ σ σ₀ rd dd ty pos af g hn hs=>?_⟩
 rcases Awt o R st.e e st.m x m1 hs.env hs.mem.globR he with⟨rfl,v,hv,hw⟩|⟨_,_,hw⟩
 ·exact Eu (by rintro nx σ' ⟨rfl,rfl⟩;exact⟨rfl,R,.refl,.refl,hv,hs.mem⟩) _ _ (hw ρ σ dd ty pos af g)
 ·refine Eu ?_ _ _ (hw ρ σ σ₀ dd ty pos af g hs.mem)
  rintro nx σ' ⟨R',v,a,d,b,c⟩
  rcases d with rfl|⟨rfl,rfl⟩
  ·exact⟨rfl,R',a,.refl,b,c⟩
  ·exact⟨rfl,R',a,.refl,b,c⟩
theorem Bph{x y:CV}{k:Nat}{m':Mem}{ds':List CD}(he:(opK C.P o).run st.e st.m = .rd x k)(h:OV.v x st.m st.ds = .v y m' ds'):Anr C o st y m' ds':=by
 obtain⟨rfl,rfl,rfl⟩:=Bez h
 refine⟨.refl _,rfl,rfl,fun R e ds ρ σ σ₀ rd dd ty pos af g hn hs=>?_⟩
 obtain⟨v,hv,hw⟩:=Aub o R st.e e st.m x k hs.env hs.mem.globR he R st.m ρ σ σ₀ hs.mem rfl rfl
 exact Eu (by rintro nx σ' ⟨rfl,rfl⟩;exact⟨rfl,R,.refl,.refl,hv,hs.mem⟩) _ _ (hw dd ty pos af g)
theorem Bbv{f:FuncId}{args:List CV}{y:CV}{m':Mem}{ds':List CD}(hF:FnsOk C F)(he:(opK C.P o).run st.e st.m = .enter f args)
  (h:(match F.call f args st.m with | .v x m=>OV.v x (xRest m st.m.outs) st.ds | .bad=>.bad) = .v y m' ds'):Anr C o st y m' ds':=by
 split at h
 ·rename_i x m1 hc
  obtain⟨rfl,rfl,rfl⟩:=Bez h
  obtain⟨hk,j⟩:=hF.call f args st.m x m1 hc
  refine⟨hk.rest,rfl,rfl,fun R e ds ρ σ σ₀ rd dd ty pos af g hn hs=>?_⟩
  obtain⟨a,hv,hw⟩:=Azt hs.env hs.mem.globR he
  refine hw _ ρ σ dd ty pos af g ?_
  refine(j R a ρ σ σ₀ hn hv hs.mem).mono ?_
  rintro v ρ' σ' ⟨R',b,c,d,i⟩
  exact⟨rfl,R',b,c,d,i.rest⟩
 ·cases h
theorem MemX.at{R:XR}{m:Mem}{ρ:Ro}{σ σ₀:Own}(h:MemX R m ρ σ σ₀){k:Nat}{o:CO}(hk:m.M.get k=some (.own o))(hd:o ≠ .dead) :
  ∃(b c:Nat) (r:Res) (i:Nat),R k=some (b,c)∧σ[i]?=some (b,r)∧ObjR R c o r∧∀r' o',ObjR R c o' r'→MemX R (m.put k o') ρ (σ.set i (b,r')) σ₀:=by
 obtain⟨L,G,h⟩:=h
 obtain⟨b,c,r,i,a,d,e,f⟩:=h.at hk hd
 exact⟨b,c,r,i,a,d,e,fun r' o' ho=>h.put f a d ho⟩
end
end
section
open Go Go.Conc
section
variable{C:Ctx}{F:Fns}{st:St}{o:Op}
theorem FnsOk.kept(hF:FnsOk C F){n:Nat}{rd:Option Nat}{c:Code}{s s':St}{ex:Ex}(h:F.code n rd c s=Em ex s'):Kept s.m s'.m :=
 (hF.code n rd c s ex s' h ⟨0,.normal,none⟩ (fun _ _ _ _=>True) (by simp)).1
theorem FnsOk.wp(hF:FnsOk C F){n:Nat}{rd:Option Nat}{c:Code}{s s':St}{ex:Ex}(h:F.code n rd c s=Em ex s'){b:FB}(hb:b.kind ≠ .early){R:XR}{e:Env}{ds:List Deferred}{ρ:Ro}{σ σ₀:Own}(hn:NoRecv σ₀)(hr:RdOk (goT C fun _ _ _ _=>True) R rd b)(hs:Sim R s e ds ρ σ σ₀) :
  WpC C b n c (fun ex' e' ds' ρ' σ'=>ex'=ex∧∃R',XR.le R R'∧Ro.le ρ ρ'∧Sim R' s' e' ds' ρ' σ' σ₀) e ds ρ σ :=
 Reach.wp (S:=fun _ _ _ _=>True) (o:=s.m.outs) (o':=s'.m.outs) (ex:=ex) fun S=>((hF.code n rd c s ex s' h b S hb).2 trivial R e ds ρ σ σ₀ hn hr hs).mono fun e ds ρ σ h=>⟨rfl,h⟩
theorem Sn{R:XR}{c busy n:Nat}{pd:Option Code}{env:Tr CV}{ps:List Tmp}{as_ body:Code}{dk:Nat}{r:Res}(h:ObjR R c (.loop busy pd n env ps as_ body dk) r) :
  ∃L e' b c',r = .obj (.loop L)∧L.state=stB busy∧L.pending=pd∧EnvOf n L.tmps e'∧EnvR R env e'∧L.params=ps.toArray∧L.assign=as_∧L.body=body∧R dk=some (b,c')∧L.defers=b:=by
 cases h with
 | loop h1 h2 h3 h4 h5 h6 h7 h8 h9=>exact⟨_,_,_,_,rfl,h1,h2,h3,h4,h5,h6,h7,h8,h9⟩
theorem Bbw{k:Nat}{args:List CV}{y:CV}{m':Mem}{ds':List CD}(hF:FnsOk C F)(he:(opK C.P o).run st.e st.m = .round k args)
  (h:doOR F st (.round k args) = .v y m' ds'):Anr C o st y m' ds':=by
 simp only[doOR]at h
 split at h
 ·rename_i pd0 n env ps as_ body dk0 hg0
  split at h
  ·rename_i hlen hlt
   split at h
   ·rename_i st1 hc1
    split at h
    ·rename_i pd1 n1 env1 ps1 as1 body1 dk1 hds1 hg1
     have fin:∀ex a,F.code n (some k) body ⟨st1.e,st1.m.put k (.loop 1 pd1 n1 env1 ps1 as1 body1 dk1),[]⟩=Em ex a→xEndRound (xRest a.m st.m.outs) st.ds k (Pf ex) = .v y m' ds'→Anr C o st y m' ds':=by
      intro ex a f p
      unfold xEndRound at p
      split at p
      ·rename_i b3 pd3 n3 env3 ps3 as3 body3 dk3 hg3
       obtain⟨rfl,rfl,rfl⟩:=Bez p
       have X:a.m.M.get k=some (.own (.loop b3 pd3 n3 env3 ps3 as3 body3 dk3)):=hg3
       have k1:=hF.kept (ex:=.normal) hc1
       have k3:=hF.kept f
       refine⟨(((k1.trans (LogOk.put _ _ _).kept).trans k3).rest).trans (LogOk.put _ _ _).kept,rfl,rfl,fun R e ds ρ σ σ₀ rd dd ty pos af g hn hs=>?_⟩
       obtain⟨a0,b,c,hR,hv,hw⟩:=Azu hs.env hs.mem.globR he
       refine hw _ ρ σ dd ty pos af g ?_
       obtain⟨b',c',r,i,z,U,V,_⟩:=hs.mem.at hg0 (by simp)
       rw[hR]at z;cases z
       obtain⟨L,e0,db,dc,rfl,l1,l2,l3,l4,B,l6,l7,l8,l9⟩:=Sn V
       have Y:ps.length=args.length:=by
        have:=lZ7 hlen
        rw[Fv,Fv]at this;exact this.symm
       have hl':=hv.len
       refine Afw (L:=L) U (by rw[B];simp;omega) ?_
       rw[B,l6,l7]
       obtain⟨e1,w1,w2⟩:=Adq Y hlt hv l3 l4
       refine Abr (n:=n) w1 ?_
       refine Adw (hF.wp (ex:=.normal) hc1 (b:=⟨L.fn,.normal,some b⟩) (by simp) (R:=R) hn ⟨trivial,b,c,rfl,hR⟩ ⟨w2,hs.mem,.nil⟩) ?_
       rintro a8 e2 K a9 ab ⟨rfl,J,q,q2,t⟩
       obtain⟨b1,c1,r1,i1,x,N,O,T⟩:=t.mem.at hg1 (by simp)
       rw[q _ _ hR]at x;cases x
       obtain⟨H,a6,a1,a3,rfl,t1,t2,t3,t4,t5,t6,t7,t8,t9⟩:=Sn O
       have W:K=[]:=by
        have:=t.ds
        rw[hds1]at this
        cases this;rfl
       refine⟨rfl,W,i1,H,N,t1,?_⟩
       refine Adw (hF.wp f (b:=⟨L.fn,.normal,some b⟩) (by simp) (R:=J) hn ⟨trivial,b,c,rfl,q _ _ hR⟩ ⟨t.env,T _ _ (.loop rfl t2 t3 t4 t5 t6 t7 t8 t9),.nil⟩) ?_
       rintro j e3 a5 aa ac ⟨rfl,w,D,q4,Z⟩
       obtain⟨b2,c2,r2,i2,E,u2,u3,u4⟩:=Z.mem.at X (by simp)
       rw[D _ _ (q _ _ hR)]at E;cases E
       obtain⟨u,a7,a2,a4,rfl,v1,v2,v3,v4,v5,v6,v7,v8,v9⟩:=Sn u3
       refine⟨i2,u,u2,rfl,w,q.trans D,q2.trans q4,?_,?_⟩
       ·cases j<;>exact .b _ .nil
       ·have hob:ObjR w c (.loop (match Pf j with|none=>0|some _=>2) (Pf j) n3 env3 ps3 as3 body3 dk3) (.obj (.loop {u with state:=if (Pf j).isNone then .ready else .done,pending:=Pf j})):=by
         refine .loop ?_ rfl v3 v4 v5 v6 v7 v8 v9
         cases j<;>rfl
        have:=u4 _ _ hob
        obtain⟨I,G,d⟩:=this
        exact⟨I,G,d.perm,d.nd,d.own,d.all,d.ro,d.gar,d.lt,d.glob⟩
      ·cases p
     split at h
     ·rename_i a f;exact fin .normal a f h
     ·rename_i id a f;exact fin (.exit id) a f h
     ·rename_i a f;exact fin .ret a f h
     ·cases h
    ·cases h
   ·cases h
  ·cases h
 ·cases h
theorem Tm{y:CV}{m':Mem}{ds':List CD}(hF:FnsOk C F)(h:doOR F st ((opK C.P o).run st.e st.m) = .v y m' ds'):Anr C o st y m' ds':=by
 cases he:(opK C.P o).run st.e st.m with
 | v x m=>rw[he]at h;exact Bqw he h
 | rd x k=>rw[he]at h;exact Bph he h
 | enter f args=>rw[he]at h;exact Bbv hF he h
 | round k args=>rw[he]at h;exact Bbw hF he h
 | go f args=>rw[he]at h;cases h
 | recv k ok=>rw[he]at h;cases h
 | send k x=>rw[he]at h;cases h
 | dclose x=>rw[he]at h;cases h
 | bad=>rw[he]at h;cases h
end
/-- What is said of an operation in the text's order. -/
def Uu{C:Ctx}(G:GoT C)(F:Fns)(dx:DX):Prop:=∀(op:Oper) (st:St) x m' ds' rd,dx.run F rd st ((opK C.P op.op).run st.e st.m) = .v x m' ds'→Kept st.m m' ∧
 ∀b n l₀ rest o' Q R e ds ρ σ σ₀,NoRecv σ₀→RdOk G R rd b→Sim R st e ds ρ σ σ₀→Fu n l₀.toArray=true→b.kind ≠ .early→Bz l₀.toArray op e=true→G.suf m'.outs →
  (∀R' v ds1 ρ' σ',XR.le R R'→Ro.le ρ ρ'→V1 R' x v→MemX R' m' ρ' σ' σ₀→DsR R' ds' ds1→Ops G b n l₀ rest m'.outs (Ja e op.dst v) ds1 ρ' σ' o' Q) →
  Ops G b n l₀ (op::rest) st.m.outs e ds ρ σ o' Q
theorem Aln{C:Ctx}{G:GoT C}{F:Fns}{op:Oper}{st:St}{x:CV}{m':Mem}{ds':List CD}{rd:Option Nat}(hd:Anr C op.op st x m' ds'):Kept st.m m' ∧
 ∀b n l₀ rest o' Q R e ds ρ σ σ₀,NoRecv σ₀→RdOk G R rd b→Sim R st e ds ρ σ σ₀→Fu n l₀.toArray=true→b.kind ≠ .early→Bz l₀.toArray op e=true→G.suf m'.outs →
  (∀R' v ds1 ρ' σ',XR.le R R'→Ro.le ρ ρ'→V1 R' x v→MemX R' m' ρ' σ' σ₀→DsR R' ds' ds1→Ops G b n l₀ rest m'.outs (Ja e op.dst v) ds1 ρ' σ' o' Q) →
  Ops G b n l₀ (op::rest) st.m.outs e ds ρ σ o' Q:=by
 obtain⟨c,d,f,g⟩:=hd
 refine⟨c,fun b n l₀ rest o' Q R e ds ρ σ σ₀ hn hr hs hsl hk hw _ hc=>?_⟩
 refine Bng hsl hk hw ?_
 obtain⟨dd,k,ty,pos,af,gd⟩:=op
 refine Eu (fun nx σ' hx=>hx.mono ?_) _ _ (g R e ds ρ σ σ₀ b.round dd ty pos af gd hn hs)
 rintro v ds1 ρ' σ' ⟨rfl,R',a,h,i,j⟩
 rw[←d]
 exact hc R' v _ ρ' σ' a h i j (f ▸ hs.ds.mono a)
section
variable{C:Ctx}{G:GoT C}{F:Fns}{dx:DX}
/-- A region in the text's order. -/
theorem Xp(hx:Uu G F dx){l₀:List Oper}:∀(r:List Oper) (st:St) (rd:Option Nat) (ex:Ex) (st':St),(textK C.P dx l₀ r).run F rd st=Em ex st'→ex = .normal∧Kept st.m st'.m ∧
  (G.suf st'.m.outs→∀b n R e ds ρ σ σ₀,Fu n l₀.toArray=true→b.kind ≠ .early→NoRecv σ₀→RdOk G R rd b→Sim R st e ds ρ σ σ₀ →
   Ops G b n l₀ r st.m.outs e ds ρ σ st'.m.outs (fun e' ds' ρ' σ'=>∃R',XR.le R R'∧Ro.le ρ ρ'∧Sim R' st' e' ds' ρ' σ' σ₀))
 | [],st,rd,ex,st',h=>by
  have h':Go.Proofs.YtjdkajkimeainaaGreatDoor.R.n st=Em ex st':=h
  cases ex with
  | normal=>cases h';exact⟨rfl,.refl _,fun _ b n R e ds ρ σ σ₀ _ _ _ _ hs=>Bkw ⟨R,.refl,.refl,hs⟩⟩
  | exit id=>cases h'
  | ret=>cases h'
 | o::r,st,rd,ex,st',h=>by
  have h':(match (gokK l₀ o).run st.e with
   | false=>Go.Proofs.YtjdkajkimeainaaGreatDoor.R.bad
   | true=>match (guardK l₀ o).run st.e with
    | false=>(textK C.P dx l₀ r).run F rd ⟨(dstK o.dst).run st.e .undef,st.m,st.ds⟩
    | true=>match dx.run F rd st ((opK C.P o.op).run st.e st.m) with
     | .v x m ds=>(textK C.P dx l₀ r).run F rd ⟨(dstK o.dst).run st.e x,m,ds⟩
     | .bad=>.bad)=Em ex st':=h
  split at h'
  ·cases ex<;>cases h'
  ·rename_i hgk
   split at h'
   ·rename_i hg
    obtain⟨d,a,f⟩:=Xp hx r _ _ _ _ h'
    refine⟨d,a,fun c b n R e ds ρ σ σ₀ hsl hk hn hr hs=>?_⟩
    refine Beo hsl hk (by rw[Js hs.env hgk];exact hg) ?_
    exact f c b n R _ ds ρ σ σ₀ hsl hk hn hr ⟨Jl hs.env (.t .nil .nil),hs.mem,hs.ds⟩
   ·rename_i hg
    split at h'
    ·rename_i x m1 ds1 hd
     obtain⟨w,hop⟩:=hx o st x m1 ds1 rd hd
     obtain⟨d,a,f⟩:=Xp hx r _ _ _ _ h'
     refine⟨d,w.trans a,fun c b n R e ds ρ σ σ₀ hsl hk hn hr hs=>?_⟩
     refine hop b n l₀ r _ _ R e ds ρ σ σ₀ hn hr hs hsl hk (by rw[Js hs.env hgk];exact hg) (G.less_of a c) fun R' v i ρ' σ' g y z B D=>?_
     have:=f c b n R' (Ja e o.dst v) i ρ' σ' σ₀ hsl hk hn (hr.mono g) ⟨Jl (hs.env.mono g) z,B,D⟩
     exact fun pre hp tm k cs ht hq=>this pre hp tm k cs ht fun tm' e' ds' ρ'' σ'' j ⟨R'',p,q,u⟩=>hq tm' e' ds' ρ'' σ'' j ⟨R'',g.trans p,y.trans q,u⟩
    ·cases ex<;>cases h'
end
end
section
open Go Go.Conc
theorem Iz{l:List Oper}{li:List Bool}{j:Nat}:j∈Dl l li↔j∈Region.ready .any l.toArray li.toArray:=by rw[Hh]
theorem Ia(li:List Bool)(j:Nat)(d:Bool):li.toArray.getD j d=li.getD j d:=by simp[Ato,Uk]
theorem Hy(li:List Bool)(i:Nat):li.toArray.setIfInBounds i true=(li.set i true).toArray:=by simp
theorem Sq{l:List Oper}{li:List Bool}{i j:Nat}(h:j∈Dl l li)(hne:j≠i):j∈Dl l (li.set i true):=by
 rw[Iz]at *
 rw[←Hy]
 exact ready_mono h hne
theorem Ajh{l:List Oper}{li:List Bool}{j:Nat}(h:j∈Dl l li):li.getD j true=false:=by
 rw[Iz]at h
 have:=(mem_ready.1 h).1
 rwa[Ia]at this
theorem Ql{li:List Bool}{i j:Nat}(h:i≠j)(d:Bool):(li.set i true).getD j d=li.getD j d:=by
 rw[Uk,Uk,List.getElem?_set_ne h]
theorem Aiy{K:List Nat}:∀{n:Nat} {l u w:List Nat},xNoneOf K n l=true→l=u++w→u.length=n→∀k∈K,k∉u
 | 0,l,[],w,_,_,_,k,_,hm=>by cases hm
 | 0,l,_::_,w,_,_,h,_,_,_=>by cases h
 | n+1,l,[],w,_,_,h,_,_,_=>by cases h
 | n+1,l,a::u,w,h,hl,hn,k,hk,hm=>by
  subst hl
  have h':(match K.any (Nat.beq a) with|true=>false|false=>xNoneOf K n (u++w))=true:=h
  split at h'
  ·cases h'
  ·rename_i hany
   rcases lZ8.1 hm with rfl|hm
   ·have:=Aze.1 hany k hk
    exact this (by simp)
   ·exact Aiy h' rfl (by simpa using hn) k hk hm
section
variable{C:Ctx}{R:XR}{m:Mem}{ρ:Ro}{σ σ₀:Own}
/-- One more block that is not looked at. -/
theorem MemX.frame{p:Nat×Res}(h:MemX R m ρ σ σ₀):MemX R m ρ (p::σ) (p::σ₀):=by
 obtain⟨L,G,h⟩:=h
 refine⟨L,G,?_,h.nd,h.own,h.all,h.ro,h.gar,h.lt,h.glob⟩
 have a:=h.perm.cons p
 refine a.trans ?_
 rw[←lZ9,←lZ9]
 exact List.perm_middle.symm
/-- It is looked at from now on. -/
theorem MemX.adopt{b c:Nat}{r:Res}{o:CO}(h:MemX R m ρ σ ((b,r)::σ₀))(ho:ObjR (R.add m.nx (b,c)) c o r):XR.le R (R.add m.nx (b,c))∧MemX (R.add m.nx (b,c)) (m.add o) ρ σ σ₀:=by
 obtain⟨L,G,h⟩:=h
 have hle:=h.fresh (b,c)
 have hlt:∀p∈L,p.1<m.nx:=fun p hp=>by
  obtain⟨d,o1,a,_⟩:=h.own p hp
  exact h.lt _ _ a
 refine⟨hle,(m.nx,b,r)::L,G,?_,Ol.2 ⟨fun hm=>?_,h.nd⟩,fun p hp=>?_,fun j oj hj hd=>?_,fun j oj hj=>?_,h.gar,fun j q hj=>?_,fun j hj=>hle _ _ (h.glob j hj)⟩
 ·have a:=h.perm
  refine a.trans ?_
  rw[Hd,←lZ9,←lZ9]
  exact Att
 ·obtain⟨p,hp,e⟩:=Iu.1 hm
  exact absurd (hlt p hp) (by omega)
 ·rcases lZ8.1 hp with rfl|hp
  ·exact⟨c,o,XR.add_same,by rw[Mv,if_pos rfl],ho⟩
  ·obtain⟨d,o1,a,f,g⟩:=h.own p hp
   exact⟨d,o1,hle _ _ a,by rw[Mv,if_neg (Zt (hlt p hp))];exact f,g.mono hle⟩
 ·rw[Mv]at hj
  by_cases hjk:j=m.nx
  ·subst hjk;exact⟨_,Oh ..⟩
  ·rw[if_neg hjk]at hj
   obtain⟨q,hq⟩:=h.all j oj hj hd
   exact⟨q,lZ0 _ hq⟩
 ·rw[Mv]at hj
  by_cases hjk:j=m.nx
  ·rw[if_pos hjk]at hj;cases hj
  ·rw[if_neg hjk]at hj
   obtain⟨i,d,k,a,f,g⟩:=h.ro j oj hj
   exact⟨i,d,k,hle _ _ a,f,g.mono hle⟩
 ·unfold XR.add at hj
  by_cases hjk:j=m.nx
  ·subst hjk;exact Ain _
  ·rw[if_neg hjk]at hj;exact Apy (h.lt j q hj)
theorem MemX.known(h:MemX R m ρ σ σ₀){k:Nat}{o:CO}(hk:m.obj k=some o)(hd:o ≠ .dead):∃q,R k=some q:=by
 obtain⟨L,G,h⟩:=h
 unfold Mem.obj at hk
 split at hk
 ·rename_i o' hg
  cases hk
  obtain⟨b,c,r,i,a,_⟩:=h.at hg hd
  exact⟨_,a⟩
 ·rename_i o' hg
  obtain⟨b,c,x,a,_⟩:=h.ro k _ hg
  exact⟨_,a⟩
 ·cases hk
theorem Boc{P:Program}{o:Op}{e:Tr CV}{x:CV}{k:Nat}(h:(opK P o).run e m = .rd x k):∃ob,m.obj k=some ob∧ob ≠ .dead:=by
 have hr:reads o=true:=by
  by_cases h2:reads o=true
  ·exact h2
  ·exfalso
   by_cases h1:Bcp o=true
   ·have:=Yo (P:=P) (o:=o)
    cases o with
    | call c =>
     obtain⟨cal,az,ts⟩:=c
     cases cal with
     | value f =>
      rcases Ji h with⟨_,_,_,_,_,_,d⟩|d|d
      ·cases d
      ·cases d
      ·have:=Adg (P:=P) ((rdK f).run e) ((rdsK az.toList).run e)
       rw[d]at this;exact this
     | builtin b=>cases h1
     | invoke r n=>cases h1
    | go c=>unfold opK at h;dsimp only at h;split at h<;>cases h
    | defer c =>
     unfold opK at h;dsimp only at h
     split at h
     ·dsimp only at h;split at h<;>cases h
     ·cases h
    | send a b=>unfold opK at h;dsimp only at h;split at h<;>cases h
    | recv t a ok =>
     unfold opK at h;dsimp only at h
     split at h
     ·split at h
      ·dsimp only at h;split at h<;>cases h
      ·cases h
     ·cases h
    | _=>cases h1
   ·have:=(Aws (P:=P) o (by simpa using h1) (by simpa using h2) e m).r
    rw[h]at this;exact this
 cases o with
 | load t a =>
  have h':loadM P t ((rdK a).run e) m = .rd x k:=h
  unfold loadM at h'
  split at h'
  ·split at h'
   ·rename_i l hl
    split at h'
    ·obtain⟨_,rfl⟩:=Xe h'
     rw[Ane]at hl
     split at hl
     ·rename_i ob ho
      exact⟨ob,ho,fun e=>by subst e;cases hl⟩
     ·cases hl
    ·cases h'
   ·cases h'
  ·cases h'
 | lookup t a y ok =>
  unfold opK at h
  dsimp only at h
  split at h
  ·split at h
   ·rename_i mk z _ _
    have h':lookM mk z ok ((rdK a).run e) ((rdK y).run e) m = .rd x k:=h
    unfold lookM at h'
    split at h'
    ·split at h'
     ·rename_i es hes hok
      split at h'
      ·obtain⟨_,rfl⟩:=Xe h';exact⟨_,hes,by simp⟩
      ·obtain⟨_,rfl⟩:=Xe h';exact⟨_,hes,by simp⟩
      ·cases h'
     ·cases h'
    ·cases h'
   ·cases h
  ·cases h
 | slice t a lo hi mx =>
  unfold opK at h
  dsimp only at h
  split at h
  ·split at h
   ·dsimp only at h
    split at h
    ·split at h
     ·exact Auk h
     ·cases h
    ·split at h
     ·split at h<;>cases h
     ·cases h
    ·cases h
   ·cases h
  ·split at h
   ·dsimp only at h
    split at h
    ·split at h
     ·split at h<;>cases h
     ·cases h
    ·cases h
   ·cases h
  ·cases h
 | _=>cases hr
/-- An allocation,as it is. -/
theorem Axt{P:Program}{t:TypeId}{z:CV}{c:List CV}(hz:xZeroT P t=some z)(hc:z.cells=some c):∃vs:List Value,(∀R,VR R c vs) ∧
  ∀(e':Env) ρ σ (Q:Next→Own→Prop) dd ty pos af g,(∀r,Q (.value (.pointer (some ⟨r,0,none⟩))) ((r,.obj (.cells vs.toArray t (0,0)))::σ))→wpS P ρ (execOp (Af e') ⟨dd,.alloc t,ty,pos,af,g⟩) σ Q:=by
 obtain⟨v,hv,rfl⟩:=Mf hz
 refine⟨v.cells.toList,fun R=>(vOf R v).cells hc,fun e' ρ σ Q dd ty pos af g hq=>?_⟩
 show wpS P ρ ((Instr.alloc t true (.tuple #[])).bind fun v=>Sem.pure (Next.value v)) σ Q
 rw[Ad]
 show wpS P ρ ((zeroValue t).bind _) σ _
 rw[Ad]
 refine Jz hv ?_
 show wpS P ρ ((newVar t v).bind _) σ _
 rw[Ad]
 refine Ik fun r=>?_
 have:=hq r
 rw[Ww]at this
 exact this
end
/-- An operation does not see what an early one has put. -/
theorem Bjc{C:Ctx}{b:FB}{ops:Array Oper}{j d:Nat}{oj:Oper}{p:Value}{e:Env}{ds:List Deferred}{ρ:Ro}{σ:Own}(hj:ops[j]?=some oj)(h1:d∉oj.looksAt ops)(h2:oj.dst≠some d)(hsel:∀cs b,oj.op ≠ .select cs b)
  {K K':Env→List Deferred→Ro→Own→Prop} (hK:∀e ds ρ σ,K e ds ρ σ→K' (Ja e (some d) p) ds ρ σ) (h:OpH C b ops j K e ds ρ σ):OpH C b ops j K' (Ja e (some d) p) ds ρ σ:=by
 have a:∀d',some d=some d'→d'∉oj.looksAt ops:=fun d' hd=>by cases hd;exact h1
 have hcm:∀u,Ja (Ja e (some d) p) oj.dst u=Ja (Ja e oj.dst u) (some d) p:=fun u=>Vx e p u (fun d' hd=>by cases hd;exact h2)
 unfold OpH at *
 simp only[hj]at *
 rw[Sd oj e (some d) p a]
 split
 ·rename_i hw
  rw[if_pos hw]at h
  rw[Ru oj hsel e (some d) p a]
  exact Eu (fun nx σ' hn=>hn.mono fun u ds ρ σ hh=>by rw[hcm];exact hK _ _ _ _ hh) _ _ h
 ·rename_i hw
  rw[if_neg hw]at h
  rw[hcm];exact hK _ _ _ _ h
theorem Aus{P:Program}{ops:Array Oper}{S:Ro→Own→Prop}{d:Nat}{o:Oper}{v p:Value}{e:Env}(h1:d∉o.looksAt ops)(hsel:∀cs b,o.op ≠ .select cs b)(h:YieldsH P ops S o v e):YieldsH P ops S o v (Ja e (some d) p):=by
 have a:∀d',some d=some d'→d'∉o.looksAt ops:=fun d' hd=>by cases hd;exact h1
 unfold YieldsH at *
 rw[Ru o hsel e (some d) p a,Sd o e (some d) p a]
 exact h
end
section
open Go Go.Conc
/-- Whatever order is picked from here on;'lv': what has been taken first and is not yet waited for: until then S holds. -/
def Aai{α:Type}(C:Ctx)(b:FB)(ops:Array Oper)(Q:Env→List Deferred→Ro→Own→Prop)(wt:Nat→α→Bool)(S:α→Ro→Own→Prop):Nat→List α→Array Bool→Env→List Deferred→Ro→Own→Prop
 | 0,lv,listed,e,ds,ρ,σ=>Region.ready .any ops listed=[]∧Q e ds ρ σ∧∀p∈lv,S p ρ σ
 | fuel+1,lv,listed,e,ds,ρ,σ=>(∀p∈lv,S p ρ σ)∧(Region.ready .any ops listed=[]→Q e ds ρ σ) ∧
  ∀i∈Region.ready .any ops listed,OpH C b ops i (fun e' ds' ρ' σ'=>Aai C b ops Q wt S fuel (lv.filter fun p=>!wt i p) (listed.setIfInBounds i true) e' ds' ρ' σ') e ds ρ σ
section
variable{α:Type}{C:Ctx}{b:FB}{ops:Array Oper}{Q:Env→List Deferred→Ro→Own→Prop}{wt:Nat→α→Bool}{S:α→Ro→Own→Prop}
theorem Ahq:∀{fuel:Nat} {lv lv':List α} {listed:Array Bool} {e:Env} {ds:List Deferred} {ρ:Ro} {σ:Own},(∀p∈lv',p∈lv)→Aai C b ops Q wt S fuel lv listed e ds ρ σ→Aai C b ops Q wt S fuel lv' listed e ds ρ σ
 | 0,_,_,_,_,_,_,_,hs,⟨h1,h2,h3⟩=>⟨h1,h2,fun p hp=>h3 p (hs p hp)⟩
 | _+1,_,_,_,_,_,_,_,hs,⟨h1,h2,h3⟩=>⟨fun p hp=>h1 p (hs p hp),h2,fun i hi=>(h3 i hi).mono fun _ _ _ _ h=>Ahq (fun p hp=>by
   obtain⟨h4,h5⟩:=Nv.1 hp
   exact Nv.2 ⟨hs p h4,h5⟩) h⟩
theorem Acp:∀{fuel:Nat} {lv:List α} {listed:Array Bool} {e:Env} {ds:List Deferred} {ρ:Ro} {σ:Own},Aai C b ops Q wt S fuel lv listed e ds ρ σ→El C b ops Q [] (fun _ _=>True) fuel listed e ds ρ σ
 | 0,_,_,_,_,_,_,⟨h1,h2,_⟩=>⟨h1,h2⟩
 | _+1,_,_,_,_,_,_,⟨_,h2,h3⟩=>.inr ⟨_,_,.same,id,h2,fun i hi=>(h3 i hi).mono fun _ _ _ _ h=>⟨fun _=>trivial,Acp h⟩⟩
theorem Xy{lv:List α}{listed:Array Bool}{e:Env}{ds:List Deferred}{ρ:Ro}{σ:Own}(hr:Region.ready .any ops listed=[])(h:Q e ds ρ σ)(hS:∀p∈lv,S p ρ σ):∀fuel,Aai C b ops Q wt S fuel lv listed e ds ρ σ
 | 0=>⟨hr,h,hS⟩
 | _+1=>⟨hS,fun _=>h,by rw[hr];simp⟩
/-- An operation that may come up now may be taken first. -/
theorem Va{i:Nat}{oi:Oper}{v:Value}{p:α}(hi:ops[i]?=some oi)(hsel:∀(j:Nat) (o:Oper) cs b,ops[j]?=some o→o.op ≠ .select cs b)
  (hwt:∀j oj,ops[j]?=some oj→(∀e∈oj.after,Region.binds .any e=true→e.on≠i)→wt j p=false) :
  ∀(fuel:Nat) (lv:List α) (listed:Array Bool) (e:Env) (ds:List Deferred) (ρ:Ro) (σ:Own),
   (∀j oj,ops[j]?=some oj→j≠i→listed.getD j true=false→(∀e∈oj.after,Region.binds .any e=true→e.on≠i)→oi.apart ops oj=true) →
   i∈Region.ready .any ops listed→YieldsH C.P ops (S p) oi v e →
   Aai C b ops Q wt S fuel (p::lv) (listed.setIfInBounds i true) (Ja e oi.dst v) ds ρ σ→Aai C b ops Q wt S (fuel+1) lv listed e ds ρ σ:=by
 intro fuel
 induction fuel with
 | zero =>
  rintro lv listed e ds ρ σ _ hr hy ⟨f,c,d⟩
  refine⟨fun q hq=>d q (lZ0 _ hq),fun h=>(by rw[h]at hr;cases hr),fun j hj=>?_⟩
  by_cases hji:j=i
  ·subst hji
   exact hy.opH hi (d p mC) ⟨f,c,fun q hq=>d q (lZ0 _ (Nv.1 hq).1)⟩
  ·have:=ready_mono hj hji
   rw[f]at this
   cases this
 | succ fuel ih =>
  intro lv listed e ds ρ σ t hr hy H
  have H':=H
  obtain⟨HS,B,c⟩:=H
  refine⟨fun q hq=>HS q (lZ0 _ hq),fun h=>(by rw[h]at hr;cases hr),fun j hj=>?_⟩
  by_cases hji:j=i
  ·subst hji
   exact hy.opH hi (HS p mC) (Ahq (fun q hq=>lZ0 _ (Nv.1 hq).1) H')
  ·have a:=c j (ready_mono hj hji)
   obtain⟨u,oj,hoj,y⟩:=mem_ready.1 hj
   have w:∀e∈oj.after,Region.binds .any e=true→e.on≠i:=fun e he hb heq=>by
    have a:=y e he hb
    have g:=(mem_ready.1 hr).1
    rw[heq]at a
    rcases Mg i listed.size with h'|h'
    ·simp[h']at g a;rw[g]at a;cases a
    ·simp[Azb h']at a
   have hwj:=hwt j oj hoj w
   have x:=Akg hoj (t j oj hoj hji u w) (fun cs b=>hsel i oi cs b hi) (fun cs b=>hsel j oj cs b hoj) hy a
   have z:∀k ok,ops[k]?=some ok→k≠i→(listed.setIfInBounds j true).getD k true=false →
     (∀e∈ok.after,Region.binds .any e=true→e.on≠i)→oi.apart ops ok=true:=fun k ok hk hki hun hno=>by
    refine t k ok hk hki ?_ hno
    by_cases hjk:j=k
    ·subst hjk;exact u
    ·rw[getD_set_ne true hjk]at hun;exact hun
   refine OpH.mono x fun e' ds' ρ' σ' m=>ih (lv.filter fun p=>!wt j p) (listed.setIfInBounds j true) e' ds' ρ' σ' z (ready_mono hr (Ne.symm hji)) m.1 ?_
   rw[Array.setIfInBounds_comm _ _ hji]
   have n:=m.2
   rw[List.filter_cons_of_pos (by rw[hwj];rfl)]at n
   exact n
/-- Whichever of those that may come up comes up. -/
theorem Acn{lv:List α}{rs:List Nat}{fuel:Nat}{listed:Array Bool}{e:Env}{ds:List Deferred}{ρ:Ro}{σ:Own}(hr:Region.ready .any ops listed=rs)(hne:rs≠[])(hS:∀p∈lv,S p ρ σ)
  (h:∀i∈rs,OpH C b ops i (fun e' ds' ρ' σ'=>Aai C b ops Q wt S fuel (lv.filter fun p=>!wt i p) (listed.setIfInBounds i true) e' ds' ρ' σ') e ds ρ σ):Aai C b ops Q wt S (fuel+1) lv listed e ds ρ σ :=
 ⟨hS,fun a=>absurd (hr ▸ a) hne,hr ▸ h⟩
end
end
section
open Go Go.Conc
/-- A region that is gone through. -/
structure RG(C:Ctx) where
 b:FB
 l:List Oper
 pz:List Nat
 R0:XR
 ρ0:Ro
 σ0:Own
 sf:St
/-- What was taken first;if it reads: where,what,and by which numbers. -/
abbrev LvE:=Nat×Option (Nat×Option CO×XR)
noncomputable def wtL(l:List Oper)(j:Nat)(p:LvE):Bool:=xWaits l j p.1
/-- What it read is still there. -/
def LvS(p:LvE)(ρ:Ro)(σ:Own):Prop:=match p.2 with
 | none=>True
 | some (q,ob,Rt)=>∃R₁ m₁ σ₁,MemX R₁ m₁ ρ σ σ₁∧XR.le Rt R₁∧m₁.obj q=ob
/-- The run keeps these in view. -/
def LvOk(K:List (Nat×Nat))(m:Mem)(R:XR)(lv:List LvE):Prop:=∀p∈lv,∀q ob Rt,p.2=some (q,ob,Rt)→XR.le Rt R∧m.obj q=ob∧(p.1,q)∈K∧q<m.nx
theorem LvOk.S{K:List (Nat×Nat)}{m:Mem}{R:XR}{lv:List LvE}{ρ:Ro}{σ σ₀:Own}(h:LvOk K m R lv)(hm:MemX R m ρ σ σ₀):∀p∈lv,LvS p ρ σ:=fun p hp=>by
 unfold LvS
 split
 ·trivial
 ·rename_i q ob Rt he
  obtain⟨a,b,_⟩:=h p hp q ob Rt he
  exact⟨R,m,σ₀,hm,a,b⟩
theorem Amu{wt:Nat→Bool}{n:Nat}{lg:List Nat}:∀{K K':List (Nat×Nat)},xKeep wt n lg K=some K'→∀a∈K,wt a.1=false→a∈K'∧xNoneOf [a.2] n lg=true
 | b::K,K',h,a,ha,hw=>by
  have h':(match wt b.1 with
   | true=>xKeep wt n lg K
   | false=>match xNoneOf [b.2] n lg with
    | true=>match xKeep wt n lg K with|some r=>some (b::r)|none=>none
    | false=>none)=some K':=h
  split at h'
  ·rename_i hb
   rcases lZ8.1 ha with rfl|ha
   ·rw[hb]at hw;cases hw
   ·exact Amu h' a ha hw
  ·split at h'
   ·rename_i hno
    split at h'
    ·rename_i r hr
     cases h'
     rcases lZ8.1 ha with rfl|ha
     ·exact⟨Oh ..,hno⟩
     ·obtain⟨c,d⟩:=Amu hr a ha hw
      exact⟨lZ0 _ c,d⟩
    ·cases h'
   ·cases h'
theorem LvOk.step{l:List Oper}{i:Nat}{K K':List (Nat×Nat)}{m m1:Mem}{R R':XR}{lv:List LvE}(h:LvOk K m R lv)(hk:Kept m m1)(hR:XR.le R R')(hn:xKeep (xWaits l i) (Nat.sub m1.ln m.ln) m1.log K=some K'):LvOk K' m1 R' (lv.filter fun p=>!wtL l i p):=fun p hp q ob Rt he=>by
 obtain⟨j,a⟩:=Nv.1 hp
 obtain⟨c,d,e,b⟩:=h p j q ob Rt he
 have hw:xWaits l i p.1=false:=by
  unfold wtL at a
  cases hx:xWaits l i p.1 with
  | false=>rfl
  | true=>rw[hx]at a;cases a
 obtain⟨f,g⟩:=Amu hn _ e hw
 obtain⟨w,k,t,n⟩:=hk.ex
 have hq:q∉w:=Aiy g k (by show w.length=m1.ln-m.ln;omega) q (Lc.2 rfl)
 exact⟨c.trans hR,by rw[n q b hq];exact d,f,Ng b hk.nx⟩
theorem LvOk.sub{K:List (Nat×Nat)}{m:Mem}{R:XR}{lv lv':List LvE}(h:LvOk K m R lv)(hs:∀p∈lv',p∈lv):LvOk K m R lv':=fun p hp=>h p (hs p hp)
theorem Anp{l:List Oper}{i:Nat}{p:LvE}(hp:p.1=i):∀j oj,l.toArray[j]?=some oj→(∀e∈oj.after,Region.binds .any e=true→e.on≠i)→wtL l j p=false:=fun j oj hj hn=>by
 unfold wtL xWaits
 rw[Ib]at hj
 rw[hj,hp]
 simp only
 rw[Aze]
 intro e he hb
 simp only[Fd,beq_iff_eq]at hb
 exact hn e (by simpa using he) hb.1 hb.2
section
variable{C:Ctx}
structure RG.Ok(g:RG C):Prop where
 sel:Apw g.l=true
 nr:NoRecv g.σ0
def RG.Q(g:RG C):Env→List Deferred→Ro→Own→Prop:=fun e ds ρ σ=>∃R',XR.le g.R0 R'∧Ro.le g.ρ0 ρ∧Sim R' g.sf e ds ρ σ g.σ0
def RG.A(g:RG C)(fuel:Nat)(lv:List LvE)(li:List Bool)(e:Env)(ds:List Deferred)(ρ:Ro)(σ:Own):Prop:=Aai C g.b g.l.toArray g.Q (wtL g.l) LvS fuel lv li.toArray e ds ρ σ
structure RG.At(g:RG C)(st:St)(R:XR)(e:Env)(ds:List Deferred)(ρ:Ro)(σ σp:Own):Prop where
 le:XR.le g.R0 R
 rle:Ro.le g.ρ0 ρ
 sim:Sim R st e ds ρ σ σp
variable{g:RG C}{F:Fns}{st:St}{R:XR}{e:Env}{ds:List Deferred}{ρ:Ro}{σ σp:Own}{u:List Nat}{o:Oper}{x:CV}{i:Nat}{K:List (Nat×Nat)}
/-- What an operation that is taken first must be. -/
def Ako(g:RG C)(i:Nat)(o:Oper)(K':List (Nat×Nat))(st:St)(x:CV)(R:XR)(e:Env):Prop :=
 ∃v p,p.1=i∧V1 R x v∧YieldsH C.P g.l.toArray (LvS p) o v e∧∀q ob Rt,p.2=some (q,ob,Rt)→XR.le Rt R∧st.m.obj q=ob∧(i,q)∈K'∧q<st.m.nx
/-- What is taken first: it reads. -/
theorem Bkb{q:Nat}(hat:g.At st R e ds ρ σ σp)(he:(opK C.P o.op).run st.e st.m = .rd x q)(hok:xOkV x=true)(hw:Bz g.l.toArray o e=true) :
  Ako g i o ((i,q)::K) st x R e:=by
 obtain⟨ob,ho,hd⟩:=Boc he
 obtain⟨qq,hR⟩:=hat.sim.mem.known ho hd
 have key:=Aub o.op R st.e e st.m x q hat.sim.env hat.sim.mem.globR he
 obtain⟨c,b,_⟩:=key R st.m ρ σ σp hat.sim.mem rfl rfl
 have hlt:q<st.m.nx:=let ⟨_,_,h⟩:=hat.sim.mem;h.lt _ _ hR
 refine⟨c,(i,some (q,st.m.obj q,R)),rfl,b,.inl ⟨hw,fun ρ' σ' hS=>?_⟩,fun q' ob' Rt' h=>by cases h;exact⟨.refl,rfl,Oh ..,hlt⟩⟩
 obtain⟨d,p,u,f,a,j⟩:=hS
 obtain⟨t,k,n⟩:=key d p ρ' σ' u f j (by rw[a _ _ hR,hR])
 have:t=c:=k.uniq (b.mono a) hok
 subst this
 obtain⟨dd,op,ty,pos,af,gd⟩:=o
 exact n dd ty pos af gd
theorem Bok{m1:Mem}(hat:g.At st R e ds ρ σ σp)(he:(opK C.P o.op).run st.e st.m = .v x m1)(hm:xMild o.op=true)(hn:m1.nx=st.m.nx)(hw:Bz g.l.toArray o e=true) :
  Ako g i o K st x R e:=by
 rcases Awt o.op R st.e e st.m x m1 hat.sim.env hat.sim.mem.globR he with⟨_,v,hv,h⟩|⟨_,h,_⟩
 ·refine⟨v,(i,none),rfl,hv,.inl ⟨hw,fun ρ' σ' _=>?_⟩,fun _ _ _ h=>by cases h⟩
  obtain⟨dd,op,ty,pos,af,gd⟩:=o
  exact h ρ' σ' dd ty pos af gd
 ·exact absurd hn (h hm)
theorem Bak(hw:Bz g.l.toArray o e=false):Ako g i o K st .undef R e:=⟨undef,(i,none),rfl,.t .nil .nil,.inr ⟨hw,rfl⟩,fun _ _ _ h=>by cases h⟩
/-- The only one: what it does. -/
def UqOk(C:Ctx)(l:List Oper)(o:Oper)(st:St)(x:CV)(m1:Mem)(ds1:List CD):Prop :=
 ((guardK l o).run st.e=false∧x = .undef∧m1=st.m∧ds1=st.ds)∨((guardK l o).run st.e=true∧Anr C o.op st x m1 ds1)
theorem UqOk.kept{l:List Oper}{m1:Mem}{ds1:List CD}(h:UqOk C l o st x m1 ds1):Kept st.m m1∧m1.outs=st.m.outs∧ds1=st.ds:=by
 rcases h with⟨_,_,rfl,rfl⟩|⟨_,a,b,c,_⟩
 ·exact⟨.refl _,rfl,rfl⟩
 ·exact⟨a,b,c⟩
theorem Axi{b:FB}{i:Nat}{l:List Oper}{m1:Mem}{ds1:List CD}(h:UqOk C l o st x m1 ds1)(hi:l[i]?=some o)(hk:(gokK l o).run st.e=true)(hn:NoRecv σp)(hs:Sim R st e ds ρ σ σp) :
  OpH C b l.toArray i (fun e' ds' ρ' σ'=>ds'=ds∧∃R' v,XR.le R R'∧Ro.le ρ ρ'∧e'=Ja e o.dst v∧V1 R' x v∧MemX R' m1 ρ' σ' σp) e ds ρ σ:=by
 have hw:=Js hs.env hk
 unfold OpH
 rw[Ib,hi]
 simp only
 rcases h with⟨a,rfl,rfl,rfl⟩|⟨a,_,_,_,c⟩
 ·rw[if_neg (by rw[hw,a];simp)]
  exact⟨trivial,R,undef,.refl,.refl,rfl,.t .nil .nil,hs.mem⟩
 ·rw[if_pos (by rw[hw,a])]
  obtain⟨dd,op,ty,pos,af,gd⟩:=o
  refine Eu (fun nx σ' hx=>hx.mono ?_) _ _ (c R e ds ρ σ σp b.round dd ty pos af gd hn hs)
  rintro v ds1 ρ' σ' ⟨rfl,R',d,f,g,j⟩
  exact⟨rfl,R',v,d,f,rfl,g,j⟩
end
/-- The operation that may come early: what it yields,what its block holds. -/
structure FlO where
 op:Op
 af:Array Edge
 vl:Nat→Value
 cx:Nat→CV
 t:TypeId
 vs:Env→List Value
/-- It may come early. -/
structure FlD(P:Program)(l:List Oper)(f d:Nat)(w:FlO):Prop where
 at_:∃ty pos,l[f]?=some ⟨some d,w.op,ty,pos,w.af,none⟩
 val:∀(R:XR) n r,R n=some (r,0)→V1 R (w.cx n) (w.vl r)
 raw:∀(R:XR) e e' m,EnvR R e e'→Jp R→xIsV ((opK P w.op).run e m)=true→∀ρ σ (Q:Next→Own→Prop) dd ty pos af g,(∀r,Q (.value (w.vl r)) ((r,.obj (.cells (w.vs e').toArray w.t (0,0)))::σ))→wpS P ρ (execOp (Af e') ⟨dd,w.op,ty,pos,af,g⟩) σ Q
 run:∀(R:XR) e e' m x m',EnvR R e e'→Jp R→(opK P w.op).run e m = .v x m'→∃c,x=w.cx m.nx∧m'=m.add (.cells c)∧VR R c (w.vs e')
 simple:∀e m,simpleRd ((opK P w.op).run e m)
 free:∀(j:Nat) oj,l[j]?=some oj→j≠f→(∀e∈w.af,Region.binds .any e=true→e.on≠j)→(∀e∈oj.after,Region.binds .any e=true→e.on≠f)→d∉oj.looksAt l.toArray∧oj.dst≠some d∧∀e v,w.vs (Ja e oj.dst v)=w.vs e
theorem Bmi{P:Program}{o:Op}(h:(∃t,o = .alloc t)∨∃t n ps,o = .buildSlice t n ps)(af:Array Edge):∃w:FlO,w.op=o∧w.af=af∧(∀(R:XR) n r,R n=some (r,0)→V1 R (w.cx n) (w.vl r)) ∧
  (∀(R:XR) e e' m,EnvR R e e'→Jp R→xIsV ((opK P o).run e m)=true→∀ρ σ (Q:Next→Own→Prop) dd ty pos af g,(∀r,Q (.value (w.vl r)) ((r,.obj (.cells (w.vs e').toArray w.t (0,0)))::σ))→wpS P ρ (execOp (Af e') ⟨dd,o,ty,pos,af,g⟩) σ Q) ∧
  (∀(R:XR) e e' m x m',EnvR R e e'→Jp R→(opK P o).run e m = .v x m'→∃c,x=w.cx m.nx∧m'=m.add (.cells c)∧VR R c (w.vs e'))∧∀e (dst:Option Tmp) v,(∀d,dst=some d→(.tmp d:Operand)∉o.operands.toList)→w.vs (Ja e dst v)=w.vs e:=by
 have isV:∀{y:OR},xIsV y=true→∃x m',y = .v x m':=fun {y} h=>by
  cases y with
  | v x m=>exact⟨x,m,rfl⟩
  | _=>cases h
 rcases h with⟨t,rfl⟩|⟨t,n,ps,rfl⟩
 ·by_cases hz:∃z c,xZeroT P t=some z∧z.cells=some c
  ·obtain⟨z,c,hz,hc⟩:=hz
   obtain⟨vs,D,E⟩:=Axt hz hc
   have B:∀e m,(opK P (.alloc t)).run e m = .v (.p m.nx 0) (m.add (.cells c)):=fun e m=>by unfold opK;simp only[hz,hc]
   refine⟨⟨.alloc t,af,fun r=>.pointer (some ⟨r,0,none⟩),fun n=>.p n 0,t,fun _=>vs⟩,rfl,rfl,fun R n r hr=>.p hr .nil,fun R e e' m _ _ _ ρ σ Q dd ty pos af g hq=>E _ ρ σ Q dd ty pos af g hq,fun R e e' m x m' _ _ h=>?_,fun _ _ _ _=>rfl⟩
   rw[B]at h
   obtain⟨rfl,rfl⟩:=Fm h
   exact⟨c,rfl,rfl,D R⟩
  ·have hb:∀e m,(opK P (.alloc t)).run e m = .bad:=fun e m=>by
    unfold opK
    simp only
    split
    ·rename_i z hz'
     split
     ·rename_i c hc;exact absurd ⟨z,c,hz',hc⟩ hz
     ·rfl
    ·rfl
   refine⟨⟨.alloc t,af,fun r=>.pointer (some ⟨r,0,none⟩),fun n=>.p n 0,t,fun _=>[]⟩,rfl,rfl,fun R n r hr=>.p hr .nil,fun R e e' m _ _ h=>?_,fun R e e' m x m' _ _ h=>?_,fun _ _ _ _=>rfl⟩
   ·rw[hb]at h;cases h
   ·rw[hb]at h;cases h
 ·by_cases hk:∃el z,P.underlying t=some (.slice el)∧xSzT P el=some z
  ·obtain⟨el,z,hT,hz⟩:=hk
   have C:∃zs:List Value,∀(R:XR) e e' m x m',EnvR R e e'→Jp R→(opK P (.buildSlice t n ps)).run e m = .v x m' →
     ∃c a,x = .sl m.nx 0 n true n∧m'=m.add (.cells c)∧VR R c a∧Instr.fill (fun i=>some (i*z,z)) zs.toArray (ps.toList.map fun p=>(p.1,Af e' p.2))=some a.toArray ∧
      ∀ρ σ (Q:Next→Own→Prop) dd ty pos af g,(∀r,Q (.value (.slice (some ⟨r,0,none⟩) n n)) ((r,.obj (.cells a.toArray el (0,0)))::σ))→wpS P ρ (execOp (Af e') ⟨dd,.buildSlice t n ps,ty,pos,af,g⟩) σ Q:=Aht hT hz
   obtain⟨zs,hzs⟩:=C
   refine⟨⟨.buildSlice t n ps,af,fun r=>.slice (some ⟨r,0,none⟩) n n,fun k=>.sl k 0 n true n,el,fun e=>((Instr.fill (fun i=>some (i*z,z)) zs.toArray (ps.toList.map fun p=>(p.1,Af e p.2))).getD #[]).toList⟩,rfl,rfl,fun R n r hr=>.slK hr .nil,fun R e e' m he hg h ρ σ Q dd ty pos af g hq=>?_,fun R e e' m x m' he hg h=>?_,fun e dst v hd=>?_⟩
   ·obtain⟨x,m',hv⟩:=isV h
    obtain⟨c,a,_,_,_,b,u⟩:=hzs R e e' m x m' he hg hv
    refine u ρ σ Q dd ty pos af g fun r=>?_
    have:=hq r
    simp only[b,Aqf]at this
    exact this
   ·obtain⟨c,a,f,j,q,b,_⟩:=hzs R e e' m x m' he hg h
    refine⟨c,f,j,?_⟩
    simp only[b,Aqf]
    exact q
   ·have:(ps.toList.map fun p=>(p.1,Af (Ja e dst v) p.2))=ps.toList.map fun p=>(p.1,Af e p.2):=List.map_congr_left fun p hp=>by
     rw[Aer fun d hd' he=>hd d hd' ?_]
     rw[←he]
     simp only[Op.operands,Bdi]
     exact Ml hp
    simp only[this]
  ·have hb:∀e m,(opK P (.buildSlice t n ps)).run e m = .bad:=fun e m=>by
    unfold opK
    simp only
    split
    ·rename_i el hT
     split
     ·rename_i z _ _ hz' _ _;exact absurd ⟨el,z,hT,hz'⟩ hk
     ·rfl
    ·rfl
   refine⟨⟨.buildSlice t n ps,af,fun r=>.slice (some ⟨r,0,none⟩) n n,fun k=>.sl k 0 n true n,t,fun _=>[]⟩,rfl,rfl,fun R n r hr=>.slK hr .nil,fun R e e' m _ _ h=>?_,fun R e e' m x m' _ _ h=>?_,fun _ _ _ _=>rfl⟩
   ·rw[hb]at h;cases h
   ·rw[hb]at h;cases h
theorem Bmh{P:Program}{l:List Oper}{f:Nat}(h:xFloat l=some f):∃d w,FlD P l f d w:=by
 have he:xEarly l f=true:=by
  unfold xFloat at h
  split at h
  ·rename_i f' hf
   subst h
   have:=List.mem_of_find?_eq_some hf
   unfold xCands at this
   obtain⟨a,b,p⟩:=Iu.1 this
   cases p
   exact(Nv.1 b).2
  ·cases h
 unfold xEarly at he
 cases hf:l[f]? with
 | none=>rw[hf]at he;cases he
 | some o =>
  rw[hf]at he
  simp only[Fd]at he
  obtain⟨b,c⟩:=he
  obtain⟨dst,op,ty,pos,af,gd⟩:=o
  simp only at b c
  obtain⟨d,hd,hg,ho⟩:∃d,dst=some d∧gd=none∧((∃t,op = .alloc t)∨∃t n ps,op = .buildSlice t n ps):=by
   split at b
   ·exact⟨_,rfl,rfl,.inl ⟨_,rfl⟩⟩
   ·exact⟨_,rfl,rfl,.inr ⟨_,_,_,rfl⟩⟩
   ·cases b
  subst hd hg
  obtain⟨w,u,x,y,z,B,C⟩:=Bmi (P:=P) ho af
  subst u x
  refine⟨d,w,⟨ty,pos,hf⟩,y,z,B,fun e m=>Aws _ ?_ ?_ e m,fun j oj hj hne q hno=>?_⟩
  ·rcases ho with⟨t,ho⟩|⟨t,n,ps,ho⟩<;>rw[ho]<;>rfl
  ·rcases ho with⟨t,ho⟩|⟨t,n,ps,ho⟩<;>rw[ho]<;>rfl
  ·have hap:=Region.free_spec (md:=.any) (ops:=l.toArray) (by rw[Ib];exact hf) (Ahw c) j oj (by rw[Ib];exact hj) hne (by
    rw[Ia,Uk]
    have hj':j<l.length:=(Ig.1 hj).1
    unfold xDeps
    rw[Oj,Avy hj']
    simp only[Aes,Aqf]
    rw[Aze]
    intro e he hb
    rw[Fd]at hb
    exact q e (by simpa using he) hb.1 (by simpa using hb.2)) hno
   obtain⟨g,i,k⟩:=Oper.apart_spec hap
   refine⟨g d rfl,i d rfl,fun e v=>C e oj.dst v fun d' hd' hm=>k d' hd' ?_⟩
   exact Lb _ (List.mem_filterMap.2 ⟨.tmp d',by simpa using hm,rfl⟩)
section
variable{C:Ctx}{P:Program}{l:List Oper}{f d:Nat}{w:FlO}{li:List Bool}
theorem Aiz{i:Nat}{o:Oper}(hi:i∈Dl l li)(ho:l[i]?=some o)(hf:li.getD f true=false):∀e∈o.after,Region.binds .any e=true→e.on≠f:=fun e he hb heq=>by
 rw[Iz]at hi
 obtain⟨_,o',ho',b⟩:=mem_ready.1 hi
 rw[Ib,ho]at ho'
 cases ho'
 have a:=b e he hb
 rw[Ia,heq]at a
 rw[Uk]at a hf
 cases hx:li[f]? with
 | none=>rw[hx]at a;cases a
 | some y=>rw[hx]at a hf;simp only[Aqf]at a hf;rw[a]at hf;cases hf
/-- All that it waits for has come up. -/
def DepOk(w:FlO)(li:List Bool):Prop:=∀e∈w.af,Region.binds .any e=true→li.getD e.on false=true
theorem DepOk.set(h:DepOk w li)(i:Nat):DepOk w (li.set i true):=fun e he hb=>by
 have:=h e he hb
 rw[Uk]at this ⊢
 rw[Rk]
 split
 ·split
  ·rfl
  ·rename_i h1 h2;rw[←h1]at this;rw[Og (by omega)]at this;exact this
 ·exact this
theorem DepOk.ne{i:Nat}(h:DepOk w li)(hi:i∈Dl l li):∀e∈w.af,Region.binds .any e=true→e.on≠i:=fun e he hb heq=>by
 have a:=h e he hb
 have b:=Ajh hi
 rw[heq]at a
 rw[Uk]at a b
 cases hx:li[i]? with
 | none=>rw[hx]at a;cases a
 | some y=>rw[hx]at a b;simp only[Aqf]at a b;rw[a]at b;cases b
theorem Se(h:FlD P l f d w)(hf:li.getD f true=false)(hd:DepOk w li):f∈Dl l li:=by
 rw[Iz,mem_ready]
 obtain⟨ty,pos,ha⟩:=h.at_
 refine⟨by rw[Ia];exact hf,_,by rw[Ib];exact ha,fun e he hb=>?_⟩
 rw[Ia];exact hd e he hb
theorem Ayp(h:FlD P l f d w)(hf:f∈Dl l li):DepOk w li:=by
 rw[Iz]at hf
 obtain⟨_,o',ho',a⟩:=mem_ready.1 hf
 obtain⟨ty,pos,ha⟩:=h.at_
 rw[Ib,ha]at ho'
 cases ho'
 exact fun e he hb=>by have:=a e he hb;rw[Ia]at this;exact this
end
end
section
open Go Go.Conc
section
variable{C:Ctx}{F:Fns}
def Baw(g:RG C)(fl:Option Nat)(r:List (Nat×Bool×Bool))(K:List (Nat×Nat))(st:St):Prop:=∀li,xGood g.l fl g.pz r li=true →
 (∀fuel lv R e ds ρ σ,r.length≤fuel→g.At st R e ds ρ σ g.σ0→LvOk K st.m R lv→g.A fuel lv li e ds ρ σ) ∧
 (∀f d w rB fuel lv R e ds ρ σ,fl=some f→li.getD f true=false→FlD C.P g.l f d w→DepOk w li→r.length≤fuel+1→g.At st R e ds ρ σ ((rB,.obj (.cells (w.vs e).toArray w.t (0,0)))::g.σ0)→LvOk K st.m R lv→(∀p∈lv,wtL g.l f p=false) →
  g.A fuel lv (li.set f true) (Ja e (some d) (w.vl rB)) ds ρ σ)
theorem Yr{l:List Oper}{fl:Option Nat}{pz:List Nat}{i:Nat}{tk fp:Bool}{r:List (Nat×Bool×Bool)}{li:List Bool}(h:xGood l fl pz ((i,tk,fp)::r) li=true) :
  i∈Dl l li∧xGood l fl pz r (li.set i true)=true∧(tk=true→i∈pz∧xTake l li i=true∧∀f,fl=some f→f≠i)∧(tk=false→xOnly l fl li i=true∧(xFp l fl li i=true→fp=true)):=by
 unfold xGood at h
 cases tk with
 | true =>
  simp only[Fd]at h
  obtain⟨⟨b,a⟩,c⟩:=h
  refine⟨by simpa using b,c,fun _=>⟨by simpa using a.1.1,a.1.2,fun f hf e=>?_⟩,fun ht=>by cases ht⟩
  subst hf e
  have:=a.2
  simp at this
 | false =>
  simp only[Fd]at h
  obtain⟨⟨b,a⟩,c⟩:=h
  refine⟨by simpa using b,c,fun ht=>(by cases ht),fun _=>⟨a.1,fun hx=>?_⟩⟩
  have:=a.2
  rw[hx]at this
  exact this
theorem Bjb{l:List Oper}{fl:Option Nat}{i j:Nat}{li:List Bool}(h:xOnly l fl li i=true)(hj:j∈Dl l li):j=i∨(fl=some j∧li.getD j true=false∧j≠i):=by
 unfold xOnly xRest0 at h
 cases fl with
 | none =>
  have:=Hs.1 h j hj
  exact .inl (lZ7 this).symm
 | some f =>
  simp only at h
  cases hb:Nat.beq f i with
  | true =>
   rw[hb]at h
   have:=Hs.1 h j hj
   exact .inl (lZ7 this).symm
  | false =>
   rw[hb]at h
   by_cases hjf:j=f
   ·subst hjf
    exact .inr ⟨rfl,Ajh hj,fun e=>by subst e;simp at hb⟩
   ·have:=Hs.1 h j (Sq hj hjf)
    exact .inl (lZ7 this).symm
theorem Bew{l:List Oper}{f i j:Nat}{li:List Bool}(h:xOnly l (some f) li i=true)(hne:f≠i)(hj:j∈Dl l (li.set f true)):j=i:=by
 unfold xOnly xRest0 at h
 simp only at h
 have hb:Nat.beq f i=false:=by
  cases hb:Nat.beq f i with
  | true=>exact absurd (lZ7 hb) hne
  | false=>rfl
 rw[hb]at h
 have:=Hs.1 h j hj
 exact(lZ7 this).symm
/-- One that is taken. -/
theorem Zf{g:RG C}{fl:Option Nat}{i:Nat}{fp:Bool}{r:List (Nat×Bool×Bool)}{o:Oper}{st st1:St}{K K':List (Nat×Nat)}{x:CV}(hg:g.Ok)(hi:g.l[i]?=some o)
  (hst:st1=⟨(dstK o.dst).run st.e x,st.m,st.ds⟩) (hK:∀a∈K,a∈K') (hy:∀R e ds ρ σ σp,g.At st R e ds ρ σ σp→Ako g i o K' st x R e) (ih:Baw g fl r K' st1):Baw g fl ((i,true,fp)::r) K st:=by
 intro li hgd
 obtain⟨hr,hgr,ht,_⟩:=Yr hgd
 obtain⟨_,htk,hnf⟩:=ht rfl
 obtain⟨ihA,ihB⟩:=ih _ hgr
 have y:=Region.noSelect_spec (Alr hg.sel)
 have G:Ahv g.l li i=true:=by
  unfold xTake at htk
  rw[Fd]at htk
  exact htk.2
 have hfs:=Region.free_spec (md:=.any) (ops:=g.l.toArray) (i:=i) (oi:=o) (by rw[Ib];exact hi) (Ahw G)
 have hi':g.l.toArray[i]?=some o:=by rw[Ib];exact hi
 refine⟨fun b lv R e ds ρ σ t hat hlv=>?_,fun f d w rB b lv R e ds ρ σ hfl hfu hfd hdp t hat hlv hlf=>?_⟩
 ·obtain⟨v,p,hp,hv,hyv,hpk⟩:=hy R e ds ρ σ _ hat
  have u:LvOk K' st1.m R (p::lv):=fun p' hp' q ob Rt he=>by
   subst hst
   rcases lZ8.1 hp' with rfl|hp'
   ·obtain⟨c,h,k,n⟩:=hpk q ob Rt he
    exact⟨c,h,hp ▸ k,n⟩
   ·obtain⟨c,h,k,n⟩:=hlv p' hp' q ob Rt he
    exact⟨c,h,hK _ k,n⟩
  cases b with
  | zero=>simp at t
  | succ b =>
   refine Va hi' y (Anp hp) b lv _ e ds ρ σ hfs (Iz.1 hr) hyv ?_
   rw[Hy]
   refine ihA b (p::lv) R _ ds ρ σ (by simpa using t) ?_ u
   subst hst
   exact⟨hat.le,hat.rle,Jl hat.sim.env hv,hat.sim.mem,hat.sim.ds⟩
 ·obtain⟨v,p,hp,hv,hyv,hpk⟩:=hy R e ds ρ σ _ hat
  have u:LvOk K' st1.m R (p::lv):=fun p' hp' q ob Rt he=>by
   subst hst
   rcases lZ8.1 hp' with rfl|hp'
   ·obtain⟨c,h,k,n⟩:=hpk q ob Rt he
    exact⟨c,h,hp ▸ k,n⟩
   ·obtain⟨c,h,k,n⟩:=hlv p' hp' q ob Rt he
    exact⟨c,h,hK _ k,n⟩
  have hne:f≠i:=hnf f hfl
  have H:∀p'∈p::lv,wtL g.l f p'=false:=fun p' hp'=>by
   rcases lZ8.1 hp' with rfl|hp'
   ·obtain⟨ty,pos,ha⟩:=hfd.at_
    exact Anp hp f _ (by rw[Ib];exact ha) (hdp.ne hr)
   ·exact hlf p' hp'
  obtain⟨D,E,F⟩:=hfd.free i o hi (Ne.symm hne) (hdp.ne hr) (Aiz hr hi hfu)
  have z:(li.set i true).getD f true=false:=by rw[Ql (Ne.symm hne)];exact hfu
  cases b with
  | zero =>
   exfalso
   have I:r=[]:=Avq.1 (by simpa using t)
   subst I
   have:=Se (li:=li.set i true) hfd z (hdp.set i)
   have B:(match Dl g.l (li.set i true) with|[]=>true|_=>false)=true:=hgr
   split at B
   ·rename_i h0;rw[h0]at this;cases this
   ·cases B
  | succ b =>
   refine Va hi' y (Anp hp) b lv _ _ ds ρ σ ?_ ?_ (Aus D (fun cs bb=>y i o cs bb hi') hyv) ?_
   ·intro j oj hj hji hun hno
    refine hfs j oj hj hji ?_ hno
    rw[Ia]at hun ⊢
    by_cases hjf:f=j
    ·subst hjf;exact hfu
    ·rw[Ql hjf]at hun;exact hun
   ·exact Iz.1 (Sq hr (Ne.symm hne))
   ·rw[Hy,List.set_comm _ _ hne,Vx e _ v (fun d' hd=>by cases hd;exact E)]
    refine ihB f d w rB b (p::lv) R _ ds ρ σ hfl z hfd (hdp.set i) (by simpa using t) ?_ u H
    rw[F]
    subst hst
    exact⟨hat.le,hat.rle,Jl hat.sim.env hv,hat.sim.mem,hat.sim.ds⟩
/-- The only one. -/
theorem Azx{g:RG C}{fl:Option Nat}{i:Nat}{fp:Bool}{r:List (Nat×Bool×Bool)}{o:Oper}{st st1:St}{K K':List (Nat×Nat)}{x:CV}{m1:Mem}{ds1:List CD}(hg:g.Ok)(hi:g.l[i]?=some o)(hkp:Kept st.m m1)(hn:xKeep (xWaits g.l i) (Nat.sub m1.ln st.m.ln) m1.log K=some K')
  (hfl:∀f,fl=some f→∃d w,FlD C.P g.l f d w) (hfo:fp=true→∀f d w,fl=some f→FlD C.P g.l f d w→xIsV ((opK C.P w.op).run st.e st.m)=true) (hk:(gokK g.l o).run st.e=true)
  (hst:st1=⟨(dstK o.dst).run st.e x,m1,ds1⟩) (hdo:UqOk C g.l o st x m1 ds1) (hal:∀f d w,fl=some f→f=i→FlD C.P g.l f d w→∀(R:XR) e,EnvR R st.e e→Jp R→∃c,x=w.cx st.m.nx∧m1=st.m.add (.cells c)∧VR R c (w.vs e)) (ih:Baw g fl r K' st1):Baw g fl ((i,false,fp)::r) K st:=by
 intro li hgd
 have a3:=hgd
 obtain⟨hr,hgr,_,ht⟩:=Yr hgd
 obtain⟨hon,Y⟩:=ht rfl
 obtain⟨ihA,ihB⟩:=ih _ hgr
 have a2:=Region.noSelect_spec (Alr hg.sel)
 have hi':g.l.toArray[i]?=some o:=by rw[Ib];exact hi
 have hds:=hdo.kept.2.2
 have B:∀f d w rB a lv R e ds ρ σ,fl=some f→li.getD f true=false→FlD C.P g.l f d w→DepOk w li→r.length+1≤a+1→g.At st R e ds ρ σ ((rB,.obj (.cells (w.vs e).toArray w.t (0,0)))::g.σ0)→LvOk K st.m R lv→(∀p∈lv,wtL g.l f p=false) →
   g.A a lv (li.set f true) (Ja e (some d) (w.vl rB)) ds ρ σ:=by
  intro f d wo rB a lv R e ds ρ σ F hfu hfd hdp n hat hlv hlf
  by_cases hne:f=i
  ·obtain⟨c,hx,Z,hcv⟩:=hal f d wo F hne hfd R e hat.sim.env hat.sim.mem.globR
   subst hne
   obtain⟨ty,pos,E⟩:=hfd.at_
   rw[hi]at E
   cases E
   have hfr:XR.le R (R.add st.m.nx (rB,0)):=let ⟨_,_,hm0⟩:=hat.sim.mem;hm0.fresh _
   have had:=hat.sim.mem.adopt (b:=rB) (c:=0) (r:=.obj (.cells (wo.vs e).toArray wo.t (0,0))) (o:=.cells c) (.cells (hcv.mono hfr) (Ahh _))
   have y:LvOk K' st1.m (R.add st.m.nx (rB,0)) lv:=by
    have k:=hlv.step (l:=g.l) hkp hfr hn
    rw[List.filter_eq_self.2 fun p hp=>by rw[hlf p hp];rfl]at k
    subst hst;exact k
   refine ihA a lv (R.add st.m.nx (rB,0)) _ ds ρ σ (by omega) ?_ y
   subst hst hx Z
   refine⟨hat.le.trans had.1,hat.rle,?_,had.2,?_⟩
   ·exact(hat.sim.env.mono had.1).set (hfd.val _ _ _ XR.add_same)
   ·rw[hds];exact hat.sim.ds.mono had.1
  ·obtain⟨O,T,U⟩:=hfd.free i o hi (Ne.symm hne) (hdp.ne hr) (Aiz hr hi hfu)
   have L:(li.set i true).getD f true=false:=by rw[Ql (Ne.symm hne)];exact hfu
   cases a with
   | zero =>
    exfalso
    have a0:r=[]:=Avq.1 (by omega)
    subst a0
    have:=Se (li:=li.set i true) hfd L (hdp.set i)
    have M:(match Dl g.l (li.set i true) with|[]=>true|_=>false)=true:=hgr
    split at M
    ·rename_i k;rw[k]at this;cases this
    ·cases M
   | succ a =>
    refine Acn (rs:=Dl g.l (li.set f true)) (Hh _ _) (fun k=>?_) (hlv.S hat.sim.mem) fun j hj=>?_
    ·have:=Sq hr (Ne.symm hne);rw[k]at this;cases this
    ·subst F
     have hji:=Bew hon hne hj
     subst hji
     have hn':NoRecv ((rB,.obj (.cells (wo.vs e).toArray wo.t (0,0)))::g.σ0):=Atx hg.nr
     refine Bjc hi' O T (fun cs bb=>a2 j o cs bb hi') ?_ (Axi (b:=g.b) hdo hi hk hn' hat.sim)
     rintro N q z D ⟨rfl,R',v,h,G,rfl,H,I⟩
     have u:g.At st1 R' (Ja e o.dst v) q z D ((rB,.obj (.cells (wo.vs (Ja e o.dst v)).toArray wo.t (0,0)))::g.σ0):=by
      rw[U]
      subst hst
      exact⟨hat.le.trans h,hat.rle.trans G,Jl (hat.sim.env.mono h) H,I,by rw[hds];exact hat.sim.ds.mono h⟩
     have y:LvOk K' st1.m R' (lv.filter fun p=>!wtL g.l j p):=by
      subst hst;exact hlv.step hkp h hn
     rw[Hy,List.set_comm _ _ hne]
     exact ihB f d wo rB a _ R' _ q z D rfl L hfd (hdp.set j) (by omega) u y fun p hp=>hlf p (Nv.1 hp).1
 refine⟨fun a lv R e ds ρ σ n hat hlv=>?_,fun f d w rB a lv R e ds ρ σ F hfu hfd hdp n hat hlv hlf=>B f d w rB a lv R e ds ρ σ F hfu hfd hdp (by simpa using n) hat hlv hlf⟩
 cases a with
 | zero=>simp at n
 | succ a =>
  refine Acn (rs:=Dl g.l li) (Hh _ _) (fun k=>by rw[k]at hr;cases hr) (hlv.S hat.sim.mem) fun j hj=>?_
  rcases Bjb hon hj with rfl|⟨hflj,hfu,hne⟩
  ·refine(Axi (b:=g.b) hdo hi hk hg.nr hat.sim).mono ?_
   rintro N q z D ⟨rfl,R',v,h,G,rfl,H,I⟩
   have u:g.At st1 R' (Ja e o.dst v) q z D g.σ0:=by
    subst hst
    exact⟨hat.le.trans h,hat.rle.trans G,Jl (hat.sim.env.mono h) H,I,by rw[hds];exact hat.sim.ds.mono h⟩
   have y:LvOk K' st1.m R' (lv.filter fun p=>!wtL g.l j p):=by
    subst hst;exact hlv.step hkp h hn
   rw[Hy]
   exact ihA a _ R' _ q z D (by simpa using n) u y
  ·obtain⟨d,wo,hfd⟩:=hfl j hflj
   have X:fp=true:=Y (by
    unfold xFp
    rw[hflj]
    have V:Nat.beq j i=false:=by
     cases hb:Nat.beq j i with
     | true=>exact absurd (lZ7 hb) hne
     | false=>rfl
    have W:(Dl g.l li).contains j=true:=by simpa using hj
    simp only[V,W];rfl)
   have a1:=hfd.raw R st.e e st.m hat.sim.env hat.sim.mem.globR (hfo X j d wo hflj hfd)
   have hdp:=Ayp hfd hj
   obtain⟨ty,pos,E⟩:=hfd.at_
   unfold OpH
   rw[Ib,E]
   simp only
   rw[if_pos (by rfl)]
   refine a1 ρ σ _ _ _ _ _ _ fun J=>?_
   have u:g.At st R e ds ρ ((J,.obj (.cells (wo.vs e).toArray wo.t (0,0)))::σ) ((J,.obj (.cells (wo.vs e).toArray wo.t (0,0)))::g.σ0):=⟨hat.le,hat.rle,hat.sim.env,hat.sim.mem.frame,hat.sim.ds⟩
   rw[Hy]
   refine B j d wo J a _ R e ds ρ _ hflj hfu hfd hdp (by simpa using n) u (hlv.sub fun p hp=>(Nv.1 hp).1) fun p hp=>?_
   have:=(Nv.1 hp).2
   simpa using this
end
end
section
open Go Go.Conc
section
variable{C:Ctx}{F:Fns}
theorem Bgo{P:Program}{fo:KH}{l:List Oper}{i:Nat}{fp:Bool}{r:List (Nat×Bool×Bool)}{o:Oper}(hi:l[i]?=some o){rd:Option Nat}{K:List (Nat×Nat)}{st:St} :
  (anyK P l fo ((i,true,fp)::r)).run F rd K st=(match (gokK l o).run st.e with
    | true=>match (guardK l o).run st.e with
     | false=>(anyK P l fo r).run F rd K ⟨(dstK o.dst).run st.e .undef,st.m,st.ds⟩
     | true=>match (opK P o.op).run st.e st.m with
      | .rd x q=>match xOkV x with
       | true=>(anyK P l fo r).run F rd ((i,q)::K) ⟨(dstK o.dst).run st.e x,st.m,st.ds⟩
       | false=>.bad
      | .v x m=>match Nat.beq m.nx st.m.nx with
       | true=>(anyK P l fo r).run F rd K ⟨(dstK o.dst).run st.e x,st.m,st.ds⟩
       | false=>.bad
      | _=>.bad
    | false=>.bad):=by
 rw[anyK]
 simp only[hi]<;>rfl
theorem Bgp{P:Program}{fo:KH}{l:List Oper}{i:Nat}{fp:Bool}{r:List (Nat×Bool×Bool)}{o:Oper}(hi:l[i]?=some o){rd:Option Nat}{K:List (Nat×Nat)}{st:St} :
  (anyK P l fo ((i,false,fp)::r)).run F rd K st=(match (match fp with|true=>fo.run st.e st.m|false=>true),(gokK l o).run st.e with
    | true,true=>match (match (guardK l o).run st.e with|false=>OV.v .undef st.m st.ds|true=>doOR F st ((opK P o.op).run st.e st.m)) with
     | .v x m ds=>match xKeep (xWaits l i) (Nat.sub m.ln st.m.ln) m.log K with
      | some K=>(anyK P l fo r).run F rd K ⟨(dstK o.dst).run st.e x,m,ds⟩
      | none=>.bad
     | .bad=>.bad
    | _,_=>.bad):=by
 rw[anyK]
 simp only[hi]<;>rfl
theorem Axu{P:Program}{fo:KH}{l:List Oper}{i:Nat}{tk fp:Bool}{r:List (Nat×Bool×Bool)}(hi:l[i]?=none){rd:Option Nat}{K:List (Nat×Nat)}{st:St} :
  (anyK P l fo ((i,tk,fp)::r)).run F rd K st = .bad:=by
 rw[anyK]
 simp only[hi]
theorem Dz{ex:Ex}{st:St}(h:Go.Proofs.YtjdkajkimeainaaGreatDoor.R.bad=Em ex st):False:=by cases ex<;>cases h
/-- What a run of a plan says. -/
def Bqk(C:Ctx)(l:List Oper)(pz:List Nat)(fl:Option Nat)(r:List (Nat×Bool×Bool))(K:List (Nat×Nat))(st:St)(ex:Ex)(st':St):Prop :=
 ex = .normal∧Kept st.m st'.m∧st'.m.outs=st.m.outs∧st'.ds=st.ds∧∀g:RG C,g.Ok→g.l=l→g.pz=pz→g.sf=st'→Baw g fl r K st
theorem Acr(hF:FnsOk C F){l:List Oper}{pz:List Nat}{fl:Option Nat}(hfl:∀f,fl=some f→∃d w,FlD C.P l f d w):∀(r:List (Nat×Bool×Bool)) (K:List (Nat×Nat)) (st:St) (rd:Option Nat) (ex:Ex) (st':St),
  (∀i tk fp,(i,tk,fp)∈r→tk=true→∀o,l[i]?=some o→xMild o.op=true) →
  (anyK C.P l (flK C.P l fl) r).run F rd K st=Em ex st'→Bqk C l pz fl r K st ex st'
 | [],K,st,rd,ex,st',_,h=>by
  have h':Go.Proofs.YtjdkajkimeainaaGreatDoor.R.n st=Em ex st':=h
  cases ex with
  | normal =>
   cases h'
   refine⟨rfl,.refl _,rfl,rfl,?_⟩
   rintro g hg rfl rfl hsf li hgd
   have y:(match Dl g.l li with|[]=>true|_=>false)=true:=hgd
   have z:Dl g.l li=[]:=by
    split at y
    ·assumption
    ·cases y
   refine⟨fun u lv R e ds ρ σ _ hat hlv=>?_,fun f d w rB u lv R e ds ρ σ _ hfu hfd hdp _ hat _ _=>?_⟩
   ·exact Xy (by rw[Hh];exact z) ⟨R,hat.le,hat.rle,by rw[hsf];exact hat.sim⟩ (hlv.S hat.sim.mem) u
   ·have:=Se (li:=li) hfd hfu hdp
    rw[z]at this;cases this
  | exit id=>cases h'
  | ret=>cases h'
 | (i,tk,fp)::r,K,st,rd,ex,st',hmd,h=>by
  cases hi:l[i]? with
  | none=>rw[Axu hi]at h;exact(Dz h).elim
  | some o =>
   have t:∀i tk fp,(i,tk,fp)∈r→tk=true→∀o,l[i]?=some o→xMild o.op=true:=fun i tk fp hm=>hmd i tk fp (lZ0 _ hm)
   cases tk with
   | true =>
    rw[Bgo hi]at h
    split at h
    ·rename_i hgk
     split at h
     ·rename_i hgd
      obtain⟨a,b,k,p,j⟩:=Acr hF (pz:=pz) hfl r K ⟨(dstK o.dst).run st.e .undef,st.m,st.ds⟩ rd ex st' t h
      refine⟨a,b,k,p,?_⟩
      rintro g hg rfl rfl hsf
      exact Zf hg hi rfl (fun _ ha=>ha) (fun R e ds ρ σ σp hat=>Bak (by rw[Js hat.sim.env hgk];exact hgd)) (j g hg rfl rfl hsf)
     ·rename_i hgd
      split at h
      ·rename_i x q he
       split at h
       ·rename_i hok
        obtain⟨a,b,k,p,j⟩:=Acr hF (pz:=pz) hfl r ((i,q)::K) ⟨(dstK o.dst).run st.e x,st.m,st.ds⟩ rd ex st' t h
        refine⟨a,b,k,p,?_⟩
        rintro g hg rfl rfl hsf
        exact Zf hg hi rfl (fun _ ha=>lZ0 _ ha) (fun R e ds ρ σ σp hat=>Bkb hat he hok (by rw[Js hat.sim.env hgk];exact hgd)) (j g hg rfl rfl hsf)
       ·exact(Dz h).elim
      ·rename_i x m1 he
       split at h
       ·rename_i hnx
        obtain⟨a,b,k,p,j⟩:=Acr hF (pz:=pz) hfl r K ⟨(dstK o.dst).run st.e x,st.m,st.ds⟩ rd ex st' t h
        refine⟨a,b,k,p,?_⟩
        rintro g hg rfl rfl hsf
        exact Zf hg hi rfl (fun _ ha=>ha) (fun R e ds ρ σ σp hat=>Bok hat he (hmd i true fp mC rfl o hi) (lZ7 hnx) (by rw[Js hat.sim.env hgk];exact hgd)) (j g hg rfl rfl hsf)
       ·exact(Dz h).elim
      ·exact(Dz h).elim
    ·exact(Dz h).elim
   | false =>
    rw[Bgp hi]at h
    split at h
    ·rename_i hfoc hgk
     have hfo:fp=true→∀f d w,fl=some f→FlD C.P l f d w→xIsV ((opK C.P w.op).run st.e st.m)=true:=fun hf f d w hff hfd=>by
      rw[hf]at hfoc
      subst hff
      obtain⟨ty,pos,ha⟩:=hfd.at_
      unfold flK at hfoc
      simp only[ha]at hfoc
      exact hfoc
     split at h
     ·rename_i x m1 ds1 hov
      have hdo:UqOk C l o st x m1 ds1:=by
       split at hov
       ·rename_i hgd;cases hov;exact .inl ⟨hgd,rfl,rfl,rfl⟩
       ·rename_i hgd;exact .inr ⟨hgd,Tm hF hov⟩
      have hal:∀f d w,fl=some f→f=i→FlD C.P l f d w→∀(R:XR) e,EnvR R st.e e→Jp R→∃c,x=w.cx st.m.nx∧m1=st.m.add (.cells c)∧VR R c (w.vs e):=by
       rintro f d w hf rfl hfd R e he hg
       obtain⟨ty,pos,ha⟩:=hfd.at_
       rw[hi]at ha
       cases ha
       have hgd:(guardK l ⟨some d,w.op,ty,pos,w.af,none⟩).run st.e=true:=rfl
       rw[hgd]at hov
       simp only at hov
       cases hr:(opK C.P w.op).run st.e st.m with
       | v x' m' =>
        rw[hr]at hov
        obtain⟨a,b,_⟩:=Bez hov
        subst a b
        exact hfd.run R st.e e st.m _ _ he hg hr
       | bad=>rw[hr]at hov;cases hov
       | _=>have:=hfd.simple st.e st.m;rw[hr]at this;exact this.elim
      split at h
      ·rename_i K' hn
       obtain⟨a,b,k,p,j⟩:=Acr hF (pz:=pz) hfl r K' ⟨(dstK o.dst).run st.e x,m1,ds1⟩ rd ex st' t h
       refine⟨a,hdo.kept.1.trans b,k.trans hdo.kept.2.1,p.trans hdo.kept.2.2,?_⟩
       rintro g hg rfl rfl hsf
       exact Azx hg hi hdo.kept.1 hn hfl hfo hgk rfl hdo hal (j g hg rfl rfl hsf)
      ·exact(Dz h).elim
     ·exact(Dz h).elim
    ·exact(Dz h).elim
theorem Ahp{b:FB}{ops:Array Oper}{Q Q':Env→List Deferred→Ro→Own→Prop}{pz:List Nat}{S:Ro→Own→Prop}(hq:∀e ds ρ σ,Q e ds ρ σ→Q' e ds ρ σ):∀(fuel:Nat) (li:Array Bool) (e:Env) (ds:List Deferred) (ρ:Ro) (σ:Own),El C b ops Q pz S fuel li e ds ρ σ→El C b ops Q' pz S fuel li e ds ρ σ
 | 0,li,e,ds,ρ,σ,h=>⟨h.1,hq _ _ _ _ h.2⟩
 | fuel+1,li,e,ds,ρ,σ,h=>by
  rcases h with h|⟨ρ1,σ1,h1,h2,h3,h4⟩
  ·exact .inl h
  ·exact .inr ⟨ρ1,σ1,h1,h2,fun h0=>hq _ _ _ _ (h3 h0),fun i hi=>(h4 i hi).mono fun e ds ρ σ h=>⟨h.1,Ahp hq fuel _ e ds ρ σ h.2⟩⟩
theorem Aii{l:List Oper}{fl:Option Nat}{pz:List Nat}:∀{r:List (Nat×Bool×Bool)} {li:List Bool},xGood l fl pz r li=true→∀i tk fp,(i,tk,fp)∈r→tk=true→∀o,l[i]?=some o→xMild o.op=true
 | [],_,_,_,_,_,hm,_,_,_=>by cases hm
 | (i0,tk0,fp0)::r,li,h,i,tk,fp,hm,ht,o,ho=>by
  obtain⟨_,h2,h3,_⟩:=Yr h
  rcases lZ8.1 hm with h0|h0
  ·cases h0
   have:=(h3 ht).2.1
   unfold xTake at this
   rw[ho]at this
   simp only[Fd]at this
   exact this.1.1
  ·exact Aii h2 i tk fp h0 ht o ho
theorem Xi(l:List Oper)(fl:Option Nat):∀(n:Nat) (li:List Bool),(xPlan l fl n li).length≤n
 | 0,_=>Et _
 | n+1,li=>by
  unfold xPlan
  split
  ·split
   ·split
    ·exact Mq _
    ·exact Aqa (Xi l _ n _)
   ·exact Mq _
  ·split
   ·exact Aqa (Xi l _ n _)
   ·split
    ·exact Aqa (Xi l _ n _)
    ·exact Mq _
/-- A drawn region that starts no goroutine. -/
theorem Aot(hF:FnsOk C F){l:List Oper}{st:St}{rd:Option Nat}{ex:Ex}{st':St}(h:(drawK C.P l).run F rd st=Em ex st') :
  C.P.follows .mixedOrders=true∧ex = .normal∧Kept st.m st'.m∧st'.m.outs=st.m.outs∧∃pz,∀b R e ds ρ σ σ₀,NoRecv σ₀→Sim R st e ds ρ σ σ₀ →
   ∃S:Ro→Own→Prop,El C b l.toArray (fun e' ds' ρ' σ'=>∃R',XR.le R R'∧Ro.le ρ ρ'∧Sim R' st' e' ds' ρ' σ' σ₀) pz S l.length (List.replicate l.length false).toArray e ds ρ σ:=by
 unfold drawK at h
 split at h
 ·rename_i hsel hmx
  refine⟨hmx,?_⟩
  simp only at h
  split at h
  ·rename_i hgood hany
   have hk:∀{k:KD},(∃f,k=⟨f⟩)→True:=fun _=>trivial
   generalize hp:xPlan l (xFloat l) l.length (List.replicate l.length false)=p at *
   have n:(anyK C.P l (flK C.P l (xFloat l)) p).run F rd [] st=Em ex st':=by
    rw[hany];exact h
   have hfl:∀f,xFloat l=some f→∃d w,FlD C.P l f d w:=fun f hf=>Bmh hf
   obtain⟨c,i,j,q,a⟩:=Acr hF (pz:=xPz p) hfl p [] st rd ex st' (Aii hgood) n
   refine⟨c,i,j,[],fun b R e ds ρ σ σ₀ hn hs=>?_⟩
   let g:RG C:=⟨b,l,xPz p,R,ρ,σ₀,st'⟩
   have hg:g.Ok:=⟨hsel,hn⟩
   have hA:=(a g hg rfl rfl rfl _ hgood).1
   refine⟨fun _ _=>True,Acp (hA l.length [] R e ds ρ σ ?_ ⟨.refl,.refl,hs⟩ fun p hp=>(by cases hp))⟩
   rw[←hp]
   exact Xi l (xFloat l) l.length _
  ·exact(Dz h).elim
 ·exact(Dz h).elim
end
end
section
open Go Go.Conc
section
variable{C:Ctx}{b:FB}{n:Nat}
/-- A drawn region whose last operation waits for all the others. -/
theorem Axs{l₀:List Oper}{id:Nat}{Q:Hu}{Q':Env→List Deferred→Ro→Own→Prop}{e:Env}{ds:List Deferred}{ρ:Ro}{σ:Own}(k:Nat)(pz:List Nat)(S:Ro→Own→Prop)(hm:C.P.follows .mixedOrders=true)(hs':Fu n l₀.toArray=true)(hk':b.kind ≠ .early)(hd:∃oL,l₀.drop k=[oL])(hg:Adh (l₀.take k)=true)(hc:Amp (l₀.take k) l₀=true)
  (hQ:∀e ds ρ σ,Q' e ds ρ σ→Lq C b n l₀.toArray [(l₀.take k).length] (fun e ds ρ σ=>Q .normal e ds ρ σ) e ds ρ σ)
  (h2:El C b (l₀.take k).toArray Q' pz S (l₀.take k).length (List.replicate (l₀.take k).length false).toArray e ds ρ σ):WpC C b n (.region id l₀.toArray true) Q e ds ρ σ:=by
 obtain⟨oL,hd⟩:=hd
 have hl:l₀.take k++[oL]=l₀:=by rw[←hd,Aao]
 have f:l₀.toArray.size=(l₀.take k).length+1:=by
  rw[Aaw];have:=congrArg List.length hl;simp only[lZ1,Qq]at this;omega
 intro tm ks cs ht
 refine .step (fun fr' cs' σ'=>∃t,fr'=Fr b tm ds (.inRegion l₀.toArray (Region.linearise .any l₀.toArray t)::ks)∧cs'=cs∧σ'=σ) (fun W a=>?_) ?_
 ·refine⟨_,cs,{W with drawn:=W.drawn+1},#[],σ,?_,?_,by simp,W.tape W.drawn (.order b.fn id),rfl,rfl,rfl⟩
  ·simp[Conc.G,stepG,stepG.exec,Fr,choose,Sem.run,Question.forced,Question.cut,Region.schedule,hm]
  ·have:=Trans.refl a
   exact⟨⟨a.ro,a.own,a.nd,a.dj⟩,this.size,this.keys,this.kept,this.fresh,this.frame,this.ends,this.chans,this.chansKept,this.crowds,this.crowdsKept,rfl,rfl,rfl⟩
 ·rintro _ _ g ⟨t,rfl,hcs,hσ⟩
  replace hσ:=hσ.symm;replace hcs:=hcs.symm;subst hσ hcs
  have key:=Aap (C:=C) (b:=b) (n:=n) (l':=l₀.take k) (oL:=oL) (Q:=fun e ds ρ σ=>Q .normal e ds ρ σ) (pz:=pz) (S:=S) (by rw[hl];exact hs') hk' hg (by rw[hl];exact hc) (fun e ds ρ σ h=>by rw[hl];exact hQ e ds ρ σ h) (l₀.take k).length t (List.replicate (l₀.take k).length false) e ds ρ σ (by simp) (by
   unfold Mh
   rw[Hs]
   intro i hi
   have:(List.replicate (l₀.take k).length false).getD i false=false:=by
    rw[Uk,List.getElem?_replicate];split<;>rfl
   rw[this];rfl) h2
  rw[hl]at key
  have c:Region.linearise .any l₀.toArray t=Region.linearise.go .any l₀.toArray ((l₀.take k).length+1) t (List.replicate (l₀.take k).length false++[false]).toArray []:=by
   unfold Region.linearise
   rw[f]
   congr 1
   rw[←List.replicate_succ',List.toArray_replicate]
  rw[c]
  refine(key tm ks cs ht).mono ?_
  rintro _ _ ρ' σ' (⟨rfl,tm',e',ds',d,h2,rfl⟩|hp)
  ·exact .inl ⟨rfl,.normal,tm',e',ds',ks,d,h2,rfl,rfl⟩
  ·exact .inr hp
end
section
variable{C:Ctx}{G:GoT C}{F:Fns}{dx:DX}
/-- What a region's or a code's run says. -/
def Pi(G:GoT C)(n:Nat)(rd:Option Nat)(c:Code)(st:St)(ex:Ex)(st':St):Prop:=∀b:FB,b.kind ≠ .early→Bkk G b n rd c st ex st'
theorem Apb{l:List Oper}(h:xGoLast l=true):∃oL,l.drop (l.length-1)=[oL]:=by
 unfold xGoLast at h
 cases hl:l.getLast? with
 | none=>rw[hl]at h;cases h
 | some o =>
  refine⟨o,?_⟩
  obtain⟨pre,rfl⟩:=List.getLast?_eq_some_iff.1 hl
  simp
theorem Boe(hF:FnsOk C F)(hx:Uu G F dx)(hgl:dx.gl=true→(∃S,G=goT C S)∧∀S,Uu (goT C S) F dx){n id:Nat}{l:List Oper}{draw:Bool}{rd:Option Nat}{st:St}{ex:Ex}{st':St}(h:(regK C.P dx n l draw).run F rd st=Em ex st') :
  Pi G n rd (.region id l.toArray draw) st ex st':=by
 intro b hb
 unfold regK at h
 split at h
 ·exact(Dz h).elim
 ·rename_i hsl
  have i:=Ub hsl
  split at h
  ·obtain⟨rfl,a,d⟩:=Xp hx l st rd ex st' h
   exact⟨a,fun hs R e ds ρ σ σ₀ hn hr c=>Aqz (d hs b n R e ds ρ σ σ₀ i hb hn hr c)⟩
  ·split at h
   ·obtain⟨hm,rfl,a,d,pz,p⟩:=Aot hF h
    refine⟨a,fun hs R e ds ρ σ σ₀ hn hr c=>?_⟩
    obtain⟨S,hA⟩:=p b R e ds ρ σ σ₀ hn c
    rw[d]
    refine Reach.of_wp (Vk pz S hm i hb ?_)
    refine Ahp (fun e ds ρ σ h=>⟨rfl,h⟩) _ _ _ _ _ _ ?_
    simpa using hA
   ·exact(Dz h).elim
   ·rename_i hgo hgl1
    obtain⟨⟨j,hG⟩,hxa⟩:=hgl hgl1
    split at h
    ·rename_i f g hng hlb hf hg
     have hf':drawK C.P (l.take (l.length-1))=⟨f⟩:=hf
     have hg':textK C.P dx l (l.drop (l.length-1))=⟨g⟩:=hg
     have h':(match f F rd st with | .n st=>g F rd st|_=>Go.Proofs.YtjdkajkimeainaaGreatDoor.R.bad)=Em ex st':=h
     split at h'
     ·rename_i st1 hf1
      have hd:(drawK C.P (l.take (l.length-1))).run F rd st=Em .normal st1:=by rw[hf'];exact hf1
      have ht:(textK C.P dx l (l.drop (l.length-1))).run F rd st1=Em ex st':=by rw[hg'];exact h'
      obtain⟨hm,_,a,d,pz,p⟩:=Aot hF hd
      obtain⟨rfl,D,_⟩:=Xp (hxa j) _ _ _ _ _ ht
      refine⟨a.trans D,fun hs R e ds ρ σ σ₀ hn hr c=>?_⟩
      obtain⟨S,hA⟩:=p b R e ds ρ σ σ₀ hn c
      subst hG
      have hwp:WpC C b n (.region id l.toArray true) (fun ex' e' ds' ρ' σ'=>ex' = .normal∧∃R',XR.le R R'∧Ro.le ρ ρ'∧Sim R' st' e' ds' ρ' σ' σ₀) e ds ρ σ:=by
       obtain⟨oL,hdr⟩:=Apb hgo
       refine Axs (l.length-1) pz S hm i hb ⟨oL,hdr⟩ hng hlb ?_ hA
       rintro w v J K ⟨t,q,I,E⟩ tm k cs H
       have hT:=(Xp (hxa (fun fr cs' ρ' σ'=>cs'=cs∧∃tm' e' ds',EnvOf n tm' e'∧(Ex.normal=Ex.normal∧∃R',XR.le R R'∧Ro.le ρ ρ'∧Sim R' st' e' ds' ρ' σ' σ₀)∧fr=Fr b tm' ds' k)) _ _ _ _ _ ht).2.2 trivial b n t w v J K σ₀ i hb hn (hr.mono q) E
       have:=hT (l.take (l.length-1)) (Aao _ _).symm tm k cs H fun tm' e' ds' ρ' σ' x ⟨u,y,z,B⟩=>.stop ⟨rfl,tm',e',ds',x,⟨rfl,u,q.trans y,I.trans z,B⟩,rfl⟩
       rw[hdr]at this
       exact GoesH.mono this fun _ _ _ _ h=>.inl h
      exact(Reach.of_wp (G:=goT C j) (o:=st.m.outs) hwp:Reach (goT C j) b n _ st.m.outs e ds ρ σ _ st.m.outs _)
     ·exact(Dz h').elim
    ·exact(Dz h).elim
end
end
section
open Go Go.Conc
theorem Aac{P:Program}{main:Bool}{b:FB}{tm:Array Value}{ds:List Deferred}{f:Operand}{ps:Array Tmp}{assign body:Code}{k:List Item}{cs:List Frame}{kk:FuncId}{fn:Func}{caps:List Value}{W W':World}{lm:Nat×List Deferred}{es:Array Event}(hk:b.kind ≠ .early)
  (hf:(Fr b tm ds (.code (.rangeFunc f ps assign body)::k)).eval f = .func (.func kk) #[] caps.toArray) (h1:P.funcs[kk]?=some fn) (h2:(fn.name == "runtime.NumGoroutine")=false) (h3:fn.body.isNone=false)
  (hrun:(Instr.enterLoop b.fn tm ps assign body b.round).runT P W #[]=(.ok lm W',es)) :
  ∃es',stepG P main (Conc.G (Fr b tm ds (.code (.rangeFunc f ps assign body)::k)) cs) W = .go (Conc.G (Frame.enter P kk (Value.func (.yield lm.1) #[] #[]::caps).toArray .normal) (Fr b tm (lm.2++ds) (.inRangeFunc lm.1::k)::cs)) W' es'∧∀e∈es',Axo es e:=by
 obtain⟨l,a⟩:=lm
 have i:(b.kind==CallKind.early)=false:=by cases h:b.kind<;>simp_all<;>rfl
 have c:(Fr b tm (a++ds) (.inRangeFunc l::k)).eval f = .func (.func kk) #[] caps.toArray:=by
  rw[←hf];cases f<;>rfl
 have hi:(do let d ←resolve (Fr b tm (a++ds) (.inRangeFunc l::k)).eval {callee:=.value f,args:=#[.const (.func (.yield l) #[] #[])],argTypes:=#[]} 0;invoke d.target d.args:Sem Next).runT P W' #[]=(.ok (.enter kk (Value.func (.yield l) #[] #[]::caps).toArray) W',#[]):=by
  generalize hfr:Fr b tm (a++ds) (.inRangeFunc l::k)=fr at c
  have g:(do let d ←resolve fr.eval {callee:=.value f,args:=#[.const (.func (.yield l) #[] #[])],argTypes:=#[]} 0;invoke d.target d.args:Sem Next)=callFunc kk (Value.func (.yield l) #[] #[]::caps).toArray:=by
   show ((Deferred.ofValue (fr.eval f) ((#[.const (.func (.yield l) #[] #[])]:Array Operand).map fr.eval)).bind _)=_
   rw[c]
   show callFunc kk ((#[]++((#[.const (.func (.yield l) #[] #[])]:Array Operand).map fr.eval))++caps.toArray)=_
   congr 1
   simp[Frame.eval]
  rw[g];exact Vd h1 h2 h3 W' #[]
 refine⟨seen P b.fn es++seen P b.fn #[],?_,fun ev he=>?_⟩
 ·simp only[Fr]at hi
  simp only[Conc.G,stepG,stepG.exec,Fr,hrun,stepG.apply,if_true,hi,i,GStep.after]
  rfl
 ·rcases Array.mem_append.1 he with h|h
  ·exact Lh h
  ·have:=(Lh h).1;simp at this
theorem Anm{P:Program}{ρ:Ro}{l i:Nat}{L:Loop}{Q:Option Code→Own→Prop}{σ:Own}(hi:σ[i]?=some (l,.obj (.loop L)))(hb:(L.state == .busy)=false)(h:Q L.pending (σ.set i (l,.obj (.loop {L with state:=.exhausted})))):wpS P ρ (Instr.endLoop l) σ Q:=by
 show wpS P ρ ((Instr.getLoop l).bind _) _ Q
 rw[Ad]
 show wpS P ρ ((getObj l).bind _) _ _
 rw[Ad]
 refine⟨_,.inr (lZ6 hi),rfl,?_⟩
 show wpS P ρ (if L.state == .busy then _ else _) _ Q
 rw[if_neg (by simp[hb])]
 exact⟨rfl,i,_,hi,rfl,h⟩
section
variable{C:Ctx}{G:GoT C}{F:Fns}{dx:DX}{n:Nat}
/-- From where the range's record has been laid. -/
theorem Ara(hF:FnsOk C F){ps:List Tmp}{as_ body:Code}{g:FuncId}{ys:List CV}{ec:Tr CV}{dk:Nat}{m:Mem}{dsc:List CD}{ex:Ex}{st':St}(h:xRange F n ps as_ body g ys ec dk m dsc=Em ex st') :
  Kept m st'.m∧st'.m.outs=m.outs∧∀(b:FB) (o:List CV) (f:Operand) R e ds ρ σ σ₀ fn caps db dc l tm k cs,b.kind ≠ .early→NoRecv σ₀→EnvOf n tm e→EnvR R ec e→MemX R m ρ σ σ₀→DsR R dsc ds→R dk=some (db,dc)→VR R ys caps →
   C.P.funcs[g]?=some fn→(fn.name == "runtime.NumGoroutine")=false→fn.body.isNone=false →
   (∀tm' e' ds' ρ' σ' todo,EnvOf n tm' e'→(∃R',XR.le R R'∧Ro.le ρ ρ'∧Sim R' st' e' ds' ρ' σ' σ₀)→Pl ex k todo→G.Go o (Fr b tm' ds' todo) cs ρ' σ') →
   G.Go o (Frame.enter C.P g (Value.func (.yield l) #[] #[]::caps).toArray .normal) (Fr b tm ds (.inRangeFunc l::k)::cs) ρ ((l,Res.obj (.loop {state:=.ready,pending:=none,fn:=b.fn,tmps:=tm,params:=ps.toArray,assign:=as_,body,defers:=db}))::σ):=by
 unfold xRange at h
 split at h
 ·rename_i x m1 hcall
  split at h
  ·rename_i bz pd n' env' ps' as' body' dk' hg1
   split at h
   ·exact(Dz h).elim
   ·rename_i hbz
    obtain⟨B,hcl⟩:=hF.call _ _ _ _ _ hcall
    have D:Kept m m1:=(LogOk.add _ _).kept.trans B
    have fin:∀(q:Option Code),q=pd→Kept m (xRest (m1.put m.nx (.loop 3 q n' env' ps' as' body' dk')) m.outs):=fun q _=>(D.trans (LogOk.put _ _ _).kept).rest
    have main:∀(ex:Ex),Pf ex=pd→st'=⟨ec,xRest (m1.put m.nx (.loop 3 pd n' env' ps' as' body' dk')) m.outs,dsc⟩→Kept m st'.m∧st'.m.outs=m.outs∧∀(b:FB) (o:List CV) (f:Operand) R e ds ρ σ σ₀ fn caps db dc l tm k cs,b.kind ≠ .early→NoRecv σ₀→EnvOf n tm e→EnvR R ec e→MemX R m ρ σ σ₀→DsR R dsc ds→R dk=some (db,dc)→VR R ys caps →
   C.P.funcs[g]?=some fn→(fn.name == "runtime.NumGoroutine")=false→fn.body.isNone=false →
   (∀tm' e' ds' ρ' σ' todo,EnvOf n tm' e'→(∃R',XR.le R R'∧Ro.le ρ ρ'∧Sim R' st' e' ds' ρ' σ' σ₀)→Pl ex k todo→G.Go o (Fr b tm' ds' todo) cs ρ' σ') →
   G.Go o (Frame.enter C.P g (Value.func (.yield l) #[] #[]::caps).toArray .normal) (Fr b tm ds (.inRangeFunc l::k)::cs) ρ ((l,Res.obj (.loop {state:=.ready,pending:=none,fn:=b.fn,tmps:=tm,params:=ps.toArray,assign:=as_,body,defers:=db}))::σ):=by
     intro ex hpd hst
     subst hst
     refine⟨fin pd rfl,rfl,fun b o f R e ds ρ σ σ₀ fn caps db dc l tm k cs hb hn ht he hm hd hdk hv a3 a4 a5 hq=>?_⟩
     obtain⟨L0,G0,d⟩:=hm
     have E:=d.add (b:=l) (c:=0) (r:=.obj (.loop {state:=.ready,pending:=none,fn:=b.fn,tmps:=tm,params:=ps.toArray,assign:=as_,body,defers:=db})) (o:=.loop 0 none n ec ps as_ body dk)
      (.loop rfl rfl ht (he.mono (d.fresh _)) rfl rfl rfl (d.fresh _ _ _ hdk) rfl)
     have a:XR.le R (R.add m.nx (l,0)):=d.fresh _
     have hc:=hcl _ (Value.func (.yield l) #[] #[]::caps) ρ _ σ₀ hn (.y XR.add_same (hv.mono a)) E
     refine G.bind (hc (Fr b tm ds (.inRangeFunc l::k)) cs) ?_
     rintro _ cs' ρ' σ' ⟨v,rfl,hcs,p,i,I,q3,J⟩
     replace hcs:=hcs.symm;subst hcs
     have z:(Fr b tm ds (.inRangeFunc l::k)).finish v=Fr b tm ds (.endRangeFunc l::k):=rfl
     rw[z]
     obtain⟨b1,c1,r1,i1,t,K,M,N⟩:=J.at hg1 (by simp)
     rw[i _ _ XR.add_same]at t;cases t
     obtain⟨w,a2,a0,a1,rfl,O,u,T,U,V,X,Y,Z,v9⟩:=Sn M
     have hob:=N _ _ (ObjR.loop (busy:=3) (L:={w with state:=.exhausted}) rfl u T U V X Y Z v9)
     refine G.bind (Lw (s:=Instr.endLoop l) (f:=fun j=>(Fr b tm ds ((j.map Item.code).toList++k),cs)) (Q:=fun j σ''=>j=pd∧MemX p (m1.put m.nx (.loop 3 pd n' env' ps' as' body' dk')) ρ' σ'' σ₀) (fun W j W' es H=>?_) (Anm K (by
       rw[O]
       have:bz≠1:=fun e=>by subst e;simp at hbz
       match bz,this with
       | 0,_=>rfl
       | 1,h=>exact absurd rfl h
       | 2,_=>rfl
       | _+3,_=>rfl) ⟨u,hob⟩) (S:=fun fr' cs' ρ'' σ''=>ρ''=ρ'∧fr'=Fr b tm ds ((pd.map Item.code).toList++k)∧cs'=cs∧MemX p (m1.put m.nx (.loop 3 pd n' env' ps' as' body' dk')) ρ' σ'' σ₀) (by
       rintro j σ'' ⟨rfl,hx⟩
       exact .stop ⟨rfl,rfl,rfl,hx⟩)) ?_
     ·exact⟨seen C.P b.fn es ++ #[],by simp[Conc.G,stepG,stepG.exec,Fr,-Sem.runT_eq,H,GStep.after],fun ev he=>Lh (by simpa using he)⟩
     ·rintro _ _ ρ'' σ'' ⟨rfl,rfl,rfl,hx⟩
      refine hq tm e ds ρ'' σ'' _ ht ⟨p,a.trans i,I,he.mono (a.trans i),hx.rest,hd.mono (a.trans i)⟩ ?_
      subst hpd
      cases ex with
      | normal=>rfl
      | exit id=>exact⟨[],by simp,rfl⟩
      | ret=>exact⟨[],rfl⟩
    split at h
    ·cases ex with
     | normal=>cases h;exact main .normal rfl rfl
     | exit id=>cases h
     | ret=>cases h
    ·split at h
     ·cases ex with
      | normal=>cases h
      | exit id=>cases h;exact main (.exit _) rfl rfl
      | ret=>cases h
     ·cases ex with
      | normal=>cases h
      | exit id=>cases h
      | ret=>cases h;exact main .ret rfl rfl
     ·exact(Dz h).elim
  ·exact(Dz h).elim
 ·exact(Dz h).elim
end
end
section
open Go Go.Conc
section
variable{C:Ctx}{G:GoT C}{F:Fns}{dx:DX}{n:Nat}
theorem Bfm{b:FB}{c:Code}{o o':List CV}{e:Env}{ds:List Deferred}{ρ ρ0:Ro}{σ σ₀:Own}{ex:Ex}{R R0:XR}{st':St}(hR:XR.le R0 R)(hρ:Ro.le ρ0 ρ)
  (h:Reach G b n c o e ds ρ σ ex o' (fun e' ds' ρ' σ'=>∃R',XR.le R R'∧Ro.le ρ ρ'∧Sim R' st' e' ds' ρ' σ' σ₀)):Reach G b n c o e ds ρ σ ex o' (fun e' ds' ρ' σ'=>∃R',XR.le R0 R'∧Ro.le ρ0 ρ'∧Sim R' st' e' ds' ρ' σ' σ₀) :=
 h.mono fun _ _ _ _ ⟨R',a,d,f⟩=>⟨R',hR.trans a,hρ.trans d,f⟩
theorem Bjs{a b:Code}{rd:Option Nat}{st st1 st':St}{ex:Ex}(ha:Pi G n rd a st .normal st1)(hb:Pi G n rd b st1 ex st'):Pi G n rd (.seq a b) st ex st':=fun fb hfb=>by
 obtain⟨m,i⟩:=ha fb hfb
 obtain⟨c,j⟩:=hb fb hfb
 refine⟨m.trans c,fun hs R e ds ρ σ σ₀ hn hr k=>Bqb ((i (G.less_of c hs) R e ds ρ σ σ₀ hn hr k).mono ?_)⟩
 rintro h g t u ⟨f,d,p,q⟩
 exact Bfm d p (j hs f h g t u σ₀ hn (hr.mono d) q)
/-- Rounds of a loop,behind its start. -/
def Bgm(G:GoT C)(n:Nat)(rd:Option Nat)(c:Code)(st:St)(ex:Ex)(st':St):Prop:=∀b:FB,b.kind ≠ .early→Kept st.m st'.m∧(G.suf st'.m.outs→∀R e ds ρ σ σ₀,NoRecv σ₀→RdOk G R rd b→Sim R st e ds ρ σ σ₀ →
 LoopR G b n c st.m.outs e ds ρ σ ex st'.m.outs (fun e' ds' ρ' σ'=>∃R',XR.le R R'∧Ro.le ρ ρ'∧Sim R' st' e' ds' ρ' σ' σ₀))
theorem Aqo{a:Code}{rd:Option Nat}{f:Fns→Option Nat→St→Go.Proofs.YtjdkajkimeainaaGreatDoor.R}(ih:∀st ex st',f F rd st=Em ex st'→Pi G n rd a st ex st'):∀(k:Nat) (st:St) (ex:Ex) (st':St),xLoopR f F rd k st=Em ex st'→ex ≠ .normal∧Bgm G n rd a st ex st'
 | 0,st,ex,st',h=>(Dz h).elim
 | k+1,st,ex,st',h=>by
  have h':(match f F rd st with | .n st=>xLoopR f F rd k st|y=>y)=Em ex st':=h
  split at h'
  ·rename_i st1 d
   obtain⟨hx,hl⟩:=Aqo ih k st1 ex st' h'
   refine⟨hx,fun b hb=>?_⟩
   obtain⟨i,c⟩:=ih st .normal st1 d b hb
   obtain⟨j,u⟩:=hl b hb
   refine⟨i.trans j,fun hs R e ds ρ σ σ₀ hn hr g=>Azm ((c (G.less_of j hs) R e ds ρ σ σ₀ hn hr g).mono ?_)⟩
   rintro t q B C ⟨p,m,x,z⟩
   exact(u hs p t q B C σ₀ hn (hr.mono m) z).mono fun _ _ _ _ ⟨R',d,v,w⟩=>⟨R',m.trans d,x.trans v,w⟩
  ·rename_i hne
   have hx:ex ≠ .normal:=fun e=>by subst e;exact hne _ h'
   refine⟨hx,fun b hb=>?_⟩
   obtain⟨i,c⟩:=ih st ex st' h' b hb
   exact⟨i,fun hs R e ds ρ σ σ₀ hn hr g=>Bdz hx (c hs R e ds ρ σ σ₀ hn hr g)⟩
theorem Agn{P:Program}{ρ:Ro}{σ:Own}{fn:FuncId}{tm:Array Value}{ps:Array Tmp}{assign body:Code}{lb i:Nat}{L:Loop}{Q:Nat×List Deferred→Own→Prop}(hi:σ[i]?=some (lb,.obj (.loop L)))
  (h:∀l,Q (l,[]) ((l,.obj (.loop {state:=.ready,pending:=none,fn,tmps:=tm,params:=ps,assign,body,defers:=L.defers}))::σ)) :
  wpS P ρ (Instr.enterLoop fn tm ps assign body (some lb)) σ Q:=by
 show wpS P ρ ((Instr.getLoop lb).bind _) σ Q
 rw[Ad]
 show wpS P ρ ((getObj lb).bind _) σ _
 rw[Ad]
 refine⟨_,.inr (lZ6 hi),rfl,?_⟩
 show wpS P ρ ((newObj (.loop {state:=.ready,pending:=none,fn,tmps:=tm,params:=ps,assign,body,defers:=L.defers})).bind _) _ Q
 rw[Ad]
 exact .inl ⟨rfl,fun l=>h l⟩
theorem Bai(hF:FnsOk C F){f:Operand}{ps:Array Tmp}{as_ body:Code}{rd:Option Nat}{st st':St}{ex:Ex}{g:FuncId}{ys:List CV}(hf:(rdK f).run st.e = .f g [] ys)(hb:xHasBody C.P g=true)
    (h : (match rd with
          | some l=>match st.m.M.get l with|some (.own (.loop _ _ _ _ _ _ _ dk))=>xRange F n ps.toList as_ body g ys st.e dk st.m st.ds|_=>.bad
          | none=>xRange F n ps.toList as_ body g ys st.e st.m.nx (st.m.add .defd) (.mark st.m.nx::st.ds))=Em ex st'):Pi G n rd (.rangeFunc f ps as_ body) st ex st':=by
  intro b hbk
  obtain⟨fn,j,p,q⟩:=Qp hb
  cases rd with
  | none =>
    obtain⟨w,x,y⟩:=Ara (G:=G) hF h
    refine⟨(LogOk.add _ _).kept.trans w,fun hs R e ds ρ σ σ₀ hn hr a tm k cs ht hq=>?_⟩
    have hr':b.round=none:=hr.2
    have hv:=Cj a.env a.mem.globR f
    rw[hf]at hv
    obtain⟨xs',d,z,B,v⟩:=Bge hv
    cases z
    have hev:(Fr b tm ds (.code (.rangeFunc f ps as_ body)::k)).eval f = .func (.func g) #[] d.toArray:=by rw[ht.eval];exact v
    refine G.bind (Lw (s:=Instr.enterLoop b.fn tm ps as_ body b.round) (f:=fun lm=>(Frame.enter C.P g (Value.func (.yield lm.1) #[] #[]::d).toArray .normal,Fr b tm (lm.2++ds) (.inRangeFunc lm.1::k)::cs))
      (Q:=fun lm σ'=>∃r,lm.2=[{target:=.collected r,args:=#[]}]∧σ'=(lm.1,Res.obj (.loop {state:=.ready,pending:=none,fn:=b.fn,tmps:=tm,params:=ps,assign:=as_,body,defers:=r}))::(r,.obj (.deferred (some [])))::σ)
      (fun W lm W' es u=>Aac hbk hev j p q u) (by rw[hr'];exact Vj fun r l=>⟨r,rfl,rfl⟩)
      (S:=fun fr' cs' ρ' σ'=>ρ'=ρ∧∃l r,fr'=Frame.enter C.P g (Value.func (.yield l) #[] #[]::d).toArray .normal∧cs'=Fr b tm ({target:=.collected r,args:=#[]}::ds) (.inRangeFunc l::k)::cs∧σ'=(l,Res.obj (.loop {state:=.ready,pending:=none,fn:=b.fn,tmps:=tm,params:=ps,assign:=as_,body,defers:=r}))::(r,.obj (.deferred (some [])))::σ)
      (by
        rintro⟨l,mk⟩ σ' ⟨r,i,rfl⟩
        simp only at i;subst i
        exact .stop ⟨rfl,l,r,rfl,rfl,rfl⟩)) ?_
    rintro _ _ Z _ ⟨hρ,l,r,rfl,rfl,rfl⟩
    replace hρ:=hρ.symm;subst hρ
    obtain⟨L0,G0,D⟩:=a.mem
    have hle:=D.fresh (r,0)
    have O:=D.add (b:=r) (c:=0) (o:=.defd) (r:=.obj (.deferred (some []))) .defd
    have:=y b st'.m.outs f _ e ({target:=.collected r,args:=#[]}::ds) ρ _ σ₀ fn d r 0 l tm k cs hbk hn ht (a.env.mono hle) O (.mark XR.add_same (a.ds.mono hle)) XR.add_same (B.mono hle) j p q
      (fun tm' e' ds' ρ' σ' T I ⟨R',J,K,L⟩ N=>hq tm' e' ds' ρ' σ' T I ⟨R',hle.trans J,K,L⟩ N)
    rw[x]at this
    exact this
  | some l0 =>
    simp only at h
    split at h
    · rename_i bz pd n0 env0 ps0 as0 body0 dk hg0
      obtain⟨w,x,y⟩:=Ara (G:=G) hF h
      refine⟨w,fun hs R e ds ρ σ σ₀ hn hr a tm k cs ht hq=>?_⟩
      obtain⟨_,lb,lc,hr',hRl⟩:=hr
      have hv:=Cj a.env a.mem.globR f
      rw[hf]at hv
      obtain⟨xs',d,z,B,v⟩:=Bge hv
      cases z
      have hev:(Fr b tm ds (.code (.rangeFunc f ps as_ body)::k)).eval f = .func (.func g) #[] d.toArray:=by rw[ht.eval];exact v
      obtain⟨b1,c1,r1,i1,E,U,V,u4⟩:=a.mem.at hg0 (by simp)
      rw[hRl]at E;cases E
      obtain⟨t,a1,a0,H,rfl,v1,v2,v3,v4,v5,v6,v7,X,Y⟩:=Sn V
      refine G.bind (Lw (s:=Instr.enterLoop b.fn tm ps as_ body b.round) (f:=fun lm=>(Frame.enter C.P g (Value.func (.yield lm.1) #[] #[]::d).toArray .normal,Fr b tm (lm.2++ds) (.inRangeFunc lm.1::k)::cs))
        (Q:=fun lm σ'=>lm.2=[]∧σ'=(lm.1,Res.obj (.loop {state:=.ready,pending:=none,fn:=b.fn,tmps:=tm,params:=ps,assign:=as_,body,defers:=t.defers}))::σ)
        (fun W lm W' es u=>Aac hbk hev j p q u) (by rw[hr'];exact Agn U fun l=>⟨rfl,rfl⟩)
        (S:=fun fr' cs' ρ' σ'=>ρ'=ρ∧∃l,fr'=Frame.enter C.P g (Value.func (.yield l) #[] #[]::d).toArray .normal∧cs'=Fr b tm ds (.inRangeFunc l::k)::cs∧σ'=(l,Res.obj (.loop {state:=.ready,pending:=none,fn:=b.fn,tmps:=tm,params:=ps,assign:=as_,body,defers:=t.defers}))::σ)
        (by
          rintro⟨l,mk⟩ σ' ⟨i,rfl⟩
          simp only at i;subst i
          exact .stop ⟨rfl,l,rfl,rfl,rfl⟩)) ?_
      rintro _ _ Z _ ⟨hρ,l,rfl,rfl,rfl⟩
      replace hρ:=hρ.symm;subst hρ
      have:=y b st'.m.outs f R e ds ρ σ σ₀ fn d t.defers H l tm k cs hbk hn ht a.env a.mem a.ds (by rw[Y];exact X) B j p q hq
      rw[x]at this
      exact this
    · exact(Dz h).elim
/-- CODE: what the run shows. -/
theorem Tl(hF:FnsOk C F)(hx:Uu G F dx)(hgl:dx.gl=true→(∃S,G=goT C S)∧∀S,Uu (goT C S) F dx)(c:Code):∀{rd:Option Nat} {st:St} {ex:Ex} {st':St},(codeK C.P dx n c).run F rd st=Em ex st'→Pi G n rd c st ex st':=by
 induction c with
 | skip =>
  intro rd st ex st' h b hb
  cases ex with
  | normal=>cases h;exact⟨.refl _,fun _ R e ds ρ σ σ₀ _ _ hs=>Bnu ⟨R,.refl,.refl,hs⟩⟩
  | exit id=>cases h
  | ret=>cases h
 | region id ops draw =>
  intro rd st ex st' h
  have h':(regK C.P dx n ops.toList draw).run F rd st=Em ex st':=h
  have:=Boe (id:=id) hF hx hgl h'
  rw[Ww]at this
  exact this
 | seq a b iha ihb =>
  intro rd st ex st' h
  have h':(match (codeK C.P dx n a).run F rd st with | .n st=>(codeK C.P dx n b).run F rd st|y=>y)=Em ex st':=h
  split at h'
  ·rename_i st1 h1
   exact Bjs (iha (ex:=.normal) h1) (ihb h')
  ·rename_i hne
   have hex:ex ≠ .normal:=fun e=>by subst e;exact hne _ h'
   intro fb hfb
   obtain⟨k,i⟩:=iha h' fb hfb
   exact⟨k,fun hs R e ds ρ σ σ₀ hn hr d=>Bnt hex (i hs R e ds ρ σ σ₀ hn hr d)⟩
 | cond q a b iha ihb =>
  intro rd st ex st' h
  have h':(match (rdK q).run st.e with | .b true=>(codeK C.P dx n a).run F rd st | .b false=>(codeK C.P dx n b).run F rd st|_=>.bad)=Em ex st':=h
  intro fb hfb
  split at h'
  ·rename_i hq
   obtain⟨k,i⟩:=iha h' fb hfb
   refine⟨k,fun hs R e ds ρ σ σ₀ hn hr d=>?_⟩
   have hv:=Cj d.env d.mem.globR q
   rw[hq]at hv
   exact Bfk (Agc hv) (fun _=>i hs R e ds ρ σ σ₀ hn hr d) (fun h=>by cases h)
  ·rename_i hq
   obtain⟨k,i⟩:=ihb h' fb hfb
   refine⟨k,fun hs R e ds ρ σ σ₀ hn hr d=>?_⟩
   have hv:=Cj d.env d.mem.globR q
   rw[hq]at hv
   exact Bfk (Agc hv) (fun h=>by cases h) (fun _=>i hs R e ds ρ σ σ₀ hn hr d)
  ·exact(Dz h').elim
 | block id a iha =>
  intro rd st ex st' h
  have h':(match (codeK C.P dx n a).run F rd st with | .x j st=>(match Nat.beq j id with|true=>.n st|false=>.x j st)|y=>y)=Em ex st':=h
  intro fb hfb
  split at h'
  ·rename_i j st1 h1
   split at h'
   ·rename_i hj
    have hj:=lZ7 hj
    subst hj
    cases ex with
    | normal =>
     cases h'
     obtain⟨k,i⟩:=iha (ex:=.exit j) h1 fb hfb
     exact⟨k,fun hs R e ds ρ σ σ₀ hn hr d=>Bfh (i hs R e ds ρ σ σ₀ hn hr d)⟩
    | exit id=>cases h'
    | ret=>cases h'
   ·rename_i hj
    have hj':j≠id:=fun e=>by subst e;simp at hj
    cases ex with
    | normal=>cases h'
    | exit id' =>
     cases h'
     obtain⟨k,i⟩:=iha (ex:=.exit j) h1 fb hfb
     exact⟨k,fun hs R e ds ρ σ σ₀ hn hr d=>Bfj hj' (i hs R e ds ρ σ σ₀ hn hr d)⟩
    | ret=>cases h'
  ·rename_i hne
   cases ex with
   | normal =>
    obtain⟨k,i⟩:=iha (ex:=.normal) h' fb hfb
    exact⟨k,fun hs R e ds ρ σ σ₀ hn hr d=>Bjj (i hs R e ds ρ σ σ₀ hn hr d)⟩
   | exit id'=>exact absurd h' (hne _ _)
   | ret =>
    obtain⟨k,i⟩:=iha (ex:=.ret) h' fb hfb
    exact⟨k,fun hs R e ds ρ σ σ₀ hn hr d=>Bfi (i hs R e ds ρ σ σ₀ hn hr d)⟩
 | loop a iha =>
  intro rd st ex st' h fb hfb
  have h':xLoopR (codeK C.P dx n a).run F rd 1000000 st=Em ex st':=h
  obtain⟨_,hl⟩:=Aqo (fun st ex st' h=>iha h) _ _ _ _ h'
  obtain⟨k,i⟩:=hl fb hfb
  exact⟨k,fun hs R e ds ρ σ σ₀ hn hr d=>Bns (i hs R e ds ρ σ σ₀ hn hr d)⟩
 | label l =>
  intro rd st ex st' h b hb
  cases ex with
  | normal=>cases h;exact⟨.refl _,fun _ R e ds ρ σ σ₀ _ _ hs=>Bjk ⟨R,.refl,.refl,hs⟩⟩
  | exit id=>cases h
  | ret=>cases h
 | scope a iha =>
  intro rd st ex st' h fb hfb
  have h':(codeK C.P dx n a).run F rd st=Em ex st':=h
  obtain⟨k,i⟩:=iha h' fb hfb
  exact⟨k,fun hs R e ds ρ σ σ₀ hn hr d=>Bjl (i hs R e ds ρ σ σ₀ hn hr d)⟩
 | exit id =>
  intro rd st ex st' h b hb
  cases ex with
  | normal=>cases h
  | exit id=>cases h;exact⟨.refl _,fun _ R e ds ρ σ σ₀ _ _ hs=>Bnr ⟨R,.refl,.refl,hs⟩⟩
  | ret=>cases h
 | ret =>
  intro rd st ex st' h b hb
  cases ex with
  | normal=>cases h
  | exit id=>cases h
  | ret=>cases h;exact⟨.refl _,fun _ R e ds ρ σ σ₀ _ _ hs=>Bqa ⟨R,.refl,.refl,hs⟩⟩
 | rangeFunc f ps as_ body _ _ =>
  intro rd st ex st' h
  unfold codeK at h
  split at h
  ·rename_i f1 hf1 hlt
   have hrd:(rdK f).run=f1:=by rw[hf1]
   simp only at h
   split at h
   ·rename_i g ys hfv
    split at h
    ·rename_i hbd
     exact Bai hF (by rw[hrd];exact hfv) hbd h
    ·exact(Dz h).elim
   ·exact(Dz h).elim
  ·exact(Dz h).elim
 | _=>intro rd st ex st' h;exact(Dz h).elim
end
end
section
open Go Go.Conc
section
variable{R:XR}{m:Mem}{ρ:Ro}{σ σ₀:Own}{L:List (Nat×Nat×Res)}{G:Own}
/-- It is forgotten,with another content. -/
theorem MemR.kill2(h:MemR R m ρ σ σ₀ L G){k b i:Nat}{o o':Obj}(hL:(k,b,Res.obj o)∈L)(hi:σ[i]?=some (b,.obj o)):MemX R (m.put k .dead) ρ (σ.set i (b,.obj o')) σ₀:=by
 obtain⟨A,B,rfl⟩:=Ny hL
 have nd:=h.nd
 simp only[Ir,Hd]at nd
 have hAB:∀p∈A++B,p.1≠k:=fun p hp e=>by
  rw[Aav]at nd
  obtain⟨y,u,v⟩:=nd
  rcases Fb.1 hp with hp|hp
  ·exact v p.1 (Ml (f:=Prod.fst) hp) k mC e
  ·exact(Ol.1 u).1 (e ▸ Ml (f:=Prod.fst) hp)
 have dim:∀{p},p∈A++B→p∈A++(k,b,Res.obj o)::B:=fun {p} hp=>(Fb.1 hp).elim (Lb _) fun hp=>Ix _ (lZ0 _ hp)
 refine⟨A++B,(b,.obj o')::G,?_,?_,fun p hp=>?_,fun j oj hj hd=>?_,fun j oj hj=>?_,fun p hp=>?_,h.lt,h.glob⟩
 ·have c:=h.perm
  simp only[Ir,Hd,lZ9,Nu]at c ⊢
  have w:=Afm (x':=(b,.obj o')) (c.trans Att) hi
  refine w.trans ?_
  have x:=(Att (a:=(b,Res.obj o')) (l₁:=A.map Prod.snd++B.map Prod.snd) (l₂:=G++σ₀)).symm
  simpa[lZ9]using x
 ·rw[Ir]
  have:(A.map Prod.fst++B.map Prod.fst).Sublist (A.map Prod.fst++k::B.map Prod.fst):=List.Sublist.append_left (Bdp ..) _
  exact this.nodup nd
 ·obtain⟨d,o1,g,n,t⟩:=h.own p (dim hp)
  exact⟨d,o1,g,by rw[Ic,if_neg (hAB p hp)];exact n,t⟩
 ·rw[Ic]at hj
  by_cases hjk:j=k
  ·rw[if_pos hjk]at hj;cases hj;exact absurd rfl hd
  ·rw[if_neg hjk]at hj
   obtain⟨q,hq⟩:=h.all j oj hj hd
   rcases Fb.1 hq with hq|hq
   ·exact⟨q,Lb _ hq⟩
   ·rcases lZ8.1 hq with e|hq
    ·exact absurd (Prod.mk.inj e).1 hjk
    ·exact⟨q,Ix _ hq⟩
 ·rw[Ic]at hj
  by_cases hjk:j=k
  ·rw[if_pos hjk]at hj;cases hj
  ·rw[if_neg hjk]at hj;exact h.ro j oj hj
 ·rcases lZ8.1 hp with rfl|hp
  ·exact⟨o',rfl⟩
  ·exact h.gar p hp
theorem Ask:∀(args:List CV) (i:Nat) (e:Tr CV) (t:Nat) (v:CV),(xArgEnv args i e).get t=some v→e.get t=some v∨(i≤t∧args[t-i]?=some v)
 | [],i,e,t,v,h=>.inl h
 | a::args,i,e,t,v,h=>by
  rcases Ask args (i+1) (e.set i a) t v h with h1|⟨h1,h2⟩
  ·rw[Tr.get_set]at h1
   by_cases ht:t=i
   ·rw[if_pos ht]at h1
    refine .inr ⟨by omega,?_⟩
    subst ht
    rw[Aek]
    exact h1
   ·rw[if_neg ht]at h1
    exact .inl h1
  ·refine .inr ⟨by omega,?_⟩
   have:t-i=(t-(i+1))+1:=by omega
   rw[this,Sl]
   exact h2
theorem Bdr{α:Type}(t:Nat):(Tr.leaf:Tr α).get t=none:=rfl
theorem We{args:List CV}{args':List Value}(h:VR R args args'):EnvR R (xArgEnv args 0 .leaf) (Pn args'):=fun t v ht=>by
 rcases Ask args 0 .leaf t v ht with h1|⟨_,h2⟩
 ·rw[Bdr]at h1;cases h1
 ·obtain⟨v',a,b⟩:=h.at h2
  unfold Pn
  have:args'[t]?=some v':=a
  rw[Uk,this]
  exact b
theorem Anb{P:Program}{ec:Tr CV}{e:Env}(he:EnvR R ec e)(hm:MemX R m ρ σ σ₀):∀(l:List ResultVar) (r:List CV),(resK P l).run ec m=some r→∃vs,VR R r vs∧Agf P ρ σ e l vs
 | [],r,h=>by
  cases h
  exact⟨[],.nil,trivial⟩
 | .tmp t::l,r,h=>by
  have h':(match (resK P l).run ec m with|some r=>some ((match ec.get t with|some v=>v|none=>.bad)::r)|none=>none)=some r:=h
  split at h'
  ·rename_i r1 f
   cases h'
   obtain⟨vs,b,d⟩:=Anb he hm l r1 f
   exact⟨e t::vs,VR.cons_iff.2 ⟨Cj he hm.globR (.tmp t),b⟩,rfl,d⟩
  ·cases h'
 | .cell a t::l,r,h=>by
  have h':(match ec.get a with
   | some (.p k off)=>match m.row k with
    | some c=>match (partK P t).run (xDrp off c),(resK P l).run ec m with|some v,some r=>some (v::r)|_,_=>none
    | none=>none
   | _=>none)=some r:=h
  split at h'
  ·rename_i k off hg
   split at h'
   ·rename_i c hc
    split at h'
    ·rename_i v r1 hv hr1
     cases h'
     obtain⟨vs,b,d⟩:=Anb he hm l r1 hr1
     have n:(opK P (.load t (.tmp a))).run ec m = .rd v k:=by
      show loadM P t ((rdK (.tmp a)).run ec) m=_
      have:(rdK (.tmp a)).run ec = .p k off:=by
       show (match ec.get a with|some v=>v|none=>.bad)=_
       rw[hg]
      rw[this]
      simp only[loadM,hc,hv]
     obtain⟨w,hw,hwp⟩:=Aub _ R ec e m v k he hm.globR n R m ρ σ σ₀ hm rfl rfl
     refine⟨w::vs,VR.cons_iff.2 ⟨hw,b⟩,fun Q hQ=>?_,d⟩
     have f:=hwp none 0 "" #[] none
     have g:wpS P ρ ((Instr.loadAt t (e a)).bind fun v=>Sem.pure (Next.value v)) σ (fun nx σ'=>nx = .value w∧σ'=σ):=f
     rw[Ad]at g
     obtain⟨bb,cc,_,hav⟩:=Aru (he a _ hg)
     show wpS P ρ (do loadVar t (←asAddr (e a))) σ Q
     rw[hav]at g ⊢
     have i:wpS P ρ (loadVar t ⟨bb,off,none⟩) σ (fun a σ'=>Next.value a = .value w∧σ'=σ):=g
     show wpS P ρ (loadVar t ⟨bb,off,none⟩) σ Q
     refine Eu ?_ _ _ i
     rintro w' σ' ⟨i,j⟩
     cases i
     rw[j];exact hQ
    ·cases h'
   ·cases h'
  ·cases h'
theorem Aoq{l:List CD}{m m2:Mem}(h:xDefersR l m=some m2):Kept m m2:=by
 induction l generalizing m with
 | nil=>cases h;exact .refl _
 | cons d l ih =>
  cases d with
  | mark k =>
   have h':(match m.M.get k with|some (.own .defd)=>xDefersR l (m.put k .dead)|_=>none)=some m2:=h
   split at h'
   ·exact(LogOk.put _ _ _).kept.trans (ih h')
   ·cases h'
  | close k=>cases h
theorem Adn{C:Ctx}{fn:Func}{e:Env}{K:Value→Ro→Own→Prop}{l:List CD}{m m2:Mem}{ds:List Deferred}{σ:Own}(h:xDefersR l m=some m2)(hd:DsR R l ds)(hm:MemX R m ρ σ σ₀)
  (hk:∀σ',MemX R m2 ρ σ' σ₀→wpS C.P ρ (Hp fn e) σ' (fun v σ''=>K v ρ σ'')):Aki C fn K e ρ ds σ:=by
 induction hd generalizing m σ with
 | nil=>cases h;exact hk σ hm
 | @mark k b c l ds hR hd ih =>
  have h':(match m.M.get k with|some (.own .defd)=>xDefersR l (m.put k .dead)|_=>none)=some m2:=h
  split at h'
  ·rename_i hg
   obtain⟨L,G,hm'⟩:=hm
   obtain⟨j,n,p,f,a,d,g,i⟩:=hm'.at hg (by simp)
   rw[hR]at a;cases a
   cases g
   exact⟨b,f,rfl,d,ih h' (hm'.kill2 i d)⟩
  ·cases h'
 | close hR hd ih=>cases h
end
section
variable{C:Ctx}{F:Fns}
theorem Bci{P:Program}{g:Nat}{args:List CV}{m m':Mem}{x:CV}(h:(funK P g).run F args m = .v x m'):∃fn c ex st,P.funcs[g]?=some fn∧fn.body=some c∧args.length≤fn.ntmps∧(codeK P doX fn.ntmps c).run F none ⟨xArgEnv args 0 .leaf,m,[]⟩=Em ex st∧(∀id,ex ≠ .exit id)∧xFin (resK P fn.results.toList).run st = .v x m':=by
 unfold funK at h
 split at h
 ·rename_i fn hf
  split at h
  ·rename_i c hc
   have h':(match Nat.ble (xLen args) fn.ntmps with
    | true=>match (codeK P doX fn.ntmps c).run F none ⟨xArgEnv args 0 .leaf,m,[]⟩ with
     | .n st=>xFin (resK P fn.results.toList).run st
     | .r st=>xFin (resK P fn.results.toList).run st
     | _=>.bad
    | false=>RV.bad) = .v x m':=h
   split at h'
   ·rename_i hb
    have a:=lZ5 hb
    rw[Fv]at a
    split at h'
    ·rename_i st hst;exact⟨fn,c,.normal,st,hf,hc,a,hst,by simp,h'⟩
    ·rename_i st hst;exact⟨fn,c,.ret,st,hf,hc,a,hst,by simp,h'⟩
    ·cases h'
   ·cases h'
  ·cases h
 ·cases h
theorem Bcj(hF:FnsOk C F)(hx:∀S,Uu (goT C S) F doX){g:Nat}{args:List CV}{m m':Mem}{x:CV}(h:(funK C.P g).run F args m = .v x m'):Kept m m'∧∀R args' ρ σ σ₀,NoRecv σ₀→VR R args args'→MemX R m ρ σ σ₀ →
  CallsH C g args'.toArray ρ σ (fun v ρ' σ'=>∃R',XR.le R R'∧Ro.le ρ ρ'∧V1 R' x v∧MemX R' m' ρ' σ' σ₀):=by
 obtain⟨fn,c,ex,st,hf,hc,p,u,hex,a⟩:=Bci h
 have b:∀S,Pi (goT C S) fn.ntmps none c ⟨xArgEnv args 0 .leaf,m,[]⟩ ex st:=fun S=>Tl hF (hx S) (fun _=>⟨⟨S,rfl⟩,hx⟩) c u
 unfold xFin at a
 split at a
 ·rename_i m2 hd
  have k:=(b (fun _ _ _ _=>True) ⟨g,.normal,none⟩ (by simp)).1
  have n:=Aoq hd
  have key:∀r,(resK C.P fn.results.toList).run st.e m2=some r→(∀R vs,VR R r vs→V1 R x (Adi vs))→m2=m'→Kept m m'∧∀R args' ρ σ σ₀,NoRecv σ₀→VR R args args'→MemX R m ρ σ σ₀ →
    CallsH C g args'.toArray ρ σ (fun v ρ' σ'=>∃R',XR.le R R'∧Ro.le ρ ρ'∧V1 R' x v∧MemX R' m' ρ' σ' σ₀):=by
   intro r hr hxv q
   subst q
   refine⟨k.trans n,fun R args' ρ σ σ₀ hn hv hm=>?_⟩
   refine Oy hf hc rfl (by rw[←hv.len];exact p) ?_
   refine Adw (Reach.wp (S:=fun _ _ _ _=>True) (o:=m.outs) (o':=st.m.outs) (ex:=ex) (Q:=fun ex' e' ds' ρ' σ'=>ex'=ex∧∃R',XR.le R R'∧Ro.le ρ ρ'∧Sim R' st e' ds' ρ' σ' σ₀) fun S =>
    ((b S ⟨g,.normal,none⟩ (by simp)).2 trivial R (Pn args') [] ρ σ σ₀ hn ⟨trivial,rfl⟩ ⟨We hv,hm,.nil⟩).mono fun e ds ρ σ h=>⟨rfl,h⟩) ?_
   rintro ex' e' ds' ρ' σ' ⟨rfl,R',z,B,hs⟩
   refine⟨hex,Adn hd hs.ds hs.mem fun σ'' d=>?_⟩
   obtain⟨vs,i,j⟩:=Anb (P:=C.P) hs.env d _ r hr
   exact Vf (rs:=fn.results.toList) (by simp) j ⟨R',z,B,hxv R' vs i,d⟩
  split at a
  ·rename_i v hr
   cases a
   refine key _ hr (fun R vs hvs=>?_) rfl
   match vs,hvs with
   | [],hvs=>cases hvs
   | [w],hvs=>exact hvs
   | w::w'::vs,hvs=>exact absurd hvs.len (by simp)
  ·rename_i l hne hr
   cases a
   refine key _ hr (fun R vs hvs=>?_) rfl
   have f:Adi vs = .tuple vs.toArray:=by
    unfold Adi
    split
    ·rename_i v
     exfalso
     have:=hvs.len
     match l,this,hne with
     | [y],_,hne=>exact hne y rfl
    ·rfl
   rw[f]
   exact .t hvs .nil
  ·cases a
 ·cases a
end
end
section
open Go Go.Conc
def Aoc:Option Cell→Option CO
 | some (.own o)=>some o
 | some (.ro o)=>some o
 | none=>none
theorem Awq(m:Mem)(k:Nat):m.obj k=Aoc (m.M.get k):=by
 unfold Mem.obj Aoc
 cases m.M.get k with
 | none=>rfl
 | some c=>cases c<;>rfl
theorem Vs{t:Tr Cell}{k:Nat}{o:CO}(h:t.get k=some (.own o))(j:Nat):Aoc ((t.set k (.ro o)).get j)=Aoc (t.get j):=by
 rw[Tr.get_set]
 by_cases hj:j=k
 ·subst hj;rw[if_pos rfl,h];rfl
 ·rw[if_neg hj]
theorem Ob:∀(n:Nat) (l:List Nat) (t:Tr Cell) (j:Nat),Aoc ((xShare n l t).get j)=Aoc (t.get j)
 | 0,l,t,j=>rfl
 | n+1,[],t,j=>rfl
 | n+1,k::l,t,j=>by
  have e:xShare (n+1) (k::l) t=(match t.get k with
   | some (.own (.cells c))=>xShare n (xApp (xKeysL c) l) (t.set k (.ro (.cells c)))
   | some (.own (.grow z c))=>xShare n (xApp (xKeysL c) l) (t.set k (.ro (.grow z c)))
   | some (.own (.map es))=>xShare n (xApp (xKeysO (.map es)) l) (t.set k (.ro (.map es)))
   | _=>xShare n l t):=rfl
  rw[e]
  split
  ·rename_i c hk;rw[Ob,Vs hk]
  ·rename_i z c hk;rw[Ob,Vs hk]
  ·rename_i es hk;rw[Ob,Vs hk]
  ·exact Ob n l t j
theorem Ua:∀(n:Nat) (l:List Nat) (t:Tr Cell) (j:Nat) (o:CO),(xShare n l t).get j=some (.own o)→t.get j=some (.own o)
 | 0,l,t,j,o,h=>h
 | n+1,[],t,j,o,h=>h
 | n+1,k::l,t,j,o,h=>by
  have e:xShare (n+1) (k::l) t=(match t.get k with
   | some (.own (.cells c))=>xShare n (xApp (xKeysL c) l) (t.set k (.ro (.cells c)))
   | some (.own (.grow z c))=>xShare n (xApp (xKeysL c) l) (t.set k (.ro (.grow z c)))
   | some (.own (.map es))=>xShare n (xApp (xKeysO (.map es)) l) (t.set k (.ro (.map es)))
   | _=>xShare n l t):=rfl
  rw[e]at h
  have step:∀{l':List Nat} {o':CO},(xShare n l' (t.set k (.ro o'))).get j=some (.own o)→t.get j=some (.own o):=fun {l' o'} h=>by
   have:=Ua n _ _ j o h
   rw[Tr.get_set]at this
   by_cases hj:j=k
   ·rw[if_pos hj]at this;cases this
   ·rw[if_neg hj]at this;exact this
  split at h
  ·exact step h
  ·exact step h
  ·exact step h
  ·exact Ua n l t j o h
section
variable{R:XR}{m:Mem}{ρ:Ro}{σ σ₀:Own}
def Mem.withM(m:Mem)(t:Tr Cell):Mem:=⟨t,m.nx,m.log,m.ln,m.outs⟩
/-- One block is shared. -/
theorem Anh{C:Ctx}{S:Cy}{fr:Frame}{cs:List Frame}{k:Nat}{o:CO}(hm:MemX R m ρ σ σ₀)(hk:m.M.get k=some (.own o))(ho:∀c r,ObjR R c o r→∃ob,r = .obj ob)(hd:o ≠ .dead)
  (h:∀ρ' σ',Ro.le ρ ρ'→(∀p∈σ',p∈σ)→MemX R (m.withM (m.M.set k (.ro o))) ρ' σ' σ₀→GoesH C S fr cs ρ' σ'):GoesH C S fr cs ρ σ:=by
 obtain⟨L,G,hm⟩:=hm
 obtain⟨b,c,r,i,x,F,t,y⟩:=hm.at hk hd
 obtain⟨ob,rfl⟩:=ho c r t
 obtain⟨A,B,rfl⟩:=Ny y
 have nd:=hm.nd
 simp only[Ir,Hd]at nd
 have hAB:∀p∈A++B,p.1≠k:=fun p hp e=>by
  rw[Aav]at nd
  obtain⟨H,z,D⟩:=nd
  rcases Fb.1 hp with hp|hp
  ·exact D p.1 (Ml (f:=Prod.fst) hp) k mC e
  ·exact(Ol.1 z).1 (e ▸ Ml (f:=Prod.fst) hp)
 have dim:∀{p},p∈A++B→p∈A++(k,b,Res.obj ob)::B:=fun {p} hp=>(Fb.1 hp).elim (Lb _) fun hp=>Ix _ (lZ0 _ hp)
 have u:=hm.perm
 have v:σ.Perm ((b,Res.obj ob)::((A++B).map Prod.snd++(G++σ₀))):=by
  simp only[Ir,Hd,lZ9,Nu]at u ⊢
  exact u.trans Att
 refine .ghost (Ghost.perm v) (Rv fun ρ' hle hb=>h ρ' _ hle (fun p hp=>v.mem_iff.2 (lZ0 _ hp)) ?_)
 have gt:∀j,(m.withM (m.M.set k (.ro o))).M.get j=if j=k then some (.ro o) else m.M.get j:=fun j=>Tr.get_set ..
 refine⟨A++B,G,.refl _,?_,fun p hp=>?_,fun j oj hj hdj=>?_,fun j oj hj=>?_,hm.gar,hm.lt,hm.glob⟩
 ·rw[Ir]
  have:(A.map Prod.fst++B.map Prod.fst).Sublist (A.map Prod.fst++k::B.map Prod.fst):=List.Sublist.append_left (Bdp ..) _
  exact this.nodup nd
 ·obtain⟨a,o1,d,g,n⟩:=hm.own p (dim hp)
  exact⟨a,o1,d,by rw[gt,if_neg (hAB p hp)];exact g,n⟩
 ·rw[gt]at hj
  by_cases hjk:j=k
  ·rw[if_pos hjk]at hj;cases hj
  ·rw[if_neg hjk]at hj
   obtain⟨q,hq⟩:=hm.all j oj hj hdj
   rcases Fb.1 hq with hq|hq
   ·exact⟨q,Lb _ hq⟩
   ·rcases lZ8.1 hq with e|hq
    ·exact absurd (Prod.mk.inj e).1 hjk
    ·exact⟨q,Ix _ hq⟩
 ·rw[gt]at hj
  by_cases hjk:j=k
  ·rw[if_pos hjk]at hj
   cases hj
   subst hjk
   exact⟨b,c,ob,x,hb,.of t⟩
  ·rw[if_neg hjk]at hj
   obtain⟨w,a,E,d,g,n⟩:=hm.ro j oj hj
   exact⟨w,a,E,d,hle _ _ g,n⟩
theorem Ll{C:Ctx}{S:Cy}{fr:Frame}{cs:List Frame}:∀(n:Nat) (l:List Nat) (m:Mem) (ρ:Ro) (σ:Own),MemX R m ρ σ σ₀ →
  (∀ρ' σ',Ro.le ρ ρ'→(∀p∈σ',p∈σ)→MemX R (m.withM (xShare n l m.M)) ρ' σ' σ₀→GoesH C S fr cs ρ' σ')→GoesH C S fr cs ρ σ
 | 0,l,m,ρ,σ,hm,h=>h ρ σ .refl (fun p hp=>hp) hm
 | n+1,[],m,ρ,σ,hm,h=>h ρ σ .refl (fun p hp=>hp) hm
 | n+1,k::l,m,ρ,σ,hm,h=>by
  have e:xShare (n+1) (k::l) m.M=(match m.M.get k with
   | some (.own (.cells c))=>xShare n (xApp (xKeysL c) l) (m.M.set k (.ro (.cells c)))
   | some (.own (.grow z c))=>xShare n (xApp (xKeysL c) l) (m.M.set k (.ro (.grow z c)))
   | some (.own (.map es))=>xShare n (xApp (xKeysO (.map es)) l) (m.M.set k (.ro (.map es)))
   | _=>xShare n l m.M):=rfl
  rw[e]at h
  split at h
  ·rename_i c hk
   refine Anh hm hk (fun _ _ ho=>by cases ho;exact⟨_,rfl⟩) (by simp) fun ρ' σ' a b d=>?_
   exact Ll n _ _ ρ' σ' d fun ρ'' σ'' f g i=>h ρ'' σ'' (a.trans f) (fun p hp=>b p (g p hp)) i
  ·rename_i z c hk
   refine Anh hm hk (fun _ _ ho=>by cases ho;exact⟨_,rfl⟩) (by simp) fun ρ' σ' a b d=>?_
   exact Ll n _ _ ρ' σ' d fun ρ'' σ'' f g i=>h ρ'' σ'' (a.trans f) (fun p hp=>b p (g p hp)) i
  ·rename_i es hk
   refine Anh hm hk (fun _ _ ho=>by cases ho;exact⟨_,rfl⟩) (by simp) fun ρ' σ' a b d=>?_
   exact Ll n _ _ ρ' σ' d fun ρ'' σ'' f g i=>h ρ'' σ'' (a.trans f) (fun p hp=>b p (g p hp)) i
  ·exact Ll n l m ρ σ hm h
theorem Ait{α:Type}(k:Nat):(Tr.leaf:Tr α).get k=none:=rfl
theorem Qu:∀(t:Tr Cell) (k:Nat),(xOnlyRo t).get k=xRoOf (t.get k)
 | .leaf,k=>rfl
 | .node v l r,k=>by
  show (Tr.node (xRoOf v) (xOnlyRo l) (xOnlyRo r)).get k=_
  rw[Tr.get_node,Tr.get_node]
  split
  ·rfl
  ·split
   ·exact Qu r _
   ·exact Qu l _
theorem Wy:∀(t:Tr Cell) (k:Nat),xNoRcv t=true→xIsRcv (t.get k)=false
 | .leaf,k,_=>rfl
 | .node v l r,k,h=>by
  have h':(match xIsRcv v with|true=>false|false=>match xNoRcv l with|true=>xNoRcv r|false=>false)=true:=h
  rw[Tr.get_node]
  split at h'
  ·cases h'
  ·rename_i hv
   split at h'
   ·rename_i hl
    split
    ·exact hv
    ·split
     ·exact Wy r _ h'
     ·exact Wy l _ hl
   ·cases h'
theorem Aix(t:Tr Cell)(k:Nat)(vs:List CV)(h:xNoRcv t=true):t.get k≠some (.own (.rcv vs)):=fun e=>by
 have:=Wy t k h
 rw[e]at this;cases this
theorem Zu(t:Tr Cell)(k n:Nat)(ms:List Od)(h:xNoRcv t=true):t.get k≠some (.own (.crowd n ms)):=fun e=>by
 have:=Wy t k h
 rw[e]at this;cases this
/-- What the child reads. -/
theorem MemX.child(h:MemX R m ρ σ σ₀):MemX R ⟨xOnlyRo m.M,m.nx,[],0,[]⟩ ρ [] []:=by
 obtain⟨L,G,h⟩:=h
 have own:∀k o,xRoOf (m.M.get k)≠some (.own o):=fun k o e=>by
  unfold xRoOf at e;split at e<;>cases e
 refine⟨[],[],.refl _,by simp,fun p hp=>(by cases hp),fun k o hk _=>?_,fun k o hk=>?_,fun p hp=>(by cases hp),h.lt,h.glob⟩
 ·have hk':(xOnlyRo m.M).get k=some (.own o):=hk
  rw[Qu]at hk'
  exact absurd hk' (own k o)
 ·have hk':(xOnlyRo m.M).get k=some (.ro o):=hk
  rw[Qu]at hk'
  unfold xRoOf at hk'
  split at hk'
  ·rename_i o' hg
   cases hk'
   exact h.ro k _ hg
  ·cases hk'
theorem MemX.noRcv(h:MemX R m ρ σ σ₀)(hn:NoRecv σ₀)(hr:xNoRcv m.M=true):NoRecv σ:=by
 obtain⟨L,G,h⟩:=h
 refine⟨fun c vs hm=>?_,fun c k Rs hm=>?_⟩
 ·rcases Fb.1 (h.perm.mem_iff.1 hm) with h1|h1
  ·obtain⟨p,hp,e⟩:=Iu.1 h1
   obtain⟨d,o1,f,b,a⟩:=h.own p hp
   rw[e]at a
   cases a with
   | rcv hv=>exact(Aix _ _ _ hr b).elim
  ·rcases Fb.1 h1 with h1|h1
   ·obtain⟨o,ho⟩:=h.gar _ h1
    cases ho
   ·exact hn.recv c vs h1
 ·rcases Fb.1 (h.perm.mem_iff.1 hm) with h1|h1
  ·obtain⟨p,hp,e⟩:=Iu.1 h1
   obtain⟨d,o1,f,b,a⟩:=h.own p hp
   rw[e]at a
   cases a with
   | crowd hv=>exact(Zu _ _ _ _ hr b).elim
  ·rcases Fb.1 h1 with h1|h1
   ·obtain⟨o,ho⟩:=h.gar _ h1
    cases ho
   ·exact hn.crowd c k Rs h1
theorem Auc{x:Nat×Res}:∀{i:Nat} {σ τ:Own},σ.Perm (x::τ)→σ[i]?=some x→(σ.eraseIdx i).Perm τ:=fun {i σ τ} h hi=>by
 have b:σ.Perm (x::σ.eraseIdx i):=by
  have hlt:=(Ig.1 hi).1
  clear h
  induction σ generalizing i with
  | nil=>cases hlt
  | cons a σ ih =>
   cases i with
   | zero=>cases hi;exact .refl _
   | succ i =>
    rw[Sl]at hi
    exact((ih hi (by simpa using hlt)).cons a).trans (.swap ..)
 exact(b.symm.trans h).cons_inv
/-- It is gone. -/
theorem MemX.gone(h:MemX R m ρ σ σ₀){k:Nat}{o:CO}(hk:m.M.get k=some (.own o))(hd:o ≠ .dead):∃b c r i,R k=some (b,c)∧σ[i]?=some (b,r)∧ObjR R c o r∧MemX R (m.put k .dead) ρ (σ.eraseIdx i) σ₀:=by
 obtain⟨L,G,h⟩:=h
 obtain⟨b,c,r,i,v,a,w,x⟩:=h.at hk hd
 refine⟨b,c,r,i,v,a,w,?_⟩
 obtain⟨A,B,rfl⟩:=Ny x
 have nd:=h.nd
 simp only[Ir,Hd]at nd
 have hAB:∀p∈A++B,p.1≠k:=fun p hp e=>by
  rw[Aav]at nd
  obtain⟨C,y,z⟩:=nd
  rcases Fb.1 hp with hp|hp
  ·exact z p.1 (Ml (f:=Prod.fst) hp) k mC e
  ·exact(Ol.1 y).1 (e ▸ Ml (f:=Prod.fst) hp)
 have dim:∀{p},p∈A++B→p∈A++(k,b,r)::B:=fun {p} hp=>(Fb.1 hp).elim (Lb _) fun hp=>Ix _ (lZ0 _ hp)
 refine⟨A++B,G,?_,?_,fun p hp=>?_,fun j oj hj hd=>?_,fun j oj hj=>?_,h.gar,h.lt,h.glob⟩
 ·have d:=h.perm
  simp only[Ir,Hd,lZ9,Nu]at d ⊢
  exact Auc (d.trans Att) a
 ·rw[Ir]
  have:(A.map Prod.fst++B.map Prod.fst).Sublist (A.map Prod.fst++k::B.map Prod.fst):=List.Sublist.append_left (Bdp ..) _
  exact this.nodup nd
 ·obtain⟨g,o1,n,t,u⟩:=h.own p (dim hp)
  exact⟨g,o1,n,by rw[Ic,if_neg (hAB p hp)];exact t,u⟩
 ·rw[Ic]at hj
  by_cases hjk:j=k
  ·rw[if_pos hjk]at hj;cases hj;exact absurd rfl hd
  ·rw[if_neg hjk]at hj
   obtain⟨q,hq⟩:=h.all j oj hj hd
   rcases Fb.1 hq with hq|hq
   ·exact⟨q,Lb _ hq⟩
   ·rcases lZ8.1 hq with e|hq
    ·exact absurd (Prod.mk.inj e).1 hjk
    ·exact⟨q,Ix _ hq⟩
 ·rw[Ic]at hj
  by_cases hjk:j=k
  ·rw[if_pos hjk]at hj;cases hj
  ·rw[if_neg hjk]at hj;exact h.ro j oj hj
end
end
section
open Go Go.Conc
section
variable{C:Ctx}{F:Fns}{S:Cy}
/-- The operations before the last one. -/
theorem Bfc(hF:FnsOk C F){l₀:List Oper}:∀(r:List Oper) (st st':St),(preK C.P l₀ r).run F st=some st'→Kept st.m st'.m ∧
  ∀b n R e ds ρ σ σ₀ pre suf tm k cs,Fu n l₀.toArray=true→b.kind ≠ .early→NoRecv σ₀→Sim R st e ds ρ σ σ₀→l₀=pre++(r++suf)→EnvOf n tm e →
   (∀tm' e' ds' ρ' σ' R',EnvOf n tm' e'→XR.le R R'→Ro.le ρ ρ'→Sim R' st' e' ds' ρ' σ' σ₀→GoesH C S (Fr b tm' ds' (.inRegion l₀.toArray (List.range' (pre.length+r.length) suf.length)::k)) cs ρ' σ') →
   GoesH C S (Fr b tm ds (.inRegion l₀.toArray (List.range' pre.length (r.length+suf.length))::k)) cs ρ σ
 | [],st,st',h=>by
  have h':some st=some st':=h
  cases h'
  refine⟨.refl _,fun b n R e ds ρ σ σ₀ pre suf tm k cs hsl hk hn hs hl ht hq=>?_⟩
  have:=hq tm e ds ρ σ R ht .refl .refl hs
  simpa using this
 | o::r,st,st',h=>by
  have h':(match (gokK l₀ o).run st.e with
   | false=>none
   | true=>match (guardK l₀ o).run st.e with
    | false=>(preK C.P l₀ r).run F ⟨(dstK o.dst).run st.e .undef,st.m,st.ds⟩
    | true=>match doOR F st ((opK C.P o.op).run st.e st.m) with
     | .v x m ds=>(preK C.P l₀ r).run F ⟨(dstK o.dst).run st.e x,m,ds⟩
     | .bad=>none)=some st':=h
  have key:∀(x:CV) (c:Mem) (a:List CD),(gokK l₀ o).run st.e=true→UqOk C l₀ o st x c a→(preK C.P l₀ r).run F ⟨(dstK o.dst).run st.e x,c,a⟩=some st'→Kept st.m st'.m ∧
    ∀b n R e ds ρ σ σ₀ pre suf tm k cs,Fu n l₀.toArray=true→b.kind ≠ .early→NoRecv σ₀→Sim R st e ds ρ σ σ₀→l₀=pre++(o::r++suf)→EnvOf n tm e →
     (∀tm' e' ds' ρ' σ' R',EnvOf n tm' e'→XR.le R R'→Ro.le ρ ρ'→Sim R' st' e' ds' ρ' σ' σ₀→GoesH C S (Fr b tm' ds' (.inRegion l₀.toArray (List.range' (pre.length+(o::r).length) suf.length)::k)) cs ρ' σ') →
     GoesH C S (Fr b tm ds (.inRegion l₀.toArray (List.range' pre.length ((o::r).length+suf.length))::k)) cs ρ σ:=by
   intro x c a hgk hu hr
   obtain⟨y,ih⟩:=Bfc hF r _ _ hr
   refine⟨hu.kept.1.trans y,fun b n R e ds ρ σ σ₀ pre suf tm k cs hsl hk hn hs hl ht hq=>?_⟩
   have hi:l₀[pre.length]?=some o:=by rw[hl];simp
   have hrg:List.range' pre.length ((o::r).length+suf.length)=pre.length::List.range' (pre.length+1) (r.length+suf.length):=by
    rw[lZ2,show r.length+1+suf.length=(r.length+suf.length)+1 by omega,Yy]
   rw[hrg]
   refine(Awu hsl hk (Axi (b:=b) hu hi hgk hn hs) ht).bind ?_
   rintro _ cs' ρ' σ' ⟨rfl,tm',e',ds',u,⟨rfl,R',v,d,z,rfl,B,D⟩,rfl⟩
   have w:Sim R' ⟨(dstK o.dst).run st.e x,c,a⟩ (Ja e o.dst v) ds' ρ' σ' σ₀:=⟨Jl (hs.env.mono d) B,D,by
    rw[hu.kept.2.2];exact hs.ds.mono d⟩
   have:=ih b n R' _ ds' ρ' σ' σ₀ (pre++[o]) suf tm' k cs' hsl hk hn w (by rw[hl];simp) u fun E i g G H f j p q t=>by
    have:=hq E i g G H f j (d.trans p) (z.trans q) t
    rw[lZ1,Qq]
    rw[lZ2]at this
    rw[show pre.length+1+r.length=pre.length+(r.length+1) by omega]
    exact this
   rw[lZ1,Qq]at this
   exact this
  split at h'
  ·cases h'
  ·rename_i hgk
   split at h'
   ·rename_i hg;exact key _ _ _ hgk (.inl ⟨hg,rfl,rfl,rfl⟩) h'
   ·rename_i hg
    split at h'
    ·rename_i x m ds hov;exact key _ _ _ hgk (.inr ⟨hg,Tm hF hov⟩) h'
    ·cases h'
/-- The code before the last region. -/
theorem Bka{n:Nat}{b:FB}(hb:b.kind ≠ .early)(hr:b.round=none)(hcode:∀c st ex st',(codeK C.P doX n c).run F none st=Em ex st'→Pi (goT C S) n none c st ex st'):∀(c c':Code) (i:Nat) (l:List Oper),xTail c=some (c',i,l)→∀st st1,(codeK C.P doX n c').run F none st = .n st1 →
  ∀R e ds ρ σ σ₀ tm k cs,NoRecv σ₀→Sim R st e ds ρ σ σ₀→EnvOf n tm e →
   (∀tm' e' ds' ρ' σ' R',EnvOf n tm' e'→XR.le R R'→Ro.le ρ ρ'→Sim R' st1 e' ds' ρ' σ' σ₀→GoesH C S (Fr b tm' ds' (.code (.region i l.toArray false)::k)) cs ρ' σ') →
   GoesH C S (Fr b tm ds (.code c::k)) cs ρ σ:=by
 intro c
 induction c with
 | seq x y _ ihy =>
  intro c' i l h st st1 f R e ds ρ σ σ₀ tm k cs hn hs ht hq
  have a:(match xTail y with|some (c,i,l)=>some (Code.seq x c,i,l)|none=>none)=some (c',i,l):=h
  cases hy:xTail y with
  | none=>rw[hy]at a;cases a
  | some q =>
   obtain⟨cy,iy,ly⟩:=q
   rw[hy]at a
   cases a
   have g:(match (codeK C.P doX n x).run F none st with | .n st=>(codeK C.P doX n cy).run F none st|z=>z) = .n st1:=f
   split at g
   ·rename_i st2 h2
    refine Eh (fr':=Fr b tm ds (.code x :: .code y::k)) (cs':=cs) (fun W=>by simp[Conc.G,stepG,stepG.exec,Fr]) ?_
    refine((hcode x st .normal st2 h2 b hb).2 trivial R e ds ρ σ σ₀ hn ⟨trivial,hr⟩ hs) tm (.code y::k) cs ht fun tm' e' ds' ρ' σ' L d ⟨R',D,E,H⟩ B=>?_
    cases B
    exact ihy cy _ _ hy st2 st1 g R' e' ds' ρ' σ' σ₀ tm' k cs hn H d fun I p m J K j t u v w=>hq I p m J K j t (D.trans u) (E.trans v) w
   ·rename_i hne
    exact absurd g (hne _)
 | region id ops draw =>
  intro c' i l h st st1 f R e ds ρ σ σ₀ tm k cs hn hs ht hq
  cases draw with
  | true=>cases h
  | false =>
   have a:some (Code.skip,id,ops.toList)=some (c',i,l):=h
   cases a
   have d:Go.Proofs.YtjdkajkimeainaaGreatDoor.R.n st = .n st1:=f
   cases d
   have:=hq tm e ds ρ σ R ht .refl .refl hs
   rw[Ww]at this
   exact this
 | _=>intro c' i l h;cases h
end
/-- What stands there. -/
def Bax(M:Tr Cell)(x:Nat×Option Nat×List CV):Prop:=M.get x.1=some (.ro (match x.2.1 with|none=>.cells x.2.2|some z=>.grow z x.2.2))
theorem Xl(lo:Nat)(M:Tr Cell):∀(n:Nat) (l:List Nat) (a:List (Nat×Option Nat×List CV)),(∀x∈a,Bax M x)→∀x∈xRows lo M n l a,Bax M x
 | 0,l,a,h,x,hx=>h x hx
 | n+1,[],a,h,x,hx=>h x hx
 | n+1,k::l,a,h,x,hx=>by
  have e:xRows lo M (n+1) (k::l) a=(match Nat.ble lo k,xHasK k a with
   | true,false=>match M.get k with
    | some (.ro (.cells c))=>xRows lo M n (xApp (xKeysL c) l) ((k,none,c)::a)
    | some (.ro (.grow z c))=>xRows lo M n (xApp (xKeysL c) l) ((k,some z,c)::a)
    | _=>xRows lo M n l a
   | _,_=>xRows lo M n l a):=rfl
  rw[e]at hx
  split at hx
  ·split at hx
   ·rename_i c hc
    exact Xl lo M n _ _ (fun y hy=>(lZ8.1 hy).elim (fun e=>by subst e;exact hc) (h y)) x hx
   ·rename_i z c hc
    exact Xl lo M n _ _ (fun y hy=>(lZ8.1 hy).elim (fun e=>by subst e;exact hc) (h y)) x hx
   ·exact Xl lo M n _ _ h x hx
  ·exact Xl lo M n _ _ h x hx
theorem Bjr{R:XR}{m:Mem}{ρ:Ro}{σ σ₀:Own}(hm:MemX R m ρ σ σ₀){x:Nat×Option Nat×List CV}(h:Bax m.M x):∃b c y,R x.1=some (b,c)∧ρ b=some y∧Bpb R c x.2.1 x.2.2 y:=by
 obtain⟨L,G,hm⟩:=hm
 obtain⟨b,c,y,e,g,f,d⟩:=hm.ro _ _ h
 refine⟨b,c,y,e,g,?_⟩
 obtain⟨k,z,l⟩:=x
 cases y with
 | cells cs t f' =>
  cases z with
  | none =>
   have a:ObjR R c (.cells l) (.obj (.cells cs t f)):=d
   generalize hr:Res.obj (.cells cs t f)=r at a
   cases a with
   | @cells _ l' t1 fz g1 g2=>cases hr;exact⟨l',t,f',rfl,g1⟩
  | some z =>
   have a:ObjR R c (.grow z l) (.obj (.cells cs t f)):=d
   generalize hr:Res.obj (.cells cs t f)=r at a
   cases a with
   | @grow _ _ l' rest t1 fz g1 g2 g3 g4=>cases hr;exact⟨l',rest,t,f',rfl,g1,g2,g3⟩
 | _ =>
  exfalso
  cases z with
  | none=>cases d
  | some z=>cases d
section
variable{P:Program}{c:Nat}{R:Value→Ro→Prop}{ρ:Ro}{σ:Own}{fr fr':Frame}{cs cs':List Frame}
theorem Beb(h:∀W,stepG P false (Conc.G fr cs) W = .go (Conc.G fr' cs') W #[])(hk:MsgI P c R fr' cs' ρ σ):MsgI P c R fr cs ρ σ :=
 MsgI.of_goes (Eh (C:=Wn P) h (.stop (S:=fun a b c d=>a=fr'∧b=cs'∧c=ρ∧d=σ) ⟨rfl,rfl,rfl,rfl⟩)) (by rintro _ _ _ _ ⟨rfl,rfl,rfl,rfl⟩;exact hk)
theorem Apl{f:FuncId}{fn:Func}{args fs:Array Value}(hf:P.funcs[f]?=some fn)(hn:(fn.name == "runtime.NumGoroutine")=false)(hb:fn.body.isNone=false)(W:World) :
  (invoke (.fn (.func f) fs) args).runT P W #[]=(.ok (.enter f (args++fs)) W,#[]):=by
 show (callFunc f (args++fs)).runT P W #[]=_
 show (program.bind _:Sem Next).runT P W #[]=_
 rw[Sem.runT_bind']
 show Sem.runT P (match P.funcs[f]? with|none=>_|some fn=>_) W #[]=_
 rw[hf]
 simp only[hn,hb]
 rfl
theorem Azo{f:FuncId}{fn:Func}{args fs:Array Value}(hf:P.funcs[f]?=some fn)(hn:(fn.name == "runtime.NumGoroutine")=false)(hb:fn.body.isNone=false)
  (h:MsgI P c R (Frame.enter P f (args++fs) .deferred) [Gf P] ρ []):MsgI P c R (Gg P {target:=.fn (.func f) fs,args:=args}) [] ρ []:=by
 refine Beb (fun W=>?_) h
 have hr:=Apl (args:=args) (fs:=fs) hf hn hb W
 simp[Conc.G,stepG,Gg,unwind,callDeferred,-Sem.runT_eq,hr,GStep.after,seen,Gf]
/-- Behind its send a worker only leaves. -/
theorem leaves{b:FB}{tm:Array Value}{ops:Array Oper}{fn:Func}(hf:P.funcs[b.fn]?=some fn)(hk:b.kind = .deferred)(hro:b.round=none)(hr:fn.results = #[]):QuitsIn P 5 (Conc.G (Fr b tm [] [.inRegion ops []]) [Gf P]):=by
 refine .inr ⟨rfl,Conc.G (Fr b tm [] []) [Gf P],fun w=>by simp[Conc.G,stepG,stepG.exec,Fr],?_⟩
 refine .inr ⟨rfl,Conc.G {Fr b tm [] [] with mode:=.returning} [Gf P],fun w=>by simp[Conc.G,stepG,stepG.exec,Fr,hro],?_⟩
 refine .inr ⟨rfl,Conc.G (Gf P) [],fun w=>?_,.inr ⟨rfl,{Conc.G (Gf P) [] with status:=.finished},fun w=>?_,.inl (rfl:GoStatus.finished=GoStatus.finished)⟩⟩
 ·have hrs:(results fn tm).runT P w #[]=(.ok (.tuple #[]) w,#[]):=by
   unfold results;rw[hr,Atq];rfl
  simp[Conc.G,stepG,Fr,unwind,hf,-Sem.runT_eq,hrs,doReturn,hk,GStep.after,Gf,goexitEntry,seen]
 ·have hc:Frame.catches P (Gf P)=false:=by
   unfold Frame.catches Gf
   cases P.funcs[P.funcs.size]?<;>rfl
  simp only[Gf,goexitEntry]at hc
  simp[Conc.G,stepG,Gf,unwind,goexitEntry,hc]
end
theorem Bea{P:Program}{g:Nat}{F:Fns}{args:List CV}{m m1:Mem}{k:Nat}{x:CV}(h:(msgK P g).run F args m=some (k,x,m1)) :
  ∃fn cd c' i l so a y st st1,P.funcs[g]?=some fn∧(fn.name == "runtime.NumGoroutine")=false∧fn.body.isNone=false∧fn.body=some cd∧fn.results = #[]∧args.length≤fn.ntmps∧xTail cd=some (c',i,l)∧l.getLast?=some so∧Fu fn.ntmps l.toArray=true ∧
   (∃dd ty pos af,so=⟨dd,.send a y,ty,pos,af,none⟩)∧(codeK P doX fn.ntmps c').run F none ⟨xArgEnv args 0 .leaf,m,[]⟩ = .n st∧(preK P l l.dropLast).run F st=some st1∧st1.ds=[]∧(rdK a).run st1.e = .c k∧(rdK y).run st1.e=x∧st1.m=m1:=by
 unfold msgK at h
 split at h
 ·rename_i fn hf hb
  obtain⟨fn',hf',hn,hbn⟩:=Qp hb
  rw[hf]at hf';cases hf'
  split at h
  ·rename_i cd hc hr
   have d:fn.results = #[]:=by apply Array.ext';simpa using hr
   split at h
   ·rename_i c' i l ht
    split at h
    ·rename_i so hl hsl
     split at h
     ·rename_i a y hso
      have h':(match Nat.ble (xLen args) fn.ntmps with
       | true=>match (codeK P doX fn.ntmps c').run F none ⟨xArgEnv args 0 .leaf,m,[]⟩ with
        | .n st=>match (preK P l l.dropLast).run F st with
         | some st=>match st.ds,(rdK a).run st.e with
          | [],.c k=>some (k,(rdK y).run st.e,st.m)
          | _,_=>none
         | none=>none
        | _=>none
       | false=>none)=some (k,x,m1):=h
      split at h'
      ·rename_i hble
       have b:=lZ5 hble
       rw[Fv]at b
       split at h'
       ·rename_i st hst
        split at h'
        ·rename_i st1 hst1
         split at h'
         ·rename_i k1 hds hk
          cases h'
          have f:∃dd ty pos af,so=⟨dd,.send a y,ty,pos,af,none⟩:=by
           obtain⟨dd,op,ty,pos,af,gd⟩:=so
           unfold xSendOf at hso
           simp only at hso
           split at hso
           ·cases hso;exact⟨dd,ty,pos,af,rfl⟩
           ·cases hso
          exact⟨fn,cd,c',i,l,so,a,y,st,st1,hf,hn,hbn,hc,d,b,ht,hl,Ub hsl,f,hst,hst1,hds,hk,rfl,rfl⟩
         ·cases h'
        ·cases h'
       ·cases h'
      ·cases h'
     ·cases h
    ·cases h
   ·cases h
  ·cases h
 ·cases h
theorem Bmw{P:Program}{F:Fns}(hF:FnsOk (Wn P) F)(hx:∀S,Uu (goT (Wn P) S) F doX){g:Nat}{args:List CV}{m m1:Mem}{k:Nat}{x:CV}(h:(msgK P g).run F args m=some (k,x,m1)) :
  ∀R args' b c ρ av fs,av++fs=args'.toArray→VR R args args'→MemX R m ρ [] []→R k=some (b,c)→MsgI P b (Ant R (xMsgOf m.nx x m1)) (Gg P {target:=.fn (.func g) fs,args:=av}) [] ρ []:=by
 obtain⟨fn,cd,c',i,l,so,a,y,st,j,hf,hnm,hbn,hc,hr,O,ht,hl,hsl,⟨dd,ty,pos,af,hso⟩,a0,V,hds,hk,hxv,T⟩:=Bea h
 intro R args' b c ρ av fs K hv hm hR
 refine Azo hf hnm hbn ?_
 rw[K]
 have H:Frame.enter P g args'.toArray .deferred=Fr ⟨g,.deferred,none⟩ (args'.toArray++Array.replicate (fn.ntmps-args'.toArray.size) undef) [] [.code cd]:=by
  simp[Frame.enter,hf,hc,Fr]
 rw[H]
 have hll:l=l.dropLast++[so]:=by
  obtain⟨pre,rfl⟩:=List.getLast?_eq_some_iff.1 hl
  simp
 refine MsgI.of_goes (S:=fun fr cs ρ σ=>MsgI P b (Ant R (xMsgOf m.nx x m1)) fr cs ρ σ) ?_ fun _ _ _ _ h=>h
 refine Bka (C:=Wn P) (F:=F) (n:=fn.ntmps) (b:=⟨g,.deferred,none⟩) (by simp) rfl (fun c st ex st' h=>Tl (C:=Wn P) hF (hx _) (fun _=>⟨⟨_,rfl⟩,hx⟩) c h) cd c' i l ht _ st a0 R (Pn args') [] ρ [] [] _ [] [Gf P] NoRecv.nil ⟨We hv,hm,.nil⟩ (Tn (by rw[←hv.len];exact O)) ?_
 intro tm e ds a1 a3 D I q g3 J
 refine Eh (fr':=Fr ⟨g,.deferred,none⟩ tm ds [.inRegion l.toArray (List.range l.toArray.size)]) (cs':=[Gf P]) (fun W=>by simp[Conc.G,stepG,stepG.exec,Fr]) ?_
 have hsz:List.range l.toArray.size=List.range' ([]:List Oper).length (l.dropLast.length+[so].length):=by
  rw[Aaw,Apn,←lZ1,←hll];rfl
 rw[hsz]
 obtain⟨_,hp⟩:=Bfc (S:=fun fr cs ρ σ=>MsgI P b (Ant R (xMsgOf m.nx x m1)) fr cs ρ σ) hF l.dropLast st j V
 refine hp ⟨g,.deferred,none⟩ fn.ntmps D e ds a1 a3 [] [] [so] tm [] [Gf P] hsl (by simp) NoRecv.nil J (by rw[Pj];exact hll) I ?_
 intro t f E a2 a4 p w B w3 d
 have N:E=[]:=by
  have:=d.ds
  rw[hds]at this
  cases this;rfl
 subst N
 subst T
 refine Ll 100000 (xKeysV x) j.m a2 a4 d.mem fun a5 a6 q1 q2 q3=>.stop ?_
 have hxs:=Cj d.env d.mem.globR a
 rw[hk]at hxs
 obtain⟨b2,c2,u,u2⟩:=Bam hxs
 have hRk:p k=some (b,c):=B _ _ (q _ _ hR)
 rw[hRk]at u;cases u
 have hys:=Cj d.env d.mem.globR y
 rw[hxv]at hys
 have hi:l.toArray[l.dropLast.length]?=some ⟨dd,.send a y,ty,pos,af,none⟩:=by
  rw[Ib,←hso,hll];simp
 have hrg:List.range' (([]:List Oper).length+l.dropLast.length) [so].length=[l.dropLast.length]:=by
  rw[Dy,Po];rfl
 rw[hrg]
 refine .send (v:=Af f y) (z:=.tuple #[]) (fun W=>?_) ?_ ⟨5,?_⟩
 ·have hst:=Np (C:=Wn P) (b:=⟨g,.deferred,none⟩) (ds:=[]) (tm:=t) (k:=[]) (cs:=[Gf P]) (rest:=[]) hi (by rw[Ij hsl w];rfl) (fun c' h'=>by cases h') W
  refine hst.trans ?_
  have hev:=w.eval ⟨g,.deferred,none⟩ [] [.inRegion l.toArray [l.dropLast.length]]
  rw[hev]
  have X:(execOp (Af f) ⟨dd,.send a y,ty,pos,af,none⟩).runT P W #[]=(.ok (.comm #[scase b (Af f y) (.tuple #[])] true .send) W,#[]):=by
   show (Sem.pure (Next.comm #[{chan:=Af f a,send:=some (Af f y),zero:=.tuple #[]}] true .send)).runT P W #[]=_
   rw[u2];rfl
  simp only[Wn]at *
  simp[stepG.apply,-Sem.runT_eq,X,GStep.after,Conc.G,Fr,seen]
 ·refine⟨p,q.trans B,hys,fun r Y=>?_,?_⟩
  ·have Z:r∈xRows m.nx (xShare 100000 (xKeysV x) j.m.M) 1000 (xKeysV x) []:=Y
   exact Bjr q3 (Xl _ _ _ _ _ (by simp) r Z)
  ·obtain⟨L,G,U⟩:=d.mem
   exact U.lt
 ·show QuitsIn P 5 (Conc.G ((Fr ⟨g,.deferred,none⟩ t [] [.inRegion l.toArray [l.dropLast.length]]).finish undef) [Gf P])
  rw[Ju hi]
  exact leaves hf rfl rfl hr
end
end Go.Proofs.YtjdkajkimeainaaGreatDoor
