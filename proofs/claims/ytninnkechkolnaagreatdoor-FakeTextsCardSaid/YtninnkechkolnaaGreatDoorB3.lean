/- Part 3 of what all laws of layer 8 need: a logic of programs that start goroutines, and what the functions yield. -/
import Derived.Test.YtninnkechkolnaaGreatDoorB2
import Derived.KernelRfl
set_option linter.unusedVariables false
set_option linter.unusedSimpArgs false
set_option maxRecDepth 100000
set_option maxHeartbeats 4000000
namespace Go.Proofs.YtninnkechkolnaaGreatDoor
section
open Go
section
variable{P:Program}{R:XR}{e:Tr CV}{e':Env}{m m':Mem}{x:CV}
theorem Yf{o}{ρ:Ro}{v}(hv:V1 R x v)(h:∀ρ ty,Yld P ρ e' o ty v):Apv P o R e' x:=⟨v,hv,fun ρ σ dd ty pos af g=>h ρ ty ρ σ dd pos af g fun _ _ h=>h⟩
theorem Bih{fs i o n}(h:fldAt P fs i=some (o,n)):∃f,fs[i]?=some f∧f.offset=o∧∃t,P.info? f.type=some t∧t.size=n:=by
 unfold fldAt at h
 cases hf:fs[i]? with
 | none=>rw[hf]at h;cases h
 | some f =>
  rw[hf]at h
  simp only at h
  cases hn:xSzT P f.type with
  | none=>rw[hn]at h;cases h
  | some n'=>rw[hn]at h;cases h;exact⟨f,rfl,rfl,Xw hn⟩
theorem Alg(t:TypeId)(a:Operand)(i:Nat):Ps P (.fieldAddr t a i):=fun R e e' m x m' he hg h=>by
 have ha:=Hd he hg a
 unfold opK at h
 simp only at h
 split at h
 ·rename_i fs hT
  split at h
  ·rename_i o n hf
   split at h
   ·rename_i hn
    have h':(match (rdK a).run e with | .p k off=>OR.v (.p k (Nat.add off o)) m|_=>.bad) = .v x m':=h
    split at h'
    ·rename_i k off hu
     obtain⟨rfl,rfl⟩:=Pr h'
     rw[hu]at ha
     obtain⟨b,c,d,g⟩:=Bgh ha
     obtain⟨f,j,l,q⟩:=Bih hf
     refine .inl ⟨rfl,Yf (ρ:=fun _=>none) (.p d .nil) fun ρ ty=>?_⟩
     exact Ajt hT (by rw[←Bbx];exact j) l q (by have:=Qz hn;omega) g rfl
    ·cases h'
   ·cases h
  ·cases h
 ·cases h
theorem Ali(t:TypeId)(a b:Operand):Ps P (.indexAddr t a b):=fun R e e' m x m' he hg h=>by
 have ha:=Hd he hg a
 have hb:=Hd he hg b
 unfold opK at h
 simp only at h
 split at h
 ·rename_i el hT
  split at h
  ·rename_i n hn
   have h':(match (rdK a).run e,(rdK b).run e with
    | .sl k off ln _ _,.i _ (.ofNat i)=>match Nat.ble (Nat.succ i) ln with|true=>OR.v (.p k (Nat.add off (Nat.mul i n))) m|false=>.bad
    | _,_=>.bad) = .v x m':=h
   split at h'
   ·rename_i k off ln kn c ik i hu hz
    split at h'
    ·rename_i hlt
     obtain⟨rfl,rfl⟩:=Pr h'
     rw[hu]at ha;rw[hz]at hb
     obtain⟨bl,d,f,g⟩:=Axs ha
     refine .inl ⟨rfl,Yf (ρ:=fun _=>none) (.p f .nil) fun ρ ty=>?_⟩
     exact Ajv i hT (Xw hn) g (Yk hb) rfl (Qz hlt) rfl
    ·cases h'
   ·cases h'
  ·cases h
 ·rename_i ln el hT
  split at h
  ·rename_i n hn
   have h':(match (rdK a).run e,(rdK b).run e with
    | .p k off,.i _ (.ofNat i)=>match Nat.ble (Nat.succ i) ln with|true=>OR.v (.p k (Nat.add off (Nat.mul i n))) m|false=>.bad
    | _,_=>.bad) = .v x m':=h
   split at h'
   ·rename_i k off ik i hu hz
    split at h'
    ·rename_i hlt
     obtain⟨rfl,rfl⟩:=Pr h'
     rw[hu]at ha;rw[hz]at hb
     obtain⟨bl,d,f,g⟩:=Bgh ha
     refine .inl ⟨rfl,Yf (ρ:=fun _=>none) (.p f .nil) fun ρ ty=>?_⟩
     exact Aju i hT (Xw hn) g (Yk hb) rfl (Qz hlt) rfl
    ·cases h'
   ·cases h'
  ·cases h
 ·cases h
theorem Bha(l:List UInt8)(i:Nat):(⟨l.toArray⟩:ByteArray)[i]?=l[i]?:=by
 by_cases h:i<l.length
 ·rw[Sr h,getElem?_pos (⟨l.toArray⟩:ByteArray) i (by show i<l.toArray.size;simpa using h)];rfl
 ·rw[Yd (by omega),getElem?_neg (⟨l.toArray⟩:ByteArray) i (by show ¬i<l.toArray.size;simpa using h)]
theorem Azm(t:TypeId)(a b:Operand):Ps P (.index t a b):=fun R e e' m x m' he hg h=>by
 have ha:=Hd he hg a
 have hb:=Hd he hg b
 unfold opK at h
 simp only at h
 split at h
 ·rename_i ln el hT
  split at h
  ·rename_i n hn hagg
   have h':(match (rdK a).run e,(rdK b).run e with
    | .g l,.i _ (.ofNat i)=>match Nat.ble (Nat.succ i) ln,xNth (Nat.mul i n) l with|true,some v=>OR.v v m|_,_=>.bad
    | _,_=>.bad) = .v x m':=h
   split at h'
   ·rename_i l ik i hu hz
    split at h'
    ·rename_i w hlt hw
     obtain⟨rfl,rfl⟩:=Pr h'
     rw[hu]at ha;rw[hz]at hb
     obtain⟨l',d,f⟩:=Apr ha
     rw[Ajh]at hw
     obtain⟨v,j,k⟩:=d.at hw
     refine .inl ⟨rfl,Ye (Instr.index t (Af e' a) (Af e' b)) (fun _ _ _ _ _=>rfl) k fun ρ σ=>?_⟩
     rw[f,Yk hb]
     show wpS P ρ ((underlying t).bind _) σ _
     rw[Ad]
     refine Az hT ?_
     simp only[]
     have hlt:=Qz hlt
     rw[if_pos ⟨Bez i,by show (i:Int)<(ln:Int);omega⟩]
     show wpS P ρ ((sizeOf el).bind _) σ _
     rw[Ad]
     refine Dx (Xw hn) ?_
     refine Qr (Asn hagg) ?_ ⟨rfl,rfl⟩
     rw[Qx]
     exact j
    ·cases h'
   ·cases h'
  ·cases h
 ·rename_i hT
  have h':(match (rdK a).run e,(rdK b).run e with
    | .s l,.i _ (.ofNat i)=>match xNth i l with|some b=>OR.v (.i .u8 (.ofNat b.toNat)) m|none=>.bad
    | _,_=>.bad) = .v x m':=h
  split at h'
  ·rename_i l ik i hu hz
   rw[Ajh]at h'
   cases hc:l[i]? with
   | none=>rw[hc]at h';cases h'
   | some c =>
    rw[hc]at h'
    obtain⟨rfl,rfl⟩:=Pr h'
    rw[hu]at ha;rw[hz]at hb
    refine .inl ⟨rfl,Yf (ρ:=fun _=>none) (.i _ _ .nil) fun ρ ty=>?_⟩
    exact Ace i c hT (Axr ha) (Yk hb) rfl (by rw[Bha];exact hc)
  ·cases h'
 ·cases h
theorem Bqy{v}(h:V1 R .sn v):v = .slice none 0 0:=by cases h;rfl
theorem Azn(t:TypeId)(a lo:Operand):Ps P (.slice t a (some lo) none none):=fun R e e' m x m' he hg h=>by
 have ha:=Hd he hg a
 have hb:=Hd he hg lo
 unfold opK at h
 simp only at h
 split at h
 ·rename_i el hT
  split at h
  ·rename_i n hn
   have h':(match (rdK a).run e,(rdK lo).run e with
    | .sl k off ln true c,.i _ (.ofNat q)=>match Nat.ble q ln with
     | true=>OR.v (.sl k (match Nat.beq c q with|true=>off|false=>Nat.add off (Nat.mul q n)) (Nat.sub ln q) true (Nat.sub c q)) m
     | false=>.bad
    | _,_=>.bad) = .v x m':=h
   split at h'
   ·rename_i k off ln c ik q hu hz
    split at h'
    ·rename_i hle
     have hle:=Qz hle
     obtain⟨rfl,rfl⟩:=Pr h'
     rw[hu]at ha;rw[hz]at hb
     obtain⟨bl,d,f,b⟩:=Axs ha
     simp only[Brs]at b
     refine .inl ⟨rfl,Ye (Instr.sliceAt t (Af e' a) (some (Af e' lo)) none none) (fun _ _ _ _ _=>rfl) (.slK f .nil) fun ρ σ=>?_⟩
     rw[b,Yk hb]
     show wpS P ρ ((underlying t).bind _) σ _
     rw[Ad]
     refine Az hT ?_
     show wpS P ρ ((underlying t).bind _) σ _
     rw[Ad]
     refine Az hT ?_
     simp only[]
     show wpS P ρ ((Instr.sliceBounds true ln c (some (.int ik (q:Int))) none none).bind _) σ _
     have hb:Instr.sliceBounds true ln c (some (.int ik (q:Int))) none none=pure (q,ln,c):=by
      have:Instr.sliceBound (.int ik (q:Int)) ln .sliceB=pure q:=by
       show (if 0≤(q:Int)∧(q:Int)≤ln then pure (q:Int).toNat else _)=_
       rw[if_pos (by omega)];simp
      show (Instr.sliceBound (.int ik (q:Int)) ln .sliceB).bind _=_
      rw[this];rfl
     rw[hb]
     show wpS P ρ ((sizeOf el).bind _) σ _
     rw[Ad]
     refine Dx (Xw hn) ⟨?_,rfl⟩
     by_cases hcq:c=q
     ·rw[if_pos hcq]
      have:Nat.beq c q=true:=by rw[hcq];simp
      rw[this];rfl
     ·rw[if_neg hcq]
      have:Nat.beq c q=false:=by
       cases hx:Nat.beq c q with
       | false=>rfl
       | true=>exact absurd (Vg hx) hcq
      rw[this]
      show Value.slice (some ((⟨bl,off,none⟩:Addr).add (q*n))) (ln-q) (c-q)=_
      rw[Ld];rfl
    ·cases h'
   ·cases h'
  ·cases h
 ·cases h
theorem Azl(s d:TypeId)(a:Operand):Ps P (.convert s d a):=fun R e e' m x m' he hg h=>by
 have ha:=Hd he hg a
 unfold opK at h
 simp only at h
 split at h
 ·rename_i k0 k hS hD
  have h':(match (rdK a).run e with | .i _ v=>OR.v (.i k (k.wrap v)) m|_=>.bad) = .v x m':=h
  split at h'
  ·rename_i k1 v hu
   obtain⟨rfl,rfl⟩:=Pr h'
   rw[hu]at ha
   exact .inl ⟨rfl,Yf (ρ:=fun _=>none) (.i _ _ .nil) fun ρ ty=>Acf hS hD (Yk ha) rfl⟩
  ·cases h'
 ·rename_i el hS hD
  split at h
  ·rename_i hE
   have h':(match (rdK a).run e with
    | .s v=>OR.v (.sl m.nx 0 (xLen v) false 0) (m.add (.grow 1 (xBytesC v)))
    | _=>.bad) = .v x m':=h
   split at h'
   ·rename_i v hu
    obtain⟨rfl,rfl⟩:=Pr h'
    rw[hu]at ha
    refine .inr ⟨.add _ _,fun _=>Awc _,fun ρ σ σ₀ dd ty pos af g hm=>?_⟩
    obtain⟨L,G,hm⟩:=hm
    show wpS P ρ ((convert s d (Af e' a)).bind fun v=>Sem.pure (Next.value v)) σ _
    rw[Ad,Axr ha]
    show wpS P ρ ((underlying s).bind _) σ _
    rw[Ad]
    refine Az hS ?_
    show wpS P ρ ((underlying d).bind _) σ _
    rw[Ad]
    refine Az hD ?_
    show wpS P ρ ((underlying el).bind _) σ _
    rw[Ad]
    refine Az hE ?_
    show wpS P ρ ((choose (.appendCap v.toArray.size 0 el)).bind _) σ _
    rw[Ad]
    show (if (Question.appendCap v.toArray.size 0 el).forced then _ else ∀tt,_)
    rw[if_neg (by simp[Question.forced])]
    intro tt
    have j:v.length≤(Question.appendCap v.toArray.size 0 el).cut tt:=by simp[Question.cut]
    generalize (Question.appendCap v.toArray.size 0 el).cut tt=nc at j
    show wpS P ρ ((newRow el ((v.toArray.map fun b=>Value.int .u8 b.toNat)++Array.replicate (nc-v.toArray.size) (.int .u8 0))).bind _) σ _
    rw[Ad]
    refine Ik fun r=>?_
    have f:((v.toArray.map fun (b:UInt8)=>Value.int .u8 (b.toNat:Int))++Array.replicate (nc-v.toArray.size) (Value.int .u8 0))=((v.map fun (c:UInt8)=>Value.int .u8 (c.toNat:Int))++List.replicate (nc-v.length) (Value.int .u8 0)).toArray:=by
     apply Array.ext';simp
    rw[f]
    show wpS P ρ ((markStringish ⟨r,0,none⟩).bind _) _ _
    rw[Ad]
    show wpS P ρ ((shape r).bind _) _ _
    rw[Ad]
    refine⟨_,.inr mC,?_⟩
    refine .inr ⟨by simp,0,_,_,0,0,rfl,?_⟩
    have hb:∀(R:XR) (l:List UInt8),VR R (xBytesC l) (l.map fun (c:UInt8)=>Value.int .u8 (c.toNat:Int)):=fun R l=>by
     induction l with
     | nil=>exact .nil
     | cons c l ih=>exact .i _ _ ih
    have n:xLen v=v.toArray.size:=by rw[Tz];simp
    refine⟨R.add m.nx (r,nc),_,hm.fresh _,.inl rfl,?_,?_⟩
    ·rw[n]
     exact .slU XR.add_same .nil
    ·refine hm.add (.grow (hb _ v) (by simp;omega) Nat.one_pos fun i hi=>?_)
     simp only[Xp,Yy]at hi
     simp
     omega
   ·cases h'
  ·cases h
 ·cases h
theorem Aeg{b az ts dd ty pos af g}(f:Operand→Value):∃cs,execOp f ⟨dd,.call ⟨.builtin b,az,ts⟩,ty,pos,af,g⟩=builtin b ts ty cs (az.map f):=⟨_,rfl⟩
theorem Sc{b c}{vs:List Value}{v}(hc:c.callee = .builtin b)(hv:c.args.map (Af e')=vs.toArray)(hx:V1 R x v)(h:∀ty cs ρ σ,wpS P ρ (builtin b c.argTypes ty cs vs.toArray) σ (fun nx σ'=>nx = .value v∧σ'=σ)):Apv P (.call c) R e' x:=⟨v,hx,fun ρ σ dd ty pos af g=>by
 obtain⟨cl,az,ts⟩:=c
 simp only at hc;subst hc
 obtain⟨cs,a⟩:=Aeg (b:=b) (az:=az) (ts:=ts) (dd:=dd) (ty:=ty) (pos:=pos) (af:=af) (g:=g) (Af e')
 simp only at hv h
 rw[a,hv]
 exact h ty cs ρ σ⟩
end
end
section
open Go
section
variable{P:Program}{R:XR}{e:Tr CV}{e':Env}{m m':Mem}{x:CV}
theorem VR.set{l l2 c o vs ws}(h:VR R l c)(hs:xSetL o vs l=some l2)(hv:VR R vs ws):o+ws.length≤c.length∧VR R l2 (over c o ws):=by
 obtain⟨a,b⟩:=Axz o vs l l2 hs
 have hl:=h.len
 have hw:=hv.len
 rw[hw,hl]at a
 refine⟨a,?_⟩
 rw[Qe ws c o a,b,hw]
 exact(h.take o).app (hv.app (h.drop _))
theorem Aeh(he:EnvR R e e')(hg:Adr R){off place:Nat→Option (Nat×Nat)}(hp:∀i o z,off i=some (o,z)→place i=some (o,z)):∀(ps:List (Nat×Operand)) (l l2:List CV) (c:List Value),(fillK off ps).run l e=some l2→VR R l c →
  ∃c2,Instr.fill place c.toArray (ps.map fun p=>(p.1,Af e' p.2))=some c2.toArray∧VR R l2 c2
 | [],l,l2,c,h,hv=>by cases h;exact⟨c,rfl,hv⟩
 | (i,a)::ps,l,l2,c,h,hv=>by
  unfold fillK at h
  split at h
  ·cases h
  ·rename_i o z ho
   simp only at h
   split at h
   ·cases h
   ·rename_i vs hc
    split at h
    ·cases h
    ·rename_i hz
     split at h
     ·rename_i l3 hs
      have hz:=Vg hz
      rw[Tz]at hz
      have b:=(Hd he hg a).cells hc
      obtain⟨d,f⟩:=hv.set hs b
      have k:=b.len
      obtain⟨c2,g,j⟩:=Aeh he hg hp ps l3 l2 _ h f
      refine⟨c2,?_,j⟩
      rw[Qc,Be (cs:=(Af e' a).cells.toList) (by simp) (by rw[hp i o z ho,←k,hz]) d]
      exact g
     ·cases h
/-- The fields' sizes. -/
noncomputable def sizesL(P:Program):List Field→List Nat
 | []=>[]
 | f::fs=>((xSzT P f.type).getD 0)::sizesL P fs
theorem Aun:∀{fs:List Field},allSz P fs=true→Wu P fs (sizesL P fs)
 | [],_=>trivial
 | f::fs,h=>by
  unfold allSz at h
  split at h
  ·rename_i n hn
   refine⟨?_,Aun h⟩
   rw[hn];exact Xw hn
  ·cases h
theorem Bcw:∀(fs:List Field) (i o z:Nat),fldAt P fs i=some (o,z)→(Gs fs (sizesL P fs))[i]?=some (o,z)
 | [],i,o,z,h=>by simp[fldAt]at h
 | f::fs,0,o,z,h=>by
  unfold fldAt at h
  simp only[Agl]at h
  simp only[sizesL,Gs,Agl]
  cases hn:xSzT P f.type with
  | none=>rw[hn]at h;cases h
  | some n=>rw[hn]at h;cases h;rfl
 | f::fs,i+1,o,z,h=>by
  simp only[sizesL,Gs,Aem]
  refine Bcw fs i o z ?_
  unfold fldAt at h ⊢
  rw[Aem]at h;exact h
theorem Azk(t:TypeId)(ps:Array (Nat×Operand)):Ps P (.build t ps):=fun R e e' m x m' he hg h=>by
 have hps:ps=ps.toList.toArray:=by simp
 unfold opK at h
 simp only at h
 split at h
 ·rename_i z fs hz hT
  split at h
  ·rename_i c hsz hc
   have h':(match (fillK (fldAt P fs.toList) ps.toList).run c e with|some l=>OR.v (.g l) m|none=>.bad) = .v x m':=h
   split at h'
   ·rename_i l hf
    obtain⟨rfl,rfl⟩:=Pr h'
    obtain⟨v,hv,rfl⟩:=Xa hz
    have hvc:=(vOf R v).cells hc
    obtain⟨d,a,b⟩:=Aeh he hg (place:=((Gs fs.toList (sizesL P fs.toList))[·]?)) (Bcw fs.toList) ps.toList c l _ hf hvc
    refine .inl ⟨rfl,Yf (ρ:=fun _=>none) (.g b .nil) fun ρ ty=>?_⟩
    rw[hps]
    exact Dn (fs:=fs.toList) (zc:=v.cells.toList) (by rw[Alu];exact hT) hv (by simp) (Aun hsz) rfl a
   ·cases h'
  ·cases h
 ·rename_i z ln el hz hT
  split at h
  ·rename_i n c hn hc
   have h':(match (fillK (fun i=>some (Nat.mul i n,n)) ps.toList).run c e with|some l=>OR.v (.g l) m|none=>.bad) = .v x m':=h
   split at h'
   ·rename_i l hf
    obtain⟨rfl,rfl⟩:=Pr h'
    obtain⟨v,hv,rfl⟩:=Xa hz
    have hvc:=(vOf R v).cells hc
    obtain⟨d,a,b⟩:=Aeh he hg (place:=fun i=>some (i*n,n)) (fun i o z h=>h) ps.toList c l _ hf hvc
    refine .inl ⟨rfl,Ye (Instr.build t (ps.map fun (p:Nat×Operand)=>(p.1,Af e' p.2))) (fun _ _ _ _ _=>rfl) (.g b .nil) fun ρ σ=>?_⟩
    unfold Instr.build
    show wpS P ρ ((zeroValue t).bind _) σ _
    rw[Ad]
    refine Jz hv ?_
    show wpS P ρ ((underlying t).bind _) σ _
    rw[Ad]
    refine Az hT ?_
    dsimp only
    show wpS P ρ ((sizeOf el).bind _) σ _
    rw[Ad]
    refine Dx (Xw hn) ?_
    have f:(ps.map fun (p:Nat×Operand)=>(p.1,Af e' p.2)).toList=ps.toList.map fun p=>(p.1,Af e' p.2):=by simp
    have j:v.cells=v.cells.toList.toArray:=by simp
    rw[f,j,a]
    exact⟨rfl,rfl⟩
   ·cases h'
  ·cases h
 ·cases h
theorem Beo(n:Nat):Bdo n (0,0):=fun i _=>by simp
theorem Asm{o el l vs}(s:Sem Value)(mk:Nat→Value)(hs:∀dd ty pos af g,execOp (Af e') ⟨dd,o,ty,pos,af,g⟩=s.bind fun v=>Sem.pure (Next.value v))(h:∀ρ σ Q,(∀r,Q (mk r) ((r,.obj (.cells vs.toArray el (0,0)))::σ))→wpS P ρ s σ Q)(hv:VR R l vs)(hx:∀R' r,R' m.nx=some (r,0)→V1 R' x (mk r)):Bgn P o R e' m x (m.add (.cells l)) :=
 Aul (c:=0) s mk hs h (fun R' hR=>.cells (hv.mono hR) (Beo _)) hx
theorem Azj(t:TypeId):Ps P (.alloc t):=fun R e e' m x m' he hg h=>by
 unfold opK at h
 simp only at h
 split at h
 ·rename_i z hz
  split at h
  ·rename_i c hc
   obtain⟨rfl,rfl⟩:=Pr h
   obtain⟨v,hv,rfl⟩:=Xa hz
   refine .inr (Asm (vs:=v.cells.toList) (el:=t) (Instr.alloc t true (.tuple #[])) (fun r=>.pointer (some ⟨r,0,none⟩)) (fun _ _ _ _ _=>rfl) (fun ρ σ Q hq=>?_) ((vOf R v).cells hc) fun R' r hr=>.p hr .nil)
   show wpS P ρ ((zeroValue t).bind _) σ _
   rw[Ad]
   refine Jz hv ?_
   show wpS P ρ ((newVar t v).bind _) σ _
   rw[Ad]
   refine Ik fun r=>?_
   have:=hq r
   rw[Alu]at this
   exact this
  ·cases h
 ·cases h
theorem Bil(t:TypeId)(a:Operand):Ps P (.box t a):=fun R e e' m x m' he hg h=>by
 have ha:=Hd he hg a
 have h':(match ((rdK a).run e).cells with|some c=>OR.v (.p m.nx 0) (m.add (.cells c))|none=>.bad) = .v x m':=h
 split at h'
 ·rename_i c hc
  obtain⟨rfl,rfl⟩:=Pr h'
  refine .inr (Asm (vs:=(Af e' a).cells.toList) (el:=t) (Instr.box t (Af e' a)) (fun r=>.pointer (some ⟨r,0,none⟩)) (fun _ _ _ _ _=>rfl) (fun ρ σ Q hq=>?_) (ha.cells hc) fun R' r hr=>.p hr .nil)
  show wpS P ρ ((newVar t (Af e' a)).bind _) σ _
  rw[Ad]
  refine Ik fun r=>?_
  have:=hq r
  rw[Alu]at this
  exact this
 ·cases h'
theorem Ati(t:TypeId):Ps P (.makeMap t none):=fun R e e' m x m' he hg h=>by
 obtain⟨rfl,rfl⟩:=Pr h
 refine .inr (Aul (c:=0) (ob:=.map ([]:List MapEntry).toArray 0) (Instr.makeMap t none) (fun r=>.map (some r)) (fun _ _ _ _ _=>rfl) (fun ρ σ Q hq=>?_) (fun R' hR=>.map .nil .nil) fun R' r hr=>.m hr .nil)
 show wpS P ρ ((newObj (.map #[] 0)).bind _) σ _
 rw[Ad]
 exact .inl ⟨rfl,fun r=>hq r⟩
theorem Apb(t:TypeId)(s:Operand):Ps P (.makeChan t s):=fun R e e' m x m' he hg h=>by
 have hs:=Hd he hg s
 unfold opK at h
 simp only at h
 split at h
 ·rename_i dir el hT
  split at h
  ·rename_i ti hi
   have h':(match (rdK s).run e with | .i _ (.ofNat 0)=>OR.v (.c m.nx) (m.add .chan)|_=>.bad) = .v x m':=h
   split at h'
   ·rename_i k hu
    obtain⟨rfl,rfl⟩:=Pr h'
    rw[hu]at hs
    refine .inr ⟨.add m .chan,fun _=>Awc _,fun ρ σ σ₀ dd ty pos af g hm=>?_⟩
    obtain⟨L,G,hm⟩:=hm
    show wpS P ρ ((Instr.makeChan t (Af e' s)).bind fun v=>Sem.pure (Next.value v)) σ _
    rw[Ad,Yk hs]
    show wpS P ρ ((underlying t).bind _) σ _
    rw[Ad]
    refine Az hT ?_
    show wpS P ρ ((typeInfo el).bind _) σ _
    rw[Ad]
    refine Gj hi ?_
    have hmx:¬((0:Int)<0∨(0:Int)>IntKind.i64.max∨(ti.bytes:Int)*0>2^48-112):=by
     have:IntKind.i64.max=9223372036854775807:=by simp[IntKind.max,IntKind.signed,IntKind.bits]
     omega
    show wpS P ρ (if ((0:Int)<0∨(0:Int)>IntKind.i64.max∨(ti.bytes:Int)*0>2^48-112) then _ else _) σ _
    rw[if_neg hmx]
    show wpS P ρ ((newObj (.chan 0 #[] false 0 0 false)).bind _) σ _
    rw[Ad]
    refine .inr ⟨rfl,fun r=>?_⟩
    exact⟨R.add m.nx (r,0),_,hm.fresh _,.inl rfl,.c XR.add_same .nil,hm.add .chan⟩
   ·cases h'
  ·cases h
 ·cases h
end
end
section
open Go
section
variable{P:Program}{R:XR}{e:Tr CV}{e':Env}{m m':Mem}{x:CV}{ρ:Ro}{σ σ₀:Own}{L:List (Nat×Nat×Res)}{G:Own}{t:TypeId}
theorem Bou{k off n r}(h:m.read k off n=some r):∃l,m.row k=some l∧n≤(l.drop off).length∧r=(l.drop off).take n:=by
 unfold Mem.read at h
 cases hr:m.row k with
 | none=>rw[hr]at h;cases h
 | some l =>
  rw[hr]at h
  simp only[Aue]at h
  obtain⟨b,c⟩:=Auh _ _ _ h
  exact⟨l,rfl,b,c⟩
/-- Cells of a row are read. -/
theorem MemR.cells(hm:MemR R m ρ σ σ₀ L G){k off n l r}(hk:m.row k=some l)(hn:n≤(l.drop off).length)(hr:r=(l.drop off).take n):
  ∃(b c:Nat) (vs:List Value),R k=some (b,c)∧VR R r vs∧vs.length=n∧(∀Q:Array Value→Own→Prop,Q vs.toArray σ→wpS P ρ (loadCells ⟨b,off,none⟩ n) σ Q)∧∀v,vs=[v]→∀Q:Value→Own→Prop,Q v σ→wpS P ρ (load ⟨b,off,none⟩) σ Q:=by
 obtain⟨b,c,l',rest,t,fz,h,d,e⟩:=hm.row hk
 have hv:VR R r ((l'.drop off).take n):=by rw[hr];exact(e.drop off).take n
 have g:((l'.drop off).take n).length=n:=by
  have:=(e.drop off).len
  rw[lZ6];omega
 have f:∀j v,((l'.drop off).take n)[j]?=some v→Gy (.cells (l'++rest).toArray t fz) (off+j)=some v:=fun j v hj=>by
  have hj':=(Mq.1 hj).1
  rw[List.getElem?_take_of_lt (by omega),Yz]at hj
  simp only[Gy,Qx]
  rw[Alt (Mq.1 hj).1];exact hj
 refine⟨b,c,_,h,hv,g,fun Q hq=>?_,fun v i Q hq=>?_⟩
 ·show wpS P ρ (loadCellsFrom ⟨b,off,none⟩ 0 n #[]) σ Q
  have:=Ff (P:=P) (a:=⟨b,off,none⟩) rfl d (Q:=Q) ((l'.drop off).take n) 0 #[] (fun j v hj=>by simpa using f j v hj) (by simpa using hq)
  rwa[g]at this
 ·refine⟨rfl,rfl,_,v,d,?_,hq⟩
  have:=f 0 v (by rw[i];rfl)
  simpa using this
/-- Cells are stored,where nothing is frozen. -/
theorem Any{Q r i fz}:∀(vs:List Value) (a:Addr) (k:Nat) (c:List Value) (σ:Own),a.block=r→a.spot=none→(∀v∈vs,single v=true)→σ[i]?=some (r,.obj (.cells c.toArray t fz))→a.off+k+vs.length≤c.length→Bdo c.length fz →
  Q () (σ.set i (r,.obj (.cells (over c (a.off+k) vs).toArray t fz)))→wpS P ρ (storeCells a vs k) σ Q:=by
 intro vs
 induction vs with
 | nil =>
  intro a k c σ _ _ _ hi _ _ hq
  have:σ.set i (r,Res.obj (.cells (over c (a.off+k) []).toArray t fz))=σ:=by
   apply Awg
   intro j
   rw[Apm]
   split
   ·rename_i e;subst e
    split
    ·exact hi.symm
    ·rename_i h;rw[Yd (by omega)]
   ·rfl
  rw[this]at hq
  exact hq
 | cons v vs ih =>
  intro a k c σ ha hs hv hi hl hf hq
  simp only[lZ3]at hl
  show wpS P ρ ((store (a.add k) v).bind _) σ Q
  rw[Ad,Agj a hs]
  refine⟨rfl,rfl,hv v mC,i,c.toArray,t,fz,by rw[ha];exact hi,by simp;omega,hf _ (by show a.off+k<_;omega),?_⟩
  have hlt:i<σ.length:=by
   rcases Tc i σ.length with h|h
   ·exact h
   ·rw[Yd h]at hi;cases hi
  refine ih a (k+1) (c.set (a.off+k) v) _ ha hs (fun w hw=>hv w (lZ7 _ hw)) ?_ (by rw[Ui];omega) (by rw[Ui];exact hf) ?_
  ·rw[Apm]
   simp only[if_true,hlt]
   rw[ha];simp
  ·rw[List.set_set]
   rw[over]at hq
   rw[show a.off+(k+1)=a.off+k+1 by omega]
   exact hq
theorem Azo(t:TypeId)(a v:Operand):Ps P (.store t a v):=fun R e e' m x m' he hg h=>by
 have ha:=Hd he hg a
 have hv:=Hd he hg v
 unfold opK at h
 simp only at h
 split at h
 ·rename_i n hn
  have h':(match (rdK a).run e with
   | .p k off=>match ((rdK v).run e).cells with
    | some c=>match Nat.beq (xLen c) n with
     | true=>match m.store k off c with|some m=>OR.v .undef m|none=>.bad
     | false=>.bad
    | none=>.bad
   | _=>.bad) = .v x m':=h
  split at h'
  ·rename_i k off hu
   rw[hu]at ha
   obtain⟨b,E,hR,hav⟩:=Bgh ha
   split at h'
   ·rename_i c hc
    have hcv:=hv.cells hc
    split at h'
    ·rename_i y
     have y:=Vg y
     rw[Tz,hcv.len]at y
     cases hst:m.store k off c with
     | none=>rw[hst]at h';cases h'
     | some m1 =>
      rw[hst]at h'
      obtain⟨rfl,rfl⟩:=Pr h'
      unfold Mem.store at hst
      split at hst
      ·cases hst
      ·rename_i hall
       have hsg:=hcv.singles hall
       have go:∀{o o':CO},m.M.get k=some (.own o)→o ≠ .dead→m1=m.put k o'→(∀{R:XR} {d:Nat} {rs:Res},VR R c (Af e' v).cells.toList→ObjR R d o rs→∃cs t fz,rs = .obj (.cells cs.toArray t fz)∧off+(Af e' v).cells.toList.length≤cs.length∧Bdo cs.length fz∧ObjR R d o' (.obj (.cells (over cs off (Af e' v).cells.toList).toArray t fz))) →
         Bgn P (.store t a v) R e' m .undef m1:=fun {o o'} hget hd hm1 hobj=>by
        subst hm1
        refine⟨.put _ _ _,fun hx=>(by cases hx),fun ρ σ σ₀ dd ty pos af g hm=>?_⟩
        obtain⟨L,G,hm⟩:=hm
        obtain⟨D,F,rs,i,j,f,u,q⟩:=hm.at hget hd
        rw[hR]at j;cases j
        obtain⟨cs,t',fz,rfl,w,z,C⟩:=hobj hcv u
        show wpS P ρ ((Instr.storeAt t (Af e' a) (Af e' v)).bind fun _=>Sem.pure Next.skip) σ _
        rw[Ad,hav]
        show wpS P ρ ((sizeOf t).bind _) σ _
        rw[Ad]
        refine Dx (Xw hn) ?_
        have hsz:(Af e' v).cells.size=n:=by rw[←y];simp
        show wpS P ρ (if (Af e' v).cells.size≠n then _ else storeCells ⟨b,off,none⟩ (Af e' v).cells.toList) σ _
        rw[if_neg (by simpa using hsz)]
        refine Any _ ⟨b,off,none⟩ 0 cs σ rfl rfl hsg f (by simpa using w) z ?_
        rw[Ato]
        exact⟨R,undef,.refl,.inr ⟨rfl,rfl⟩,.t .nil .nil,hm.put q hR f C⟩
       split at hst
       ·rename_i l hget
        split at hst
        ·rename_i r hs
         cases hst
         refine .inr (go hget (by simp) rfl fun {R d rs} hw ho=>?_)
         cases ho with
         | @cells _ l' t1 fz j f =>
          obtain⟨u,q⟩:=j.set hs hw
          exact⟨l',t1,fz,rfl,u,f,.cells q (by rw[Xd];exact f)⟩
        ·cases hst
       ·rename_i n' l hget
        split at hst
        ·rename_i r hs
         cases hst
         refine .inr (go hget (by simp) rfl fun {R d rs} hw ho=>?_)
         cases ho with
         | @grow _ _ l' rest t1 fz j f u q =>
          obtain⟨w,z⟩:=j.set hs hw
          refine⟨l'++rest,t1,fz,rfl,by rw[lZ0];omega,by rw[lZ0];exact q,?_⟩
          have B:over (l'++rest) off (Af e' v).cells.toList=over l' off (Af e' v).cells.toList++rest:=by
           rw[Qe _ _ _ (by rw[lZ0];omega),Qe _ _ _ w,List.take_append_of_le_length (by omega),Bjj w]
           simp
          rw[B]
          exact .grow z (by rw[Xd];exact f) u (by rw[Xd];exact q)
        ·cases hst
       ·cases hst
    ·cases h'
   ·cases h'
  ·cases h'
 ·cases h
end
end
section
open Go
section
variable{P:Program}{R:XR}{e:Tr CV}{e':Env}{m m':Mem}{x:CV}{ρ:Ro}{σ σ₀:Own}{L:List (Nat×Nat×Res)}{G:Own}{t:TypeId}
theorem Ayg{n}(h:xZeroC P t=some n):∃i v,P.info? t=some i∧i.zero=some v∧v.cells.size=n:=by
 unfold xZeroC at h
 cases hi:P.info? t with
 | none=>rw[hi]at h;cases h
 | some i =>
  rw[hi]at h
  simp only at h
  cases hz:i.zero with
  | none=>rw[hz]at h;cases h
  | some v=>rw[hz]at h;cases h;exact⟨i,v,rfl,hz,rfl⟩
/-- A slice is appended to. -/
theorem Avq{t u n el el' ti z c}(hc:c.callee = .builtin .append)(hts:c.argTypes = #[t,u])(hT:P.underlying t=some (.slice el))(hU:P.underlying u=some (.slice el'))(hi:P.info? el=some ti)(hn:ti.size=n)(hn1:1≤n)(hb:ti.bytes≤4096)(hz:ti.zero=some z)(hzn:z.cells.size=n){args vs}(hv:VR R args vs)(ha:c.args.map (Af e')=vs.toArray)(h:(appendK n).run args m = .v x m'):Bgn P (.call c) R e' m x m':=by
 obtain⟨cl,az,ts⟩:=c
 simp only at hc hts ha
 subst hc hts
 have exe:∀dd ty pos af g,execOp (Af e') ⟨dd,.call ⟨.builtin .append,az,#[t,u]⟩,ty,pos,af,g⟩=((Builtin.append_ #[t,u] ty vs.toArray).bind fun v=>Sem.pure (Next.value v)):=fun dd ty pos af g=>by
  obtain⟨cs,p⟩:=Aeg (b:=.append) (az:=az) (ts:=#[t,u]) (dd:=dd) (ty:=ty) (pos:=pos) (af:=af) (g:=g) (Af e')
  rw[p,ha];rfl
 unfold appendK at h
 simp only at h
 split at h
 ·rename_i s k2 off2 lx kn2 c2
  split at h
  ·cases h
  ·rename_i cx hcx
   split at h
   ·rename_i hlx0 hall
    have hlx:lx≠0:=fun e=>by subst e;simp at hlx0
    obtain⟨sv,xv,rfl⟩:∃sv xv,vs=[sv,xv]:=by
     have:=hv.len
     match vs,this with
     | [a,b],_=>exact⟨a,b,rfl⟩
    obtain⟨hs,hx'⟩:=VR.cons_iff.1 hv
    obtain⟨l2,a7,a4,a2⟩:=Bou hcx
    have V:∀(ρ:Ro) (σ σ₀:Own) (ty:TypeId) (E:Option Addr) (f j:Nat) (ls:List CV) (hm:MemX R m ρ σ σ₀) (hsv:sv = .slice E f j) (hsz:f+lx≤1000000)
      (J:∃ovs:List Value,VR R ls ovs∧ovs.length=f*n∧∀Q:Array Value→Own→Prop,Q ovs.toArray σ→wpS P ρ (Builtin.firstCells n f sv) σ Q) (Q:Value→Own→Prop)
      (Z:f+lx≤j→∀cvs:List Value,VR R cx cvs→cvs.length=lx*n→(∀v∈cvs,single v=true)→wpS P ρ (Sem.bind (match E with|some a=>storeCells (a.add (f*n)) cvs|none=>pure ()) fun _=>pure (.slice E (f+lx) j)) σ Q)
      (U:∀r nc (all rest:List Value),VR R (ls++cx) all→all.length=(f+lx)*n→all.length+rest.length=nc*n→f+lx≤nc→Q (.slice (some ⟨r,0,none⟩) (f+lx) nc) ((r,.obj (.cells (all++rest).toArray el (0,0)))::σ)),
      wpS P ρ (Builtin.append_ #[t,u] ty [sv,xv].toArray) σ Q:=by
     intro ρ σ σ₀ ty E f j ls hm hsv hsz J Q Z U
     obtain⟨L,G,hm⟩:=hm
     obtain⟨xb,xd,hxR,hxv⟩:=Axs hx'
     obtain⟨b2,ab,cvs,p,B,C,I,_⟩:=hm.cells (P:=P) a7 a4 a2
     rw[hxR]at p;cases p
     replace C:cvs.length=lx*n:=C
     obtain⟨ovs,a5,a6,Y⟩:=J
     have X:∀Q:Array Value→Own→Prop,Q cvs.toArray σ→wpS P ρ (Builtin.firstCells n lx xv) σ Q:=fun Q hq=>by rw[hxv];exact I Q hq
     have hsg:=B.singles hall
     have aa:Builtin.lenOf xv=pure lx:=by rw[hxv];rfl
     rw[show [sv,xv].toArray = #[sv,xv] from rfl]
     unfold Builtin.append_
     show wpS P ρ ((underlying t).bind _) _ _
     rw[Ad]
     refine Az hT ?_
     simp only[hsv]
     show wpS P ρ ((sizeOf el).bind _) _ _
     rw[Ad]
     refine Dx ⟨ti,hi,hn⟩ ?_
     show wpS P ρ ((underlying u).bind _) _ _
     rw[Ad]
     refine Az hU ?_
     show wpS P ρ ((Builtin.lenOf xv).bind _) _ _
     rw[aa]
     show wpS P ρ (if f+lx≤j then (Builtin.firstCells n lx xv).bind _ else (typeInfo el).bind _) _ _
     by_cases D:f+lx≤j
     ·rw[if_pos D,Ad]
      refine X _ ?_
      have:=Z D cvs B C hsg
      cases E with
      | none=>exact this
      | some a=>exact this
     ·rw[if_neg D,Ad]
      refine Gj hi ?_
      have a0:¬(((f+lx:Nat):Int)>IntKind.i64.max∧((false=true)∨ti.bytes=0)):=by
       intro⟨p,_⟩
       have:IntKind.i64.max=9223372036854775807:=by simp[IntKind.max,IntKind.signed,IntKind.bits]
       omega
      show wpS P ρ (if ((f+lx:Nat):Int)>IntKind.i64.max∧((false=true)∨ti.bytes=0) then _ else (typeInfo el).bind _) _ _
      rw[if_neg a0,Ad]
      refine Gj hi ?_
      have a1:¬(Builtin.nextslicecap (f+lx) j*ti.bytes>2^48):=by
       have p:=Alk (need:=f+lx) (cap:=j) (by omega)
       have B:Builtin.nextslicecap (f+lx) j*ti.bytes≤(2*(f+lx)+1000)*4096:=Bcj p hb
       omega
      show wpS P ρ (if Builtin.nextslicecap (f+lx) j*ti.bytes>2^48 then _ else (choose (.appendCap (f+lx) j el)).bind _) _ _
      rw[if_neg a1,Ad]
      show (if (Question.appendCap (f+lx) j el).forced then _ else ∀tt,_)
      rw[if_neg (by simp[Question.forced])]
      intro tt
      have hnc:f+lx≤(Question.appendCap (f+lx) j el).cut tt:=by simp[Question.cut]
      generalize (Question.appendCap (f+lx) j el).cut tt=nc at hnc
      show wpS P ρ ((typeInfo el).bind _) _ _
      rw[Ad]
      refine Gj hi ?_
      show wpS P ρ ((askRoom (nc*ti.bytes)).bind _) _ _
      rw[Ad]
      have a8:∀{Q:Unit→Own→Prop} {σ':Own},Q () σ'→wpS P ρ (askRoom (nc*ti.bytes)) σ' Q:=fun hq=>by
       unfold askRoom
       split
       ·exact⟨rfl,hq⟩
       ·exact hq
      refine a8 ?_
      show wpS P ρ ((Builtin.firstCells n f (.slice E f j)).bind _) _ _
      rw[Ad]
      rw[hsv]at Y
      refine Y _ ?_
      show wpS P ρ ((Builtin.firstCells n lx xv).bind _) _ _
      rw[Ad]
      refine X _ ?_
      show wpS P ρ ((zeroValue el).bind _) _ _
      rw[Ad]
      refine Jz ⟨ti,hi,hz⟩ ?_
      show wpS P ρ ((newRow el (ovs.toArray++cvs.toArray++Builtin.zeroCells z.cells (nc-(f+lx)))).bind _) _ _
      rw[Ad]
      refine Ik fun r=>?_
      have e4:(ovs.toArray++cvs.toArray++Builtin.zeroCells z.cells (nc-(f+lx)))=((ovs++cvs)++(Builtin.zeroCells z.cells (nc-(f+lx))).toList).toArray:=by
       apply Array.ext';simp
      rw[e4]
      have e5:(Builtin.zeroCells z.cells (nc-(f+lx))).toList.length=(nc-(f+lx))*n:=by
       simp[Builtin.zeroCells,hzn]
      have W:(ovs++cvs).length=(f+lx)*n:=by rw[lZ0,a6,C,←Aaj]
      exact U r nc (ovs++cvs) _ (a5.app B) W (by rw[W,e5,←Aaj];congr 1;omega) hnc
    split at h
    ·split at h
     ·rename_i hle
      have hle:=Qz hle
      obtain⟨rfl,rfl⟩:=Pr h
      have hsv:=Bqy hs
      refine⟨.add _ _,fun _=>Awc _,fun ρ σ σ₀ dd ty pos af g hm=>?_⟩
      rw[exe,Ad]
      refine V ρ σ σ₀ ty none 0 0 [] hm hsv (by omega) ⟨[],.nil,by simp,fun Q hq=>by rw[hsv];exact hq⟩ _ (fun D=>absurd D (by omega)) fun r nc all rest w F y K=>?_
      obtain⟨L,G,hm⟩:=hm
      refine⟨R.add m.nx (r,nc),_,hm.fresh _,.inl rfl,?_,hm.add (.grow (w.mono (hm.fresh _)) y hn1 (Beo _))⟩
      rw[Zp]
      exact .slU XR.add_same .nil
     ·cases h
    ·rename_i k off ls c1
     split at h
     ·rename_i n' l hget
      split at h
      ·rename_i N O T q H
       have N:=Vg N
       have O:=Vg O
       have T:=Vg T
       have q:=Vg q
       have H:=Qz H
       subst N O T
       rw[Tz]at q
       replace q:l.length=ls*n:=q
       replace H:ls+lx≤1000000:=H
       obtain⟨rfl,rfl⟩:=Pr h
       rw[Afm]
       obtain⟨sb,sd,hsR,hsv⟩:=Axs hs
       simp only[Brs,Nat.sub_zero]at hsv
       refine⟨(LogOk.put _ _ _).trans (.add _ _),fun _=>Awc _,fun ρ σ σ₀ dd ty pos af g hm=>?_⟩
       rw[exe,Ad]
       have a3:=hm
       obtain⟨L,G,hm⟩:=hm
       obtain⟨b,d,rs,i,p,B,C,I⟩:=hm.at hget (by simp)
       rw[hsR]at p;cases p
       have a9:m.row k=some l:=by unfold Mem.row;rw[hget];rfl
       have J:∃ovs:List Value,VR R l ovs∧ovs.length=ls*n∧∀Q:Array Value→Own→Prop,Q ovs.toArray σ→wpS P ρ (Builtin.firstCells n ls sv) σ Q:=by
        obtain⟨b3,c3,ovs,w,F,y,K,_⟩:=hm.cells (P:=P) (off:=0) (n:=ls*n) a9 (by rw[Air,q];exact Lb _) rfl
        rw[hsR]at w;cases w
        rw[Air,Aad (by rw[q];exact Lb _)]at F
        exact⟨ovs,F,y,fun Q hq=>by rw[hsv];exact K Q hq⟩
       refine V ρ σ σ₀ ty (some ⟨sb,0,none⟩) ls sd l a3 hsv H J _ (fun D cvs w F y=>?_) fun r nc all rest w F y K=>?_
       ·cases C with
        | @grow _ _ l' rest t1 fz o1 o2 o3 o4 =>
         have hl':=o1.len
         show wpS P ρ (Sem.bind (storeCells ((⟨sb,0,none⟩:Addr).add (ls*n)) cvs) _) σ _
         rw[Ad,Ld,Zp]
         have M:ls*n+cvs.length≤(l'++rest).length:=by
          rw[F,lZ0,o2,←Aaj];exact Bjo _ D
         refine Any cvs ⟨sb,ls*n,none⟩ 0 (l'++rest) σ rfl rfl y B (by simpa using M) (by rw[lZ0];exact o4) ?_
         simp only[Ato]
         have e1:over (l'++rest) (ls*n) cvs=(l'++cvs)++rest.drop cvs.length:=by
          rw[Qe _ _ _ M,←q,hl',Awd,lZ9]
          congr 2
          rw[List.drop_append,Azt (by omega)]
          simp
         rw[e1]
         have ac:cvs.length≤rest.length:=by
          rw[lZ0,←hl',q]at M;omega
         refine⟨R.add m.nx (sb,sd),_,hm.fresh _,.inl rfl,?_,hm.move I B (.grow ((o1.app w).mono (hm.fresh _)) ?_ o3 ?_)⟩
         ·exact .slU XR.add_same .nil
         ·rw[lZ0,lZ5];omega
         ·rw[lZ0,lZ5,show l'.length+cvs.length+(rest.length-cvs.length)=l'.length+rest.length by omega];exact o4
       ·have hob:∃ob,rs = .obj ob:=by cases C with|grow=>exact⟨_,rfl⟩
        obtain⟨ob,rfl⟩:=hob
        obtain⟨L',G',hm'⟩:=hm.kill I
        have hfr:=hm'.fresh (r,nc)
        refine⟨R.add m.nx (r,nc),_,hm.fresh _,.inl rfl,.slU XR.add_same .nil,?_⟩
        exact hm'.add (.grow (w.mono hfr) y hn1 (Beo _))
      ·cases h
     ·cases h
    ·cases h
   ·cases h
 ·cases h
/-- Built-in functions. -/
theorem Atg(c:Call)(b:Builtin)(hc:c.callee = .builtin b):Ps P (.call c):=fun R e e' m x m' he hg h=>by
 obtain⟨vs,hv,ha⟩:=Amq (R:=R) he hg c.args
 have a:(builtinK P b c.argTypes.toList).run ((rdsK c.args.toList).run e) m = .v x m':=by
  unfold opK at h
  simp only[hc]at h
  exact h
 generalize (rdsK c.args.toList).run e=args at a hv
 have hts:c.argTypes=c.argTypes.toList.toArray:=by simp
 unfold builtinK at a
 split at a
 ·split at a
  ·rename_i t hl
   split at a
   ·rename_i el hT
    have h':(match args with
     | [.sn]=>OR.v (.i .i64 0) m
     | [.sl _ _ n _ _]=>.v (.i .i64 (.ofNat n)) m
     | _=>.bad) = .v x m':=a
    split at h'
    ·obtain⟨rfl,rfl⟩:=Pr h'
     cases vs with
     | nil=>cases hv
     | cons w ws =>
      obtain⟨hw,hws⟩:=VR.cons_iff.1 hv
      cases hws
      have:=Bqy hw
      subst this
      refine .inl ⟨rfl,Sc hc ha (.i _ _ .nil) fun ty cs ρ σ=>?_⟩
      rw[hts,hl]
      show wpS P ρ ((Builtin.len_ #[t] ty #[.slice none 0 0]).bind fun v=>Sem.pure (Next.value v)) σ _
      rw[Ad]
      show wpS P ρ ((underlying t).bind _) σ _
      rw[Ad]
      exact Az hT ⟨rfl,rfl⟩
    ·rename_i k off n kn c1
     obtain⟨rfl,rfl⟩:=Pr h'
     cases vs with
     | nil=>cases hv
     | cons w ws =>
      obtain⟨hw,hws⟩:=VR.cons_iff.1 hv
      cases hws
      obtain⟨bl,d,_,hw⟩:=Axs hw
      subst hw
      refine .inl ⟨rfl,Sc hc ha (.i _ _ .nil) fun ty cs ρ σ=>?_⟩
      rw[hts,hl]
      show wpS P ρ ((Builtin.len_ #[t] ty #[.slice (some ⟨bl,off,none⟩) n _]).bind fun v=>Sem.pure (Next.value v)) σ _
      rw[Ad]
      show wpS P ρ ((underlying t).bind _) σ _
      rw[Ad]
      exact Az hT ⟨rfl,rfl⟩
    ·cases h'
   ·rename_i hT
    have h':(match args with|[.s z]=>OR.v (.i .i64 (.ofNat (xLen z))) m|_=>.bad) = .v x m':=a
    split at h'
    ·rename_i z
     obtain⟨rfl,rfl⟩:=Pr h'
     cases vs with
     | nil=>cases hv
     | cons w ws =>
      obtain⟨hw,hws⟩:=VR.cons_iff.1 hv
      cases hws
      have:=Axr hw
      subst this
      refine .inl ⟨rfl,Sc hc ha (.i _ _ .nil) fun ty cs ρ σ=>?_⟩
      rw[hts,hl]
      show wpS P ρ ((Builtin.len_ #[t] ty #[.string ⟨z.toArray⟩]).bind fun v=>Sem.pure (Next.value v)) σ _
      rw[Ad]
      show wpS P ρ ((underlying t).bind _) σ _
      rw[Ad]
      refine Az hT ⟨?_,rfl⟩
      show Next.value (goInt ((z.toArray.size:Nat):Int))=_
      rw[Tz,Atm];rfl
    ·cases h'
   ·cases a
  ·cases a
 ·have h':(match args with
   | [.i k p,.i k' q]=>match xKind k k' with|true=>OR.v (.i k (match xLtI q p with|true=>q|false=>p)) m|false=>.bad
   | _=>.bad) = .v x m':=a
  split at h'
  ·rename_i k p k' q
   split at h'
   ·rename_i hk
    have hk:=Abb hk
    subst hk
    obtain⟨rfl,rfl⟩:=Pr h'
    match vs,hv with
    | [w,w'],hv =>
     obtain⟨hw,hw'⟩:=VR.cons_iff.1 hv
     have f:=Yk hw
     have g:=Yk hw'
     subst f g
     refine .inl ⟨rfl,Sc hc ha (.i _ _ .nil) fun ty cs ρ σ=>?_⟩
     show wpS P ρ ((Builtin.min_ c.argTypes ty #[.int k p,.int k q]).bind fun v=>Sem.pure (Next.value v)) σ _
     rw[Ad]
     have f:Builtin.min_ c.argTypes ty #[.int k p,.int k q]=pure (.int k (if q<p then q else p)):=by
      simp only[Builtin.min_,Bfc,List.foldlM_nil,Builtin.min2];rfl
     rw[f]
     refine⟨?_,rfl⟩
     rw[Abw]
     by_cases hlt:q<p
     ·rw[if_pos hlt,Oe hlt]
     ·rw[if_neg hlt,Jw hlt]
   ·cases h'
  ·cases h'
 ·have h':(match args with
   | [.i k p,.i k' q]=>match xKind k k' with|true=>OR.v (.i k (match xLtI p q with|true=>q|false=>p)) m|false=>.bad
   | _=>.bad) = .v x m':=a
  split at h'
  ·rename_i k p k' q
   split at h'
   ·rename_i hk
    have hk:=Abb hk
    subst hk
    obtain⟨rfl,rfl⟩:=Pr h'
    match vs,hv with
    | [w,w'],hv =>
     obtain⟨hw,hw'⟩:=VR.cons_iff.1 hv
     have f:=Yk hw
     have g:=Yk hw'
     subst f g
     refine .inl ⟨rfl,Sc hc ha (.i _ _ .nil) fun ty cs ρ σ=>?_⟩
     show wpS P ρ ((Builtin.max_ c.argTypes ty #[.int k p,.int k q]).bind fun v=>Sem.pure (Next.value v)) σ _
     rw[Ad]
     have f:Builtin.max_ c.argTypes ty #[.int k p,.int k q]=pure (.int k (if q>p then q else p)):=by
      simp only[Builtin.max_,Bfc,List.foldlM_nil,Builtin.max2];rfl
     rw[f]
     refine⟨?_,rfl⟩
     rw[Abw]
     by_cases hlt:p<q
     ·rw[if_pos hlt,Oe hlt]
     ·rw[if_neg hlt,Jw hlt]
   ·cases h'
  ·cases h'
 ·split at a
  ·rename_i t u hl
   split at a
   ·rename_i el el' hT hU
    split at a
    ·rename_i ti zc hi hz
     split at a
     ·rename_i q1 q2 j
      obtain⟨C,D,l,y,B⟩:=Ayg hz
      rw[hi]at l;cases l
      have j:=Vg j
      exact .inr (Avq hc (by rw[hts,hl]) hT hU hi rfl (Qz q1) (Qz q2) y (by rw[B,j]) hv ha a)
     ·cases a
    ·cases a
   ·cases a
  ·cases a
 ·cases a
theorem Bcx(R:XR){c:List CV}{z:List Value}(h:VR R c z):∀(ln:Nat),VR R (xRepL c ln) ((List.replicate ln z).flatten)
 | 0=>.nil
 | n+1=>by
  rw[Bjb,Bjc]
  show VR R (xApp c (xRepL c n)) _
  rw[Afm]
  exact h.app (Bcx R h n)
theorem Arg(z:Array Value)(n:Nat)(hn:z.size=n)(h0:0<n):∀(ln:Nat),(List.range (ln*n)).map (fun i=>z[i%z.size]!)=(List.replicate ln z.toList).flatten
 | 0=>by simp
 | k+1=>by
  have e0:(k+1)*n=n+k*n:=by rw[Aaj,Ahs,Awe]
  rw[e0,List.range_add,Ql,Bjb,Bjc,←Arg z n hn h0 k,Bcl]
  congr 1
  ·apply Awg
   intro i
   rw[Vl]
   by_cases hi:i<n
   ·rw[Biy hi]
    simp only[Awh,hn,Bjg hi]
    rw[Bbx,getElem!_pos z i (by omega),Array.getElem?_eq_getElem (by omega)]
   ·rw[Yd (by simpa using hi),Bbx,Bbv (by omega)];rfl
  ·apply List.map_congr_left
   intro i _
   simp only[Function.comp,hn,Nat.add_mod_left]
theorem Aij(t:TypeId)(ln:Nat)(ps:Array (Nat×Operand)):Ps P (.buildSlice t ln ps):=fun R e e' m x m' he hg h=>by
 unfold opK at h
 simp only at h
 split at h
 ·rename_i el hT
  split at h
  ·rename_i n z zc hn hz hzc
   split at h
   ·rename_i c hc k q a
    have k:ln*n≤1000000:=Qz k
    have q:1≤ln*n:=Qz q
    have a:=Vg a
    have h':(match (fillK (fun i=>some (Nat.mul i n,n)) ps.toList).run (xRepL c ln) e with
     | some l=>OR.v (.sl m.nx 0 ln true ln) (m.add (.cells l))
     | none=>.bad) = .v x m':=h
    split at h'
    ·rename_i l hf
     obtain⟨rfl,rfl⟩:=Pr h'
     obtain⟨v,hv,rfl⟩:=Xa hz
     obtain⟨F,H,d,f,y⟩:=Ayg hzc
     obtain⟨G,g,j⟩:=hv
     rw[d]at g;cases g
     rw[f]at j;cases j
     have D:0<n:=by
      rcases Nat.eq_zero_or_pos n with h0|h0
      ·subst h0;omega
      ·exact h0
     have hvc:=(vOf R v).cells hc
     have E:=Bcx R hvc ln
     obtain⟨b,B,C⟩:=Aeh he hg (place:=fun i=>some (i*n,n)) (fun i o z h=>h) ps.toList (xRepL c ln) l _ hf E
     refine .inr (Asm (vs:=b) (el:=el) (Instr.buildSlice t ln (ps.map fun (p:Nat×Operand)=>(p.1,Af e' p.2))) (fun r=>.slice (some ⟨r,0,none⟩) ln ln) (fun _ _ _ _ _=>rfl) (fun ρ σ Q hq=>?_) C fun R' r hr=>.slK hr .nil)
     unfold Instr.buildSlice
     show wpS P ρ ((underlying t).bind _) σ _
     rw[Ad]
     refine Az hT ?_
     show wpS P ρ ((sizeOf el).bind _) σ _
     rw[Ad]
     refine Dx (Xw hn) ?_
     dsimp only
     rw[if_neg (by omega),if_neg (by omega)]
     show wpS P ρ ((zeroValue el).bind _) σ _
     rw[Ad]
     refine Jz ⟨_,d,f⟩ ?_
     have u:(ps.map fun (p:Nat×Operand)=>(p.1,Af e' p.2)).toList=ps.toList.map fun p=>(p.1,Af e' p.2):=by simp
     have w:((Array.range (ln*n)).map fun i=>v.cells[i%v.cells.size]!)=((List.replicate ln v.cells.toList).flatten).toArray:=by
      rw[←Arg v.cells n (by rw[y,a]) D ln]
      apply Array.ext';simp
     simp only[pure_bind,u,w,B]
     show wpS P ρ ((newRow el b.toArray).bind _) σ _
     rw[Ad]
     exact Ik fun r=>hq r
    ·cases h'
   ·cases h
  ·cases h
 ·cases h
end
end
section
open Go
section
variable{P:Program}{R:XR}{e:Tr CV}{e':Env}{m m':Mem}{x:CV}{ρ:Ro}{σ σ₀:Own}{L:List (Nat×Nat×Res)}{G:Own}{t:TypeId}{mk:MK}
theorem Ada{k:CV}:∀{es:List (CV×CV)} {r:Option CV},findX mk k es=some r→(r=none∧∀p∈es,eqM mk k p.1=some false)∨∃j p,r=some p.2∧es[j]?=some p∧eqM mk k p.1=some true∧∀(i:Nat) q,i<j→es[i]?=some q→eqM mk k q.1=some false
 | [],r,h=>by cases h;exact .inl ⟨rfl,fun p hp=>by cases hp⟩
 | (a,v)::es,r,h=>by
  have h':(match eqM mk k a with|some true=>some (some v)|some false=>findX mk k es|none=>none)=some r:=h
  split at h'
  ·rename_i ha
   cases h'
   exact .inr ⟨0,(a,v),rfl,rfl,ha,fun i q hi=>absurd hi (Uk _)⟩
  ·rename_i ha
   rcases Ada h' with⟨b,c⟩|⟨j,p,b,c,d,e⟩
   ·refine .inl ⟨b,fun p hp=>?_⟩
    rcases Nc.1 hp with rfl|hp
    ·exact ha
    ·exact c p hp
   ·refine .inr ⟨j+1,p,b,by simpa using c,d,fun i q hi hq=>?_⟩
    cases i with
    | zero=>cases hq;exact ha
    | succ i=>exact e i q (by omega) (by simpa using hq)
  ·cases h'
theorem Arf{k v:CV}:∀{es r:List (CV×CV)},putX mk k v es=some r→(r=es++[(k,v)]∧∀p∈es,eqM mk k p.1=some false)∨∃j p,r=es.set j (k,v)∧es[j]?=some p∧eqM mk k p.1=some true∧∀(i:Nat) q,i<j→es[i]?=some q→eqM mk k q.1=some false
 | [],r,h=>by cases h;exact .inl ⟨rfl,fun p hp=>by cases hp⟩
 | (a,w)::es,r,h=>by
  have h':(match eqM mk k a with
   | some true=>some ((k,v)::es)
   | some false=>match putX mk k v es with|some r=>some ((a,w)::r)|none=>none
   | none=>none)=some r:=h
  split at h'
  ·rename_i ha
   cases h'
   exact .inr ⟨0,(a,w),rfl,rfl,ha,fun i q hi=>absurd hi (Uk _)⟩
  ·rename_i ha
   cases hp:putX mk k v es with
   | none=>rw[hp]at h';cases h'
   | some r' =>
    rw[hp]at h'
    cases h'
    rcases Arf hp with⟨b,c⟩|⟨j,p,b,c,d,e⟩
    ·refine .inl ⟨by rw[b];rfl,fun p hp=>?_⟩
     rcases Nc.1 hp with rfl|hp
     ·exact ha
     ·exact c p hp
    ·refine .inr ⟨j+1,p,by rw[b];rfl,by simpa using c,d,fun i q hi hq=>?_⟩
     cases i with
     | zero=>cases hq;exact ha
     | succ i=>exact e i q (by omega) (by simpa using hq)
  ·cases h'
theorem Aug:∀(a b:List UInt8),xEqS a b=(a==b)
 | [],[]=>rfl
 | [],_::_=>rfl
 | _::_,[]=>rfl
 | x::a,y::b=>by
  show (Bool.rec false (xEqS a b) (Nat.beq x.toNat y.toNat):Bool)=_
  rw[Ayl,Aug a b]
  by_cases h:x.toNat=y.toNat
  ·rw[if_pos h]
   have:x=y:=UInt8.toNat_inj.1 h
   subst this;simp
  ·rw[if_neg h]
   have:x≠y:=fun e=>h (by rw[e])
   simp[this]
theorem Avl:∀{ks:List IntKind} {a b:List CV},eqF ks a b=some true→a=b
 | [],a,b,h=>by
  replace h:eqF0 a b=some true:=h
  unfold eqF0 at h
  split at h
  ·rfl
  ·cases h
 | k::ks,a,b,h=>by
  obtain⟨p,x,q,y,r',rfl,rfl,d,c⟩:=Akz h
  have c:=c.symm
  rw[Tj]at c
  rw[c.2]at d
  rw[Avl d,eq_of_beq c.1]
theorem Aqk:∀{ks:List IntKind} {a b:List CV} {r:Bool} {v w:List Value},eqF ks a b=some r→VR R a v→VR R a w→v=w
 | [],a,b,r,v,w,h,h1,h2=>by
  replace h:eqF0 a b=some r:=h
  unfold eqF0 at h
  split at h
  ·cases h1;cases h2;rfl
  ·cases h
 | k::ks,a,b,r,v,w,h,h1,h2=>by
  obtain⟨p,x,q,y,r',rfl,rfl,g,i⟩:=Akz h
  match v,w,h1,h2 with
  | v0::v,w0::w,h1,h2 =>
   obtain⟨c,d⟩:=VR.cons_iff.1 h1
   obtain⟨e,f⟩:=VR.cons_iff.1 h2
   rw[Yk c,Yk e,Aqk g d f]
theorem Bnq{s a b}(h:eqM .str (.s s) a=some b):∃q,a = .s q∧xEqS s q=b:=by
 cases a<;>first|exact⟨_,rfl,Option.some.inj h⟩|cases h
theorem Bhx{ks a c b}(h:eqM (.flat ks) (.g a) c=some b):∃q,c = .g q∧eqF ks a q=some b:=by
 cases c<;>first|exact⟨_,rfl,h⟩|cases h
/-- Equal keys are one value. -/
theorem Bhy{k a v w}(h:eqM mk k a=some true)(hv:V1 R k v)(hw:V1 R a w):w=v:=by
 unfold eqM at h
 split at h
 ·rename_i p q
  rw[Aug]at h
  have:p=q:=by simpa using h
  subst this
  rw[Axr hv,Axr hw]
 ·rename_i ks p q
  have:=Avl h
  subst this
  obtain⟨v',b,c⟩:=Apr hv
  obtain⟨w',d,e⟩:=Apr hw
  rw[c,e,Aqk h b d]
 ·cases h
/-- The keys before j differ from this one;the one at j does not (or there is none). -/
def Before(mk:MK)(k:CV)(es:List (CV×CV))(j:Nat):Prop:=∀(i:Nat) q,i<j→es[i]?=some q→eqM mk k q.1=some false
theorem Asj{kt:TypeId}(hkt:P.underlying kt=some .string){s:List UInt8}{Q:Option (Nat×Value)→Own→Prop}:∀(es:List (CV×CV)) (en:List MapEntry) (i:Nat),VR R (es.map Prod.fst) (en.map MapEntry.key) →
  ((∀p∈es,eqM .str (.s s) p.1=some false)→Instr.findNow .string (.string ⟨s.toArray⟩) en i=some none) ∧
  (∀j p,es[j]?=some p→eqM .str (.s s) p.1=some true→Before .str (.s s) es j→∃e,en[j]?=some e∧Instr.findNow .string (.string ⟨s.toArray⟩) en i=some (some (i+j,e.val)))
 | [],[],i,_=>⟨fun _=>rfl,fun j p h=>by cases h⟩
 | (a,v)::es,e::en,i,h=>by
  rw[Qc,Qc]at h
  obtain⟨h1,h2⟩:=VR.cons_iff.1 h
  obtain⟨l,m⟩:=Asj hkt (s:=s) (Q:=Q) es en (i+1) h2
  have c:∀{b:Bool},eqM .str (.s s) a=some b→Instr.sameNow .string (.string ⟨s.toArray⟩) e.key=some b:=fun {b} hb=>by
   obtain⟨q,rfl,hq⟩:=Bnq hb
   rw[Axr h1]
   simp only[Instr.sameNow]
   rw[Aec,ByteArray.toList_eq,ByteArray.toList_eq]
   rw[Aug]at hq
   simpa using hq
  refine⟨fun d=>?_,fun j p hj ht hb=>?_⟩
  ·simp only[Instr.findNow,c (d (a,v) mC)]
   exact l fun p hp=>d p (lZ7 _ hp)
  ·cases j with
   | zero =>
    cases hj
    exact⟨e,rfl,by simp only[Instr.findNow,c ht,Ato]⟩
   | succ j =>
    obtain⟨f,g,k⟩:=m j p (by simpa using hj) ht fun i' q hi hq=>hb (i'+1) q (by omega) (by simpa using hq)
    refine⟨f,by simpa using g,?_⟩
    simp only[Instr.findNow,c (hb 0 (a,v) (by omega) rfl)]
    rw[k];congr 3;omega
 | [],_::_,_,h=>absurd h.len (by simp)
 | _::_,[],_,h=>absurd h.len (by simp)
theorem Axv{kt:TypeId}{ks:List IntKind}(hf:flatT P kt=some ks){a:List CV}{av:List Value}(hav:VR R a av):∀(es:List (CV×CV)) (en:List MapEntry) (i:Nat) (Q:Option (Nat×Value)→Own→Prop),VR R (es.map Prod.fst) (en.map MapEntry.key) →
  ((∀p∈es,eqM (.flat ks) (.g a) p.1=some false)→Q none σ→wpS P ρ (Instr.findAsking kt (.agg av.toArray) en i) σ Q) ∧
  (∀j p,es[j]?=some p→eqM (.flat ks) (.g a) p.1=some true→Before (.flat ks) (.g a) es j→∃e,en[j]?=some e∧(Q (some (i+j,e.val)) σ→wpS P ρ (Instr.findAsking kt (.agg av.toArray) en i) σ Q))
 | [],[],i,Q,_=>⟨fun _ hq=>hq,fun j p h=>by cases h⟩
 | (b,v)::es,e::en,i,Q,h=>by
  rw[Qc,Qc]at h
  obtain⟨h1,h2⟩:=VR.cons_iff.1 h
  obtain⟨u,w⟩:=Axv hf hav es en (i+1) Q h2
  obtain⟨fs,m,n,z,t⟩:=Aei hf
  have c:∀{r:Bool},eqM (.flat ks) (.g a) b=some r→∀{Q':Bool→Own→Prop},Q' r σ→wpS P ρ (Op.equal kt (.agg av.toArray) e.key) σ Q':=fun {r} hb {Q'} hq=>by
   obtain⟨q,rfl,hb⟩:=Bhx hb
   obtain⟨bv,o1,f⟩:=Apr h1
   rw[f]
   obtain⟨ps,qs,x,y⟩:=Ala fs.toList 0 ks a q av bv r t hb hav o1
   refine Ms (d:=9998) (fs:=fs.toList) (by rw[Alu];exact m) n x ?_
   rw[←y];exact hq
  refine⟨fun k hq=>?_,fun j p hj ht hb=>?_⟩
  ·show wpS P ρ ((Op.equal kt (.agg av.toArray) e.key).bind _) σ Q
   rw[Ad]
   refine c (k (b,v) mC) ?_
   exact u (fun p hp=>k p (lZ7 _ hp)) hq
  ·cases j with
   | zero =>
    cases hj
    refine⟨e,rfl,fun hq=>?_⟩
    show wpS P ρ ((Op.equal kt (.agg av.toArray) e.key).bind _) σ Q
    rw[Ad]
    exact c ht hq
   | succ j =>
    obtain⟨l,o1,f⟩:=w j p (by simpa using hj) ht fun i' q hi hq=>hb (i'+1) q (by omega) (by simpa using hq)
    refine⟨l,by simpa using o1,fun hq=>?_⟩
    show wpS P ρ ((Op.equal kt (.agg av.toArray) e.key).bind _) σ Q
    rw[Ad]
    refine c (hb 0 (b,v) (by omega) rfl) ?_
    refine f ?_
    rw[show i+1+j=i+(j+1) by omega];exact hq
 | [],_::_,_,_,h=>absurd h.len (by simp)
 | _::_,[],_,_,h=>absurd h.len (by simp)
theorem Alz{kt}(h:mapKind P kt=some mk):(P.underlying kt=some .string∧mk = .str)∨∃ks,flatT P kt=some ks∧mk = .flat ks:=by
 unfold mapKind at h
 split at h
 ·rename_i hk;cases h;exact .inl ⟨hk,rfl⟩
 ·split at h
  ·rename_i ks hf;cases h;exact .inr ⟨ks,hf,rfl⟩
  ·cases h
 ·cases h
/-- A key is looked for. -/
theorem Afl{kt}(hk:mapKind P kt=some mk){k kv}(hkv:V1 R k kv)(hok:keyOk mk k=true){es en}(hes:VR R (es.map Prod.fst) (en.map MapEntry.key))(Q:Option (Nat×Value)→Own→Prop):
  ((∀p∈es,eqM mk k p.1=some false)→Q none σ→wpS P ρ (Instr.findKey kt kv en) σ Q) ∧
  (∀j p,es[j]?=some p→eqM mk k p.1=some true→Before mk k es j→∃e,en[j]?=some e∧(Q (some (j,e.val)) σ→wpS P ρ (Instr.findKey kt kv en) σ Q)):=by
 rcases Alz hk with⟨b,rfl⟩|⟨ks,b,rfl⟩
 ·unfold keyOk at hok
  split at hok
  ·rename_i s _
   have:=Axr hkv
   subst this
   obtain⟨f,g⟩:=Asj (P:=P) (R:=R) (Q:=Q) b (s:=s) es en 0 hes
   refine⟨fun h hq=>?_,fun j p hj ht hb=>?_⟩
   ·show wpS P ρ ((underlying kt).bind _) σ Q
    rw[Ad]
    refine Az b ?_
    simp only[f h]
    exact hq
   ·obtain⟨d,o1,n⟩:=g j p hj ht hb
    refine⟨d,o1,fun hq=>?_⟩
    show wpS P ρ ((underlying kt).bind _) σ Q
    rw[Ad]
    refine Az b ?_
    simp only[n,Zp]
    exact hq
  ·cases ‹MK.str=MK.flat _›
  ·cases hok
 ·unfold keyOk at hok
  split at hok
  ·cases ‹MK.flat _=MK.str›
  ·rename_i ks' a c
   cases c
   obtain⟨av,o1,rfl⟩:=Apr hkv
   obtain⟨f,g⟩:=Axv (ρ:=ρ) (σ:=σ) b o1 es en 0 Q hes
   obtain⟨fs,m,_⟩:=Aei b
   have hne:∀c l,Instr.findNow (.struct fs) (.agg av.toArray) (c::l) 0=none:=fun c l=>rfl
   have i:wpS P ρ (Instr.findAsking kt (.agg av.toArray) en 0) σ Q→wpS P ρ (Instr.findKey kt (.agg av.toArray) en) σ Q:=fun hq=>by
    show wpS P ρ ((underlying kt).bind _) σ Q
    rw[Ad]
    refine Az m ?_
    cases en with
    | nil=>exact hq
    | cons c l=>simp only[hne];exact hq
   refine⟨fun h hq=>i (f h hq),fun j p hj ht hb=>?_⟩
   obtain⟨d,q,t⟩:=g j p hj ht hb
   refine⟨d,q,fun hq=>i (t (by rw[Zp];exact hq))⟩
  ·cases hok
theorem Acr{xs ys:Array Value}{d:Nat}{em:Bool}{K:PUnit→Own→Prop}:∀(fs:List Field) (ps qs:List Int),EqF P xs ys fs ps qs→K PUnit.unit σ →
  wpS P ρ (forIn fs PUnit.unit fun (f:Field) (_:PUnit) =>
   if f.name ≠ "_" then do
    Instr.checkKey em (d+1) f.type (←part f.type xs f.offset)
    pure (ForInStep.yield PUnit.unit)
   else pure (ForInStep.yield PUnit.unit)) σ K
 | [],[],[],_,h=>h
 | f::fs,p::ps,q::qs,⟨⟨hn,k,hT,hx,hy⟩,hr⟩,h=>by
  rw[List.forIn_cons]
  show wpS P ρ (Sem.bind _ _) σ K
  rw[Ad,if_pos hn]
  show wpS P ρ ((part f.type xs f.offset).bind _) σ _
  rw[Ad]
  refine Qr ⟨_,hT,rfl⟩ hx ?_
  show wpS P ρ (Sem.bind (Instr.checkKey em (d+1) f.type (.int k p)) _) σ _
  rw[Ad]
  show wpS P ρ ((underlying f.type).bind _) σ _
  rw[Ad]
  refine Az hT ?_
  exact Acr fs ps qs hr h
 | [],[],_::_,h,_=>h.elim
 | [],_::_,_,h,_=>h.elim
 | _::_,[],_,h,_=>h.elim
 | _::_,_::_,[],h,_=>h.elim
/-- A key may be one. -/
theorem Ash{kt}(hk:mapKind P kt=some mk){k kv}(hkv:V1 R k kv)(hok:keyOk mk k=true){em Q}(h:Q () σ):wpS P ρ (Instr.checkKey em 10000 kt kv) σ Q:=by
 rcases Alz hk with⟨b,rfl⟩|⟨ks,b,rfl⟩
 ·unfold keyOk at hok
  split at hok
  ·have:=Axr hkv
   subst this
   exact Qo (m:=9999) b h
  ·cases ‹MK.str=MK.flat _›
  ·cases hok
 ·unfold keyOk at hok
  split at hok
  ·cases ‹MK.flat _=MK.str›
  ·rename_i ks' a e0
   cases e0
   obtain⟨av,o1,rfl⟩:=Apr hkv
   obtain⟨fs,e,i,j,f⟩:=Aei b
   obtain⟨r,hr⟩:=Biv.1 hok
   obtain⟨ps,qs,g,l⟩:=Ala fs.toList 0 ks a a av av r f hr o1 o1
   show wpS P ρ ((underlying kt).bind _) σ Q
   rw[Ad]
   refine Az e ?_
   have c:fs=fs.toList.toArray:=by simp
   rw[c]
   simp only[Bca]
   show wpS P ρ (Sem.bind (forIn fs.toList _ _) _) σ Q
   rw[Ad]
   exact Acr (d:=9998) fs.toList ps qs g h
  ·cases hok
end
end
section
open Go
section
variable{P:Program}{R:XR}{e:Tr CV}{e':Env}{m m':Mem}{x:CV}{ρ:Ro}{σ σ₀:Own}{L:List (Nat×Nat×Res)}{G:Own}{t:TypeId}{mk:MK}
/-- What the run says of an operation that reads: what it yields wherever that is as it was. -/
def Bbj(P:Program)(o:Op):Prop:=∀R e e' m x k,EnvR R e e'→Adr R→(opK P o).run e m = .rd x k →
 ∀R₁ m₁ ρ σ σ₀,MemX R₁ m₁ ρ σ σ₀→m₁.obj k=m.obj k→R₁ k=R k→∃v,V1 R₁ x v∧∀dd ty pos af g,wpS P ρ (execOp (Af e') ⟨dd,o,ty,pos,af,g⟩) σ (fun nx σ'=>nx = .value v∧σ'=σ)
theorem Ahu{x y k j}(h:OR.rd x k = .rd y j):x=y∧k=j:=by cases h;exact⟨rfl,rfl⟩
theorem Atu(m:Mem)(k:Nat):m.row k=(match m.obj k with|some o=>xRowO o|none=>none):=by
 unfold Mem.row Mem.obj
 cases m.M.get k with
 | none=>rfl
 | some c=>cases c<;>rfl
theorem Bfo{m₁:Mem}{k}(h:m₁.obj k=m.obj k):m₁.row k=m.row k:=by rw[Atu,Atu,h]
theorem Avv{R₁:XR}:∀{ks:List IntKind} {a b:List CV} {l:List Value},(eqF ks a b).isSome=true→VR R a l→VR R₁ a l
 | [],a,b,l,h,hv=>by
  have h':(eqF0 a b).isSome=true:=h
  unfold eqF0 at h'
  split at h'
  ·cases hv;exact .nil
  ·cases h'
 | k::ks,a,b,l,h,hv=>by
  have h':(eqF1 k (eqF ks) a b).isSome=true:=h
  unfold eqF1 at h'
  split at h'
  ·split at h'
   ·split at h'
    ·rename_i hx
     cases hv with
     | i k n hv=>exact .i _ _ (Avv (by rw[hx];rfl) hv)
    ·cases h'
   ·cases h'
  ·cases h'
theorem Bod{R₁ y v}(h:keyOk mk y=true)(hv:V1 R y v):V1 R₁ y v:=by
 unfold keyOk at h
 split at h
 ·cases hv with
  | s x hv=>cases hv;exact .s _ .nil
 ·cases hv with
  | g h1 h2=>cases h2;exact .g (Avv h h1) .nil
 ·cases h
noncomputable def loadM(P:Program)(t:TypeId)(a:CV)(m:Mem):OR:=match a with
 | .p k off=>match m.row k with
  | some l=>match (partK P t).run (xDrp off l) with|some v=>.rd v k|none=>.bad
  | none=>.bad
 | _=>.bad
theorem Ber(t:TypeId)(a:Operand):Bbj P (.load t a):=fun R e e' m x k he hg h R₁ m₁ ρ σ σ₀ hm ho B=>by
 have ha:=Hd he hg a
 have D:∀m,(opK P (.load t a)).run e m=loadM P t ((rdK a).run e) m:=fun m=>rfl
 rw[D]at h
 unfold loadM at h
 split at h
 ·rename_i k1 off hu
  split at h
  ·rename_i l hl
   split at h
   ·rename_i w hw
    obtain⟨rfl,rfl⟩:=Ahu h
    rw[hu]at ha
    obtain⟨b,c,hR,hav⟩:=Bgh ha
    rw[←B]at hR
    rw[←Bfo ho]at hl
    obtain⟨L,G,hm⟩:=hm
    rw[Aue]at hw
    unfold partK at hw
    split at hw
    ·rename_i hagg
     split at hw
     ·rename_i n hn
      cases hr:xTkn n (l.drop off) with
      | none=>simp only[hr]at hw;cases hw
      | some r =>
       simp only[hr,Option.some.injEq]at hw
       subst hw
       obtain⟨y,z⟩:=Auh _ _ _ hr
       obtain⟨j,p,vs,d,f,i,q,_⟩:=hm.cells (P:=P) hl y z
       rw[hR]at d;cases d
       refine⟨.agg vs.toArray,.g f .nil,fun dd ty pos af g=>?_⟩
       show wpS P ρ ((Instr.loadAt t (Af e' a)).bind fun v=>Sem.pure (Next.value v)) σ _
       rw[Ad,hav]
       show wpS P ρ ((isAgg t).bind _) σ _
       rw[Ad]
       refine Hi (Asn hagg) ?_
       show wpS P ρ ((sizeOf t).bind fun n=>(loadCells ⟨b,off,none⟩ n).bind _) σ _
       rw[Ad]
       refine Dx (Xw hn) ?_
       rw[Ad]
       exact q _ ⟨rfl,rfl⟩
     ·cases hw
    ·rename_i hagg
     have hw':(match l.drop off with|v::_=>some v|[]=>none)=some w:=hw
     split at hw'
     ·rename_i v rest hd
      cases hw'
      have C:[w]=(l.drop off).take 1:=by rw[hd];rfl
      obtain⟨j,p,vs,d,f,i,_,u⟩:=hm.cells (P:=P) (n:=1) hl (by rw[hd];simp) C
      rw[hR]at d;cases d
      obtain⟨v',rfl⟩:∃v',vs=[v']:=by
       match vs,i with
       | [v'],_=>exact⟨v',rfl⟩
      refine⟨v',f,fun dd ty pos af g=>?_⟩
      show wpS P ρ ((Instr.loadAt t (Af e' a)).bind fun v=>Sem.pure (Next.value v)) σ _
      rw[Ad,hav]
      show wpS P ρ ((isAgg t).bind _) σ _
      rw[Ad]
      refine Hi (Asn hagg) ?_
      exact u v' rfl _ ⟨rfl,rfl⟩
     ·cases hw'
    ·cases hw
   ·cases h
  ·cases h
 ·cases h
/-- A map that may be read. -/
theorem MemR.map(hm:MemR R m ρ σ σ₀ L G){k es}(hk:m.obj k=some (.map es)):∃b c en ck,R k=some (b,c)∧Has ρ σ b (.map (List.toArray en) ck)∧VR R (es.map Prod.fst) (en.map MapEntry.key)∧VR R (es.map Prod.snd) (en.map MapEntry.val):=by
 unfold Mem.obj at hk
 cases hg:m.M.get k with
 | none=>rw[hg]at hk;cases hk
 | some c0 =>
  rw[hg]at hk
  cases c0 with
  | own o =>
   cases hk
   obtain⟨b,c,r,i,d,e,a,j⟩:=hm.at hg (by simp)
   cases a with
   | map g1 g2=>exact⟨b,c,_,_,d,.inr (lZ8 e),g1,g2⟩
  | ro o =>
   cases hk
   obtain⟨b,c,x,d,e,f,a⟩:=hm.ro k _ hg
   cases x with
   | cells cs t' f'=>exact absurd a (fun h=>by cases h)
   | map en ck =>
    have g:ObjR R c (.map es) (.obj (.map en ck)):=a
    cases g with
    | map g1 g2=>exact⟨b,c,_,_,d,.inl e,g1,g2⟩
   | _=>exact absurd a (fun h=>by cases h)
noncomputable def lookM(mk:MK)(z:CV)(ok:Bool)(a y:CV)(m:Mem):OR:=match a with
 | .m k=>match m.obj k,keyOk mk y with
  | some (.map es),true=>match findX mk y es with
   | some (some v)=>.rd (match ok with|true=>.t [v,.b true]|false=>v) k
   | some none=>.rd (match ok with|true=>.t [z,.b false]|false=>z) k
   | none=>.bad
  | _,_=>.bad
 | _=>.bad
theorem Avs(t:TypeId)(a y:Operand)(ok:Bool):Bbj P (.lookup t a y ok):=fun R e e' m x k he hg h R₁ m₁ ρ σ σ₀ hm ho N=>by
 have ha:=Hd he hg a
 have U:=Hd he hg y
 have c:=h
 unfold opK at h
 simp only at h
 split at h
 ·rename_i kt el hT
  split at h
  ·rename_i mk z hk hz
   have T:∀m,(opK P (.lookup t a y ok)).run e m=lookM mk z ok ((rdK a).run e) ((rdK y).run e) m:=fun m=>by
    unfold opK;simp only[hT,hk,hz];rfl
   rw[T]at c
   clear h
   unfold lookM at c
   split at c
   ·rename_i k1 hu
    split at c
    ·rename_i es hes hok
     rw[hu]at ha
     obtain⟨bb,cc,hR,hav⟩:=Bwa ha
     have O:k1=k:=by
      split at c
      ·exact(Ahu c).2
      ·exact(Ahu c).2
      ·cases c
     subst O
     have hy:V1 R₁ ((rdK y).run e) (Af e' y):=Bod hok U
     rw[←N]at hR
     rw[←ho]at hes
     obtain⟨L,G,hm⟩:=hm
     obtain⟨W,X,en,ck,q,I,B,J⟩:=hm.map hes
     rw[hR]at q;cases q
     obtain⟨zv,hzv,rfl⟩:=Xa hz
     have F:∀(v:Value) dd ty pos af g,(wpS P ρ (Instr.findKey kt (Af e' y) en) σ fun r σ'=>σ'=σ∧(match r with|some (_,w)=>(if ok=true then Value.tuple #[w,.bool true] else w)=v|none=>(if ok=true then Value.tuple #[zv,.bool false] else zv)=v)) →
       wpS P ρ (execOp (Af e') ⟨dd,.lookup t a y ok,ty,pos,af,g⟩) σ (fun nx σ'=>nx = .value v∧σ'=σ):=fun v dd ty pos af g hf=>by
      show wpS P ρ ((Instr.lookup t (Af e' a) (Af e' y) ok).bind fun v=>Sem.pure (Next.value v)) σ _
      rw[Ad,hav]
      show wpS P ρ ((underlying t).bind _) σ _
      rw[Ad]
      refine Az hT ?_
      show wpS P ρ ((getObj bb).bind _) σ _
      rw[Ad]
      refine⟨_,I,rfl,?_⟩
      show wpS P ρ ((Instr.checkKey en.toArray.isEmpty 10000 kt _).bind _) σ _
      rw[Ad]
      refine Ash hk hy hok ?_
      show wpS P ρ ((Instr.findKey kt (Af e' y) en).bind _) σ _
      rw[Ad]
      refine Eu ?_ _ _ hf
      rintro r σ' ⟨rfl,hr⟩
      cases r with
      | none =>
       show wpS P ρ ((zeroValue el).bind _) _ _
       rw[Ad]
       refine Jz hzv ?_
       simp only at hr
       rw[←hr]
       exact⟨rfl,rfl⟩
      | some p =>
       simp only at hr
       rw[←hr]
       exact⟨rfl,rfl⟩
     split at c
     ·rename_i v hf
      obtain⟨rfl,_⟩:=Ahu c
      rcases Ada hf with⟨d,_⟩|⟨j,p,d,C,K,M⟩
      ·cases d
      ·cases d
       have o0:=fun (w:Value)=>(Afl (ρ:=ρ) (σ:=σ) hk hy hok B (fun r σ'=>σ'=σ∧(match r with|some (_,u)=>(if ok=true then Value.tuple #[u,.bool true] else u)=w|none=>(if ok=true then Value.tuple #[zv,.bool false] else zv)=w))).2 j p C K M
       obtain⟨f,o1,_⟩:=o0 undef
       have i:_:=(o0 (if ok=true then .tuple #[f.val,.bool true] else f.val))
       obtain⟨l,E,V⟩:=i
       rw[o1]at E
       cases E
       have hv:V1 R₁ p.2 f.val:=by
        have l:(es.map Prod.snd)[j]?=some p.2:=by rw[Vl,C];rfl
        obtain⟨v',n,H⟩:=J.at l
        rw[Vl,o1]at n
        cases n;exact H
       refine⟨if ok=true then .tuple #[f.val,.bool true] else f.val,?_,fun dd ty pos af g=>F _ dd ty pos af g (V ⟨rfl,rfl⟩)⟩
       cases ok with
       | true=>exact .t (VR.cons_iff.2 ⟨hv,.b _ .nil⟩) .nil
       | false=>exact hv
     ·rename_i hf
      obtain⟨rfl,_⟩:=Ahu c
      rcases Ada hf with⟨_,d⟩|⟨j,p,d,_⟩
      ·have i:=(Afl (ρ:=ρ) (σ:=σ) hk hy hok B (fun r σ'=>σ'=σ∧(match r with|some (_,w)=>(if ok=true then Value.tuple #[w,.bool true] else w)=(if ok=true then Value.tuple #[zv,.bool false] else zv)|none=>(if ok=true then Value.tuple #[zv,.bool false] else zv)=(if ok=true then Value.tuple #[zv,.bool false] else zv)))).1 d ⟨rfl,rfl⟩
       refine⟨if ok=true then .tuple #[zv,.bool false] else zv,?_,fun dd ty pos af g=>F _ dd ty pos af g i⟩
       have D:=vOf R₁ zv
       cases ok with
       | true=>exact .t (VR.cons_iff.2 ⟨D,.b _ .nil⟩) .nil
       | false=>exact D
      ·cases d
     ·cases c
    ·cases c
   ·cases c
  ·cases h
 ·cases h
theorem Alj(t:TypeId)(a y z:Operand):Ps P (.mapUpdate t a y z):=fun R e e' m x m' he hg h=>by
 have ha:=Hd he hg a
 have hy:=Hd he hg y
 have hz:=Hd he hg z
 unfold opK at h
 simp only at h
 split at h
 ·rename_i kt el hT
  split at h
  ·rename_i mk hk
   have h':(match (rdK a).run e with
    | .m k=>match m.M.get k,keyOk mk ((rdK y).run e) with
     | some (.own (.map es)),true=>match putX mk ((rdK y).run e) ((rdK z).run e) es with
      | some es=>OR.v .undef (m.put k (.map es))
      | none=>.bad
     | _,_=>.bad
    | _=>.bad) = .v x m':=h
   split at h'
   ·rename_i k hu
    split at h'
    ·rename_i es hes hok
     split at h'
     ·rename_i es2 hp
      obtain⟨rfl,rfl⟩:=Pr h'
      rw[hu]at ha
      obtain⟨bb,cc,hR,hav⟩:=Bwa ha
      refine .inr ⟨.put _ _ _,fun hx=>(by cases hx),fun ρ σ σ₀ dd ty pos af g hm=>?_⟩
      obtain⟨L,G,hm⟩:=hm
      obtain⟨N,O,rs,i,u,d,H,w⟩:=hm.at hes (by simp)
      rw[hR]at u;cases u
      cases H with
      | @map _ en ck g3 g4 =>
       show wpS P ρ ((Instr.mapUpdate t (Af e' a) (Af e' y) (Af e' z)).bind fun _=>Sem.pure Next.skip) σ _
       rw[Ad,hav]
       show wpS P ρ ((underlying t).bind _) σ _
       rw[Ad]
       refine Az hT ?_
       show wpS P ρ ((getObj bb).bind _) σ _
       rw[Ad]
       refine⟨_,.inr (lZ8 d),rfl,?_⟩
       show wpS P ρ ((Instr.checkKey false 10000 kt _).bind _) σ _
       rw[Ad]
       refine Ash hk hy hok ?_
       show wpS P ρ ((Instr.findKey kt (Af e' y) en).bind _) σ _
       rw[Ad]
       rcases Arf hp with⟨rfl,f⟩|⟨j,p,rfl,f,B,K⟩
       ·refine(Afl hk hy hok g3 _).1 f ?_
        refine⟨rfl,i,_,d,rfl,?_⟩
        refine⟨R,undef,.refl,.inr ⟨rfl,rfl⟩,.t .nil .nil,hm.put w hR d ?_⟩
        have b:(en.toArray.push ({key:=Af e' y,val:=Af e' z,born:=ck}:MapEntry))=(en++[({key:=Af e' y,val:=Af e' z,born:=ck}:MapEntry)]).toArray:=by simp
        rw[b]
        refine .map ?_ ?_
        ·rw[Ql,Ql];exact g3.app hy
        ·rw[Ql,Ql];exact g4.app hz
       ·obtain⟨b,o1,J⟩:=(Afl (ρ:=ρ) (σ:=σ) hk hy hok g3 _).2 j p f B K
        refine J ?_
        have I:V1 R p.1 b.key:=by
         have D:(es.map Prod.fst)[j]?=some p.1:=by rw[Vl,f];rfl
         obtain⟨v',q,F⟩:=g3.at D
         rw[Vl,o1]at q
         cases q;exact F
        have hke:=Bhy B hy I
        have hgj:en.toArray[j]?=some b:=by rw[Qx];exact o1
        show wpS P ρ ((Instr.keyThatStays (((en.toArray[j]?).map (·.key)).getD _) _).bind _) σ _
        rw[Ad,hgj]
        refine Xt hke ?_
        refine⟨rfl,i,_,d,rfl,?_⟩
        refine⟨R,undef,.refl,.inr ⟨rfl,rfl⟩,.t .nil .nil,hm.put w hR d ?_⟩
        have E:(en.toArray.modify j fun e=>{e with key:=Af e' y,val:=Af e' z})=(en.set j {b with key:=Af e' y,val:=Af e' z}).toArray:=by
         apply Array.ext'
         rw[Array.toList_modify]
         apply Awg
         intro n
         rw[List.getElem?_modify,Apm]
         by_cases hn:j=n
         ·subst hn
          have hj:=(Mq.1 o1).2
          simp[o1,(Mq.1 o1).1,hj]
         ·simp[hn]
        rw[E]
        have C:∀{l:List CV} {l':List Value} {c:CV} {v:Value},VR R l l'→V1 R c v→VR R (l.set j c) (l'.set j v):=fun {l l' c v} hl hc=>by
         have g:=hl.len
         by_cases hj:j<l.length
         ·rw[Bqj,Bqj,if_pos hj,if_pos (by omega)]
          exact(hl.take j).app (VR.cons_iff.2 ⟨hc,hl.drop (j+1)⟩)
         ·rw[List.set_eq_of_length_le (by omega),List.set_eq_of_length_le (by omega)];exact hl
        refine .map ?_ ?_
        ·rw[Aqs,Aqs];exact C g3 hy
        ·rw[Aqs,Aqs];exact C g4 hz
     ·cases h'
    ·cases h'
   ·cases h'
  ·cases h
 ·cases h
def Bac:OR→Prop
 | .v _ _=>False
 | _=>True
def Bst:OR→Prop
 | .rd _ _=>False
 | _=>True
theorem Mb{o}(h:∀e m,Bac ((opK P o).run e m)):Ps P o:=fun R e e' m x m' _ _ he=>by have:=h e m;rw[he]at this;exact this.elim
theorem Aga{o}(h:∀e m,Bst ((opK P o).run e m)):Bbj P o:=fun R e e' m x k _ _ he=>by have:=h e m;rw[he]at this;exact this.elim
theorem Ayt(f:CV)(args:List CV):Bac (callK P f args):=by
 unfold callK
 split
 ·split<;>trivial
 ·trivial
 ·trivial
theorem Akq(f:CV)(args:List CV):Bst (callK P f args):=by
 unfold callK
 split
 ·split<;>trivial
 ·trivial
 ·trivial
theorem Bkg(o:Op):Ps P o:=by
 cases o with
 | move a=>exact Bes a
 | assign a=>exact Avr a
 | pick c a b=>exact Bet c a b
 | alloc t=>exact Azj t
 | box t a=>exact Bil t a
 | build t ps=>exact Azk t ps
 | buildSlice t n ps=>exact Aij t n ps
 | load t a =>
  refine Mb fun e m=>?_
  show Bac (loadM P t ((rdK a).run e) m)
  unfold loadM
  split
  ·split
   ·split<;>trivial
   ·trivial
  ·trivial
 | store t a v=>exact Azo t a v
 | nilCheck a=>exact Apd a
 | binOp op t a b t'=>exact Bik op t a b t'
 | unOp op t a =>
  cases op with
  | not=>exact Bim t a
  | _=>exact Mb fun e m=>trivial
 | convert s d a=>exact Azl s d a
 | makeFunc f xs ys =>
  cases f with
  | func f=>exact Apc f xs ys
  | _=>exact Mb fun e m=>trivial
 | makeMap t r =>
  cases r with
  | none=>exact Ati t
  | some r=>exact Mb fun e m=>trivial
 | makeChan t s=>exact Apb t s
 | fieldAddr t a i=>exact Alg t a i
 | indexAddr t a b=>exact Ali t a b
 | index t a b=>exact Azm t a b
 | lookup t a y ok =>
  refine Mb fun e m=>?_
  unfold opK
  simp only
  split
  ·split
   ·rename_i mk z _ _
    show Bac (lookM mk z ok ((rdK a).run e) ((rdK y).run e) m)
    unfold lookM
    split
    ·split
     ·split<;>trivial
     ·trivial
    ·trivial
   ·trivial
  ·trivial
 | mapUpdate t a y z=>exact Alj t a y z
 | slice t a lo hi mx =>
  cases lo with
  | none=>exact Mb fun e m=>trivial
  | some lo =>
   cases hi with
   | none =>
    cases mx with
    | none=>exact Azn t a lo
    | some mx=>exact Mb fun e m=>trivial
   | some hi=>exact Mb fun e m=>trivial
 | extract a i=>exact Ath a i
 | call c =>
  cases hc:c.callee with
  | builtin b=>exact Atg c b hc
  | value f =>
   refine Mb fun e m=>?_
   unfold opK
   simp only[hc]
   exact Ayt _ _
  | invoke r n =>
   refine Mb fun e m=>?_
   unfold opK
   simp only[hc]
   trivial
 | go c =>
  refine Mb fun e m=>?_
  unfold opK
  simp only
  split<;>trivial
 | defer c =>
  refine Mb fun e m=>?_
  unfold opK
  simp only
  split
  ·rename_i t _ _
   show Bac (match e.get t with|some x=>.dclose x|none=>.bad)
   split<;>trivial
  ·trivial
 | send a b =>
  refine Mb fun e m=>?_
  show Bac (match (rdK a).run e with | .c k=>.send k ((rdK b).run e)|_=>.bad)
  split<;>trivial
 | recv t a ok =>
  refine Mb fun e m=>?_
  unfold opK
  simp only
  split
  ·split
   ·show Bac (match (rdK a).run e with | .c k=>.recv k ok|_=>.bad)
    split<;>trivial
   ·trivial
  ·trivial
 | _=>exact Mb fun e m=>trivial
end
end
section
open Go
section
variable{P:Program}{R:XR}{e:Tr CV}{e':Env}{m m':Mem}{x:CV}{ρ:Ro}{σ σ₀:Own}
def Afd:OR→Prop
 | .v _ _=>True
 | .rd _ _=>True
 | .bad=>True
 | _=>False
def simpleRd:OR→Prop
 | .v _ _=>True
 | .bad=>True
 | _=>False
theorem simpleRd.s{y}(h:simpleRd y):Afd y:=by cases y<;>first|trivial|exact h.elim
theorem simpleRd.r{y}(h:simpleRd y):Bst y:=by cases y<;>first|trivial|exact h.elim
theorem Bds(n:Nat)(args:List CV)(m:Mem):simpleRd ((appendK n).run args m):=by
 unfold appendK
 dsimp only
 repeat' (first|trivial|split)
theorem Aym(b:Builtin)(ts:List TypeId)(args:List CV)(m:Mem):simpleRd ((builtinK P b ts).run args m):=by
 unfold builtinK
 split
 all_goals repeat' (first|trivial|exact Bds _ _ _|(dsimp only;split)|split)
/-- What is not simple. -/
def Bio:Op→Bool
 | .call {callee:=.value _,..}=>true
 | .go _ | .defer _ | .send .. | .recv ..=>true
 | _=>false
def reads:Op→Bool
 | .load .. | .lookup ..=>true
 | _=>false
theorem Bke(o:Op)(h1:Bio o=false)(h2:reads o=false)(e:Tr CV)(m:Mem):simpleRd ((opK P o).run e m):=by
 cases o with
 | call c =>
  unfold opK
  dsimp only
  split
  ·dsimp only;exact Aym _ _ _ _
  ·rename_i hc;obtain⟨a,b,cc⟩:=c;simp only at hc;subst hc;cases h1
  ·trivial
 | go c=>cases h1
 | defer c=>cases h1
 | send a b=>cases h1
 | recv t a ok=>cases h1
 | load t a=>cases h2
 | lookup t a y ok=>cases h2
 | unOp op t a=>cases op<;>(unfold opK;repeat' (first|trivial|(dsimp only;split)|split))
 | makeFunc f xs ys=>cases f<;>(unfold opK;repeat' (first|trivial|(dsimp only;split)|split))
 | makeMap t r=>cases r<;>(unfold opK;repeat' (first|trivial|(dsimp only;split)|split))
 | slice t a lo hi mx=>cases lo<;>cases hi<;>cases mx<;>(unfold opK;repeat' (first|trivial|(dsimp only;split)|split))
 | extract a i =>
  unfold opK
  dsimp only
  split
  ·unfold xVOf;split<;>trivial
  ·trivial
 | _=>unfold opK;repeat' (first|trivial|(dsimp only;split)|split)
theorem Baf(o:Op):Bbj P o:=by
 by_cases h2:reads o=true
 ·cases o with
  | load t a=>exact Ber t a
  | lookup t a y ok=>exact Avs t a y ok
  | _=>cases h2
 ·by_cases h1:Bio o=true
  ·refine Aga fun e m=>?_
   cases o with
   | call c =>
    unfold opK
    dsimp only
    split
    ·rename_i hc;obtain⟨a,b,cc⟩:=c;simp only at hc;subst hc;cases h1
    ·exact Akq _ _
    ·trivial
   | go c=>unfold opK;dsimp only;split<;>trivial
   | defer c=>unfold opK;dsimp only;split<;>first|trivial|(dsimp only;split<;>trivial)
   | send a b=>unfold opK;dsimp only;split<;>trivial
   | recv t a ok=>unfold opK;dsimp only;repeat' (first|trivial|(dsimp only;split)|split)
   | _=>cases h1
  ·exact Aga fun e m=>(Bke o (by simpa using h1) (by simpa using h2) e m).r
/-- Which operation brings what. -/
theorem Abk{o}(h:¬Afd ((opK P o).run e m)):Bio o=true:=by
 by_cases h1:Bio o=true
 ·exact h1
 ·by_cases h2:reads o=true
  ·exfalso
   apply h
   cases o with
   | load t a =>
    show Afd (loadM P t ((rdK a).run e) m)
    unfold loadM
    repeat' (first|trivial|split)
   | lookup t a y ok =>
    unfold opK
    dsimp only
    split
    ·split
     ·rename_i mk z _ _
      show Afd (lookM mk z ok ((rdK a).run e) ((rdK y).run e) m)
      unfold lookM
      repeat' (first|trivial|split)
     ·trivial
    ·trivial
   | _=>cases h2
  ·exact absurd (Bke o (by simpa using h1) (by simpa using h2) e m).s h
theorem Rx{f args y}(h:callK P f args=y)(hb:y ≠ .bad):
  (∃g xs ys,f = .f g xs ys∧xHasBody P g=true∧y = .enter g (xApp xs (xApp args ys)))∨(∃k,f = .y k∧y = .round k args):=by
 cases f with
 | f g xs ys =>
  have h':(match xHasBody P g with|true=>OR.enter g (xApp xs (xApp args ys))|false=>.bad)=y:=h
  split at h'
  ·rename_i hb;exact .inl ⟨g,xs,ys,rfl,hb,h'.symm⟩
  ·exact absurd h'.symm hb
 | y k=>exact .inr ⟨k,rfl,h.symm⟩
 | _=>exact absurd h.symm hb
theorem Adb{g}(h:xHasBody P g=true):∃fn,P.funcs[g]?=some fn∧(fn.name == "runtime.NumGoroutine")=false∧fn.body.isNone=false:=by
 unfold xHasBody at h
 split at h
 ·rename_i fn hf
  split at h
  ·cases h
  ·rename_i hn
   refine⟨fn,hf,hn,?_⟩
   cases hb:fn.body with
   | none=>rw[hb]at h;cases h
   | some c=>rfl
 ·cases h
theorem Bpm{v g xs ys}(h:V1 R (.f g xs ys) v):∃xs' ys',VR R xs xs'∧VR R ys ys'∧v = .func (.func g) xs'.toArray ys'.toArray:=by
 cases h with|f g h1 h2 _=>exact⟨_,_,h1,h2,rfl⟩
theorem Bww{v k}(h:V1 R (.y k) v):∃b c,R k=some (b,c)∧v = .func (.yield b) #[] #[]:=by
 cases h with|y h1 _=>exact⟨_,_,h1,rfl⟩
/-- A call. -/
theorem Bfj{o f args}(he:EnvR R e e')(hg:Adr R)(h:(opK P o).run e m = .enter f args):
  ∃args',VR R args args'∧∀(Q:Next→Own→Prop) ρ σ dd ty pos af g,Q (.enter f args'.toArray) σ→wpS P ρ (execOp (Af e') ⟨dd,o,ty,pos,af,g⟩) σ Q:=by
 have hh:=Abk (P:=P) (o:=o) (e:=e) (m:=m) (by rw[h];exact id)
 cases o with
 | call c =>
  obtain⟨cal,ops,tys⟩:=c
  cases cal with
  | value x =>
   have h':callK P ((rdK x).run e) ((rdsK ops.toList).run e) = .enter f args:=h
   have hx:=Hd he hg x
   have ha:=Afc he hg ops.toList
   rcases Rx h' (by simp) with⟨g,xs,ys,l,p,i⟩|⟨k,_,i⟩
   ·cases i
    rw[l]at hx
    obtain⟨xs',ys',q,u,hv⟩:=Bpm hx
    obtain⟨fn,hf,hn,hb⟩:=Adb p
    refine⟨xs'++(ops.toList.map (Af e')++ys'),?_,fun Q ρ σ dd ty pos af gd hQ=>?_⟩
    ·rw[Afm,Afm];exact q.app (ha.app u)
    ·show wpS P ρ ((Deferred.ofValue (Af e' x) (ops.map (Af e'))).bind fun d=>invoke d.target d.args) σ Q
     rw[hv]
     show wpS P ρ (callFunc f ((xs'.toArray++ops.map (Af e'))++ys'.toArray)) σ Q
     refine Mr hf hn hb ?_
     have j:(xs'.toArray++ops.map (Af e'))++ys'.toArray=(xs'++(ops.toList.map (Af e')++ys')).toArray:=by
      apply Array.ext'
      simp
     rw[j];exact hQ
   ·cases i
  | builtin b=> cases hh
  | invoke r n=>cases hh
 | go c=>exfalso;unfold opK at h;dsimp only at h;split at h<;>cases h
 | defer c =>
  exfalso;unfold opK at h;dsimp only at h
  split at h
  ·dsimp only at h;split at h<;>cases h
  ·cases h
 | send a b=>exfalso;unfold opK at h;dsimp only at h;split at h<;>cases h
 | recv t a ok =>
  exfalso;unfold opK at h;dsimp only at h
  split at h
  ·split at h
   ·dsimp only at h;split at h<;>cases h
   ·cases h
  ·cases h
 | _=>cases hh
/-- A round of a range over a function. -/
theorem Bfk{o k args}(he:EnvR R e e')(hg:Adr R)(h:(opK P o).run e m = .round k args):
  ∃args' b c,R k=some (b,c)∧VR R args args'∧∀(Q:Next→Own→Prop) ρ σ dd ty pos af g,wpS P ρ (Instr.yield b args'.toArray) σ Q→wpS P ρ (execOp (Af e') ⟨dd,o,ty,pos,af,g⟩) σ Q:=by
 have hh:=Abk (P:=P) (o:=o) (e:=e) (m:=m) (by rw[h];exact id)
 cases o with
 | call c =>
  obtain⟨cal,ops,tys⟩:=c
  cases cal with
  | value x =>
   have h':callK P ((rdK x).run e) ((rdsK ops.toList).run e) = .round k args:=h
   have hx:=Hd he hg x
   have ha:=Afc he hg ops.toList
   rcases Rx h' (by simp) with⟨g,xs,ys,i,l,f⟩|⟨p,i,f⟩
   ·cases f
   ·cases f
    rw[i]at hx
    obtain⟨b,c,hR,hv⟩:=Bww hx
    refine⟨ops.toList.map (Af e'),b,c,hR,ha,fun Q ρ σ dd ty pos af gd hQ=>?_⟩
    show wpS P ρ ((Deferred.ofValue (Af e' x) (ops.map (Af e'))).bind fun d=>invoke d.target d.args) σ Q
    rw[hv]
    show wpS P ρ (Instr.yield b (#[]++ops.map (Af e'))) σ Q
    have j:(#[]++ops.map (Af e'))=(ops.toList.map (Af e')).toArray:=by
     apply Array.ext'
     simp
    rw[j];exact hQ
  | builtin b=>cases hh
  | invoke r n=>cases hh
 | go c=>exfalso;unfold opK at h;dsimp only at h;split at h<;>cases h
 | defer c =>
  exfalso;unfold opK at h;dsimp only at h
  split at h
  ·dsimp only at h;split at h<;>cases h
  ·cases h
 | send a b=>exfalso;unfold opK at h;dsimp only at h;split at h<;>cases h
 | recv t a ok =>
  exfalso;unfold opK at h;dsimp only at h
  split at h
  ·split at h
   ·dsimp only at h;split at h<;>cases h
   ·cases h
  ·cases h
 | _=>cases hh
/-- A goroutine. -/
theorem Bte{o f args}(h:(opK P o).run e m = .go f args):
  ∃x ops tys,o = .go ⟨.value x,ops,tys⟩∧f=(rdK x).run e∧args=(rdsK ops.toList).run e:=by
 have hh:=Abk (P:=P) (o:=o) (e:=e) (m:=m) (by rw[h];exact id)
 cases o with
 | go c =>
  obtain⟨cal,ops,tys⟩:=c
  cases cal with
  | value x =>
   have h':OR.go ((rdK x).run e) ((rdsK ops.toList).run e) = .go f args:=h
   cases h'
   exact⟨x,ops,tys,rfl,rfl,rfl⟩
  | builtin b=>cases h
  | invoke r n=>cases h
 | call c =>
  exfalso
  obtain⟨cal,ops,tys⟩:=c
  cases cal with
  | value x =>
   have h':callK P ((rdK x).run e) ((rdsK ops.toList).run e) = .go f args:=h
   rcases Rx h' (by simp) with⟨_,_,_,_,_,d⟩|⟨_,_,d⟩<;>cases d
  | builtin b=>cases hh
  | invoke r n=>cases hh
 | defer c =>
  exfalso;unfold opK at h;dsimp only at h
  split at h
  ·dsimp only at h;split at h<;>cases h
  ·cases h
 | send a b=>exfalso;unfold opK at h;dsimp only at h;split at h<;>cases h
 | recv t a ok =>
  exfalso;unfold opK at h;dsimp only at h
  split at h
  ·split at h
   ·dsimp only at h;split at h<;>cases h
   ·cases h
  ·cases h
 | _=>cases hh
/-- A receive. -/
theorem Bkd{o k ok}(h:(opK P o).run e m = .recv k ok):
  ∃t x d el z,o = .recv t x ok∧P.underlying t=some (.chan d el)∧Fw P el z∧(rdK x).run e = .c k:=by
 have hh:=Abk (P:=P) (o:=o) (e:=e) (m:=m) (by rw[h];exact id)
 cases o with
 | recv t a ok' =>
  unfold opK at h;dsimp only at h
  split at h
  ·rename_i d el hT
   split at h
   ·rename_i z hz
    dsimp only at h
    split at h
    ·rename_i k1 hk
     cases h
     obtain⟨v,hv,_⟩:=Xa hz
     exact⟨t,a,d,el,v,rfl,hT,hv,hk⟩
    ·cases h
   ·cases h
  ·cases h
 | call c =>
  exfalso
  obtain⟨cal,ops,tys⟩:=c
  cases cal with
  | value x =>
   have h':callK P ((rdK x).run e) ((rdsK ops.toList).run e) = .recv k ok:=h
   rcases Rx h' (by simp) with⟨_,_,_,_,_,f⟩|⟨_,_,f⟩<;>cases f
  | builtin b=>cases hh
  | invoke r n=>cases hh
 | defer c =>
  exfalso;unfold opK at h;dsimp only at h
  split at h
  ·dsimp only at h;split at h<;>cases h
  ·cases h
 | send a b=>exfalso;unfold opK at h;dsimp only at h;split at h<;>cases h
 | go c=>exfalso;unfold opK at h;dsimp only at h;split at h<;>cases h
 | _=>cases hh
/-- A send. -/
theorem Bkf{o k x}(h:(opK P o).run e m = .send k x):
  ∃a b,o = .send a b∧(rdK a).run e = .c k∧(rdK b).run e=x:=by
 have hh:=Abk (P:=P) (o:=o) (e:=e) (m:=m) (by rw[h];exact id)
 cases o with
 | send a b =>
  unfold opK at h;dsimp only at h
  split at h
  ·rename_i k1 hk;cases h;exact⟨a,b,rfl,hk,rfl⟩
  ·cases h
 | recv t a ok =>
  exfalso;unfold opK at h;dsimp only at h
  split at h
  ·split at h
   ·dsimp only at h;split at h<;>cases h
   ·cases h
  ·cases h
 | call c =>
  exfalso
  obtain⟨cal,ops,tys⟩:=c
  cases cal with
  | value y =>
   have h':callK P ((rdK y).run e) ((rdsK ops.toList).run e) = .send k x:=h
   rcases Rx h' (by simp) with⟨_,_,_,_,_,d⟩|⟨_,_,d⟩<;>cases d
  | builtin b=>cases hh
  | invoke r n=>cases hh
 | defer c =>
  exfalso;unfold opK at h;dsimp only at h
  split at h
  ·dsimp only at h;split at h<;>cases h
  ·cases h
 | go c=>exfalso;unfold opK at h;dsimp only at h;split at h<;>cases h
 | _=>cases hh
/-- A close that is deferred. -/
theorem Bae{o x}(h:(opK P o).run e m = .dclose x):
  ∃t tys,o = .defer ⟨.builtin .close,#[.tmp t],tys⟩∧e.get t=some x:=by
 have hh:=Abk (P:=P) (o:=o) (e:=e) (m:=m) (by rw[h];exact id)
 cases o with
 | defer c =>
  obtain⟨cal,ops,tys⟩:=c
  unfold opK at h;dsimp only at h
  split at h
  ·rename_i t ho
   dsimp only at h
   split at h
   ·rename_i y hy
    cases h
    refine⟨t,tys,?_,hy⟩
    have:ops = #[.tmp t]:=by apply Array.ext';simpa using ho
    rw[this]
   ·cases h
  ·cases h
 | recv t a ok =>
  exfalso;unfold opK at h;dsimp only at h
  split at h
  ·split at h
   ·dsimp only at h;split at h<;>cases h
   ·cases h
  ·cases h
 | call c =>
  exfalso
  obtain⟨cal,ops,tys⟩:=c
  cases cal with
  | value y =>
   have h':callK P ((rdK y).run e) ((rdsK ops.toList).run e) = .dclose x:=h
   rcases Rx h' (by simp) with⟨_,_,_,_,_,d⟩|⟨_,_,d⟩<;>cases d
  | builtin b=>cases hh
  | invoke r n=>cases hh
 | send a b=>exfalso;unfold opK at h;dsimp only at h;split at h<;>cases h
 | go c=>exfalso;unfold opK at h;dsimp only at h;split at h<;>cases h
 | _=>cases hh
end
end
section
open Go
noncomputable def xOkL(l:List CV):Bool:=CV.rec_1 (motive_1:=fun _=>Bool) (motive_2:=fun _=>Bool) false (fun _=>true) (fun _ _=>true) (fun _=>true) true (fun _ _=>true) true (fun _ _ _ _ _=>true) true (fun _=>true) true (fun _=>true) true (fun _ _ _ a b=>a&&b) (fun _=>true) true (fun _ _ a=>a) (fun _ a=>a) (fun _ a=>a) true (fun _ _ a b=>a&&b) l
theorem Wf(a:CV)(l:List CV):xOkL (a::l)=(xOkV a&&xOkL l):=rfl
theorem Bua(g:Nat)(xs ys:List CV):xOkV (.f g xs ys)=(xOkL xs&&xOkL ys):=rfl
theorem Btz(t:Nat)(v:CV):xOkV (.a t v)=xOkV v:=rfl
theorem Bub(l:List CV):xOkV (.g l)=xOkL l:=rfl
theorem Buc(l:List CV):xOkV (.t l)=xOkL l:=rfl
theorem VR.uniq{R l v}(h:VR R l v):∀{v':List Value},VR R l v'→xOkL l=true→v=v':=by
 induction h with
 | nil=>intro v' h' _;cases h';rfl
 | bad _ _ ih=>intro v' h' hk;cases hk
 | b x _ ih=>intro v' h' hk;cases h' with|b _ h'=>rw[ih h' hk]
 | i k n _ ih=>intro v' h' hk;cases h' with|i _ _ h'=>rw[ih h' hk]
 | s x _ ih=>intro v' h' hk;cases h' with|s _ h'=>rw[ih h' hk]
 | pn _ ih=>intro v' h' hk;cases h' with|pn h'=>rw[ih h' hk]
 | p h1 _ ih=>intro v' h' hk;cases h' with|p h2 h'=>rw[h1]at h2;cases h2;rw[ih h' hk]
 | sn _ ih=>intro v' h' hk;cases h' with|sn h'=>rw[ih h' hk]
 | slK h1 _ ih=>intro v' h' hk;cases h' with|slK h2 h'=>rw[h1]at h2;cases h2;rw[ih h' hk]
 | slU h1 _ ih=>intro v' h' hk;cases h' with|slU h2 h'=>rw[h1]at h2;cases h2;rw[ih h' hk]
 | mn _ ih=>intro v' h' hk;cases h' with|mn h'=>rw[ih h' hk]
 | m h1 _ ih=>intro v' h' hk;cases h' with|m h2 h'=>rw[h1]at h2;cases h2;rw[ih h' hk]
 | cn _ ih=>intro v' h' hk;cases h' with|cn h'=>rw[ih h' hk]
 | c h1 _ ih=>intro v' h' hk;cases h' with|c h2 h'=>rw[h1]at h2;cases h2;rw[ih h' hk]
 | fn _ ih=>intro v' h' hk;cases h' with|fn h'=>rw[ih h' hk]
 | f g h1 h2 h3 ih1 ih2 ih3 =>
  intro v' h' hk
  rw[Wf,Bua,Tj,Tj]at hk
  cases h' with|f _ g1 g2 g3=>rw[ih1 g1 hk.1.1,ih2 g2 hk.1.2,ih3 g3 hk.2]
 | y h1 _ ih=>intro v' h' hk;cases h' with|y h2 h'=>rw[h1]at h2;cases h2;rw[ih h' hk]
 | n _ ih=>intro v' h' hk;cases h' with|n h'=>rw[ih h' hk]
 | a t h1 h2 ih1 ih2 =>
  intro v' h' hk
  rw[Wf,Btz,Tj]at hk
  cases h' with|a _ g1 g2 =>
   have:=ih1 g1 (by rw[Wf,hk.1];rfl)
   cases this
   rw[ih2 g2 hk.2]
 | g h1 h2 ih1 ih2 =>
  intro v' h' hk
  rw[Wf,Bub,Tj]at hk
  cases h' with|g g1 g2=>rw[ih1 g1 hk.1,ih2 g2 hk.2]
 | t h1 h2 ih1 ih2 =>
  intro v' h' hk
  rw[Wf,Buc,Tj]at hk
  cases h' with|t g1 g2=>rw[ih1 g1 hk.1,ih2 g2 hk.2]
theorem V1.uniq{R x v v'}(h:V1 R x v)(h':V1 R x v')(hk:xOkV x=true):v=v':=by
 have:=VR.uniq h h' (by rw[Wf,hk];rfl)
 cases this;rfl
/-- A plain value. -/
noncomputable def plainV:CV→Value
 | .b x=>.bool x
 | .i k n=>.int k n
 | .s x=>.string ⟨x.toArray⟩
 | _=>undef
theorem Bkk{R x v}(hx:xPlainV x=true)(h:V1 R x v):v=plainV x:=by
 cases x with
 | b y=>cases h;rfl
 | i k n=>cases h;rfl
 | s y=>cases h;rfl
 | _=>cases hx
theorem Bkj(R:XR){x}(hx:xPlainV x=true):V1 R x (plainV x):=by
 cases x with
 | b y=>exact .b _ .nil
 | i k n=>exact .i _ _ .nil
 | s y=>exact .s _ .nil
 | _=>cases hx
theorem Aww(R:XR):∀{l:List CV},(∀x∈l,xPlainV x=true)→VR R l (l.map plainV)
 | [],_=>.nil
 | x::l,h=>VR.cons_iff.2 ⟨Bkj R (h x mC),Aww R fun y hy=>h y (lZ7 _ hy)⟩
end
section
open Go Go.Conc
structure Kept(m m':Mem):Prop where
 nx:m.nx≤m'.nx
 ex:∃w,m'.log=w++m.log∧m'.ln=m.ln+w.length∧∀k,k<m.nx→k∉w→m'.obj k=m.obj k
 outs:∃w,m'.outs=w++m.outs∧∀x∈w,xPlainV x=true
theorem Bad{m m':Mem}{k}(h:m'.M.get k=m.M.get k):m'.obj k=m.obj k:=by unfold Mem.obj;rw[h]
theorem LogOk.kept{m m'}(h:LogOk m m'):Kept m m' :=
 ⟨h.nx,let ⟨w,h1,h2,h3⟩:=h.ex;⟨w,h1,h2,fun k hk hn=>Bad (h3 k hk hn)⟩,[],by rw[h.outs];rfl,by simp⟩
theorem Kept.refl(m:Mem):Kept m m:=(LogOk.refl m).kept
theorem Kept.trans{m m' m''}(h:Kept m m')(h':Kept m' m''):Kept m m'':=by
 obtain⟨w,a,b,c⟩:=h.ex
 obtain⟨w',d,e,f⟩:=h'.ex
 obtain⟨u,g,i⟩:=h.outs
 obtain⟨u',j,l⟩:=h'.outs
 refine⟨Tl h.nx h'.nx,⟨w'++w,by rw[d,a,lZ9],by rw[e,b,lZ0];omega,fun k hk hn=>?_⟩,u'++u,by rw[j,g,lZ9],fun x hx=>?_⟩
 ·rw[f k (Adf hk h.nx) (fun hm=>hn (Uf _ hm)),c k hk (fun hm=>hn (Pz _ hm))]
 ·exact(Of.1 hx).elim (l x) (i x)
/-- What was sent is put back. -/
theorem Kept.rest{m m'}(h:Kept m m'):Kept m (xRest m' m.outs):=⟨h.nx,h.ex,[],rfl,by simp⟩
/-- What the places of a walk satisfy,by what has been sent. -/
structure GoT(C:Ctx) where
 Go:List CV→Frame→List Frame→Ro→Own→Prop
 suf:List CV→Prop
 bind:∀{o S fr cs ρ σ},GoesH C S fr cs ρ σ→(∀fr cs ρ σ,S fr cs ρ σ→Go o fr cs ρ σ)→Go o fr cs ρ σ
 less:∀w o,suf (w++o)→suf o
 rk:XR→Prop
 rkm:∀R R',XR.le R R'→rk R→rk R'
def goT(C:Ctx)(S:Cy):GoT C:=⟨fun _=>GoesH C S,fun _=>True,fun h hk=>h.bind hk,fun _ _ h=>h,fun _=>True,fun _ _ _ h=>h⟩
def Axg(P:Program)(c kc:Nat)(fin:List CV):GoT (Wn P) :=
  ⟨fun o fr cs ρ σ => ∀l, fin=l++o → SendI P c (l.reverse.map plainV) fr cs ρ σ, fun o => ∃l, fin=l++o, fun h hk l hl => SendI.of_goes h fun fr cs ρ σ hs => hk fr cs ρ σ hs l hl,
   fun w o ⟨l,h⟩=>⟨l++w,by rw[h,lZ9]⟩,
   fun R=>∃cc,R kc=some (c,cc),fun _ _ hR ⟨cc,h⟩=>⟨cc,hR _ _ h⟩⟩
section
variable{C:Ctx}{G:GoT C}{o o' o1:List CV}{fr fr':Frame}{cs cs':List Frame}{ρ:Ro}{σ:Own}
theorem GoT.less_of(G:GoT C){m m'}(h:Kept m m')(hs:G.suf m'.outs):G.suf m.outs:=by
 obtain⟨w,a,_⟩:=h.outs
 rw[a]at hs
 exact G.less w _ hs
theorem GoT.move(G:GoT C)(h:∀W,stepG C.P C.main (Conc.G fr cs) W = .go (Conc.G fr' cs') W #[])(hk:G.Go o fr' cs' ρ σ):G.Go o fr cs ρ σ :=
 G.bind (Eh h (.stop (S:=fun a b c d=>a=fr'∧b=cs'∧c=ρ∧d=σ) ⟨rfl,rfl,rfl,rfl⟩)) (by rintro _ _ _ _ ⟨rfl,rfl,rfl,rfl⟩;exact hk)
end
/-- A piece of code that is left in this way. -/
def Reach{C:Ctx}(G:GoT C)(b:FB)(n:Nat)(c:Code)(o:List CV)(e:Env)(ds:List Deferred)(ρ:Ro)(σ:Own)(ex:Ex)(o':List CV)(Q:Env→List Deferred→Ro→Own→Prop):Prop :=
 ∀tm k cs,EnvOf n tm e→(∀tm' e' ds' ρ' σ' todo,EnvOf n tm' e'→Q e' ds' ρ' σ'→Pl ex k todo→G.Go o' (Fr b tm' ds' todo) cs ρ' σ')→G.Go o (Fr b tm ds (.code c::k)) cs ρ σ
section
variable{C:Ctx}{G:GoT C}{b:FB}{n:Nat}{o o1 o':List CV}{e:Env}{ds:List Deferred}{ρ:Ro}{σ:Own}{ex:Ex}{Q Q':Env→List Deferred→Ro→Own→Prop}
theorem Reach.mono{c}(h:Reach G b n c o e ds ρ σ ex o' Q)(hq:∀e ds ρ σ,Q e ds ρ σ→Q' e ds ρ σ):Reach G b n c o e ds ρ σ ex o' Q' :=
 fun tm k cs ht hk=>h tm k cs ht fun tm' e' ds' ρ' σ' i d f g=>hk tm' e' ds' ρ' σ' i d (hq _ _ _ _ f) g
/-- As a judgement of old. -/
theorem Reach.wp{S:Cy}{c Q}(h:∀S:Cy,Reach (goT C S) b n c o e ds ρ σ ex o' (fun e ds ρ σ=>Q ex e ds ρ σ)):WpC C b n c Q e ds ρ σ:=fun tm k cs ht =>
 h _ tm k cs ht fun tm' e' ds' ρ' σ' g a d f=>.stop ⟨rfl,ex,tm',e',ds',g,a,d,f,rfl⟩
theorem Reach.of_wp{c}(h:WpC C b n c (fun ex' e ds ρ σ=>ex'=ex∧Q e ds ρ σ) e ds ρ σ):Reach G b n c o e ds ρ σ ex o Q:=fun tm k cs ht hk =>
 G.bind (h tm k cs ht) (by rintro _ _ _ _ ⟨rfl,ex,tm',e',ds',g,a,⟨rfl,d⟩,f,rfl⟩;exact hk _ _ _ _ _ _ a d f)
theorem Bti(h:Q e ds ρ σ):Reach G b n .skip o e ds ρ σ .normal o Q:=fun tm k cs ht hk =>
 G.move (fr':=Fr b tm ds k) (cs':=cs) (fun W=>by simp[Conc.G,stepG,stepG.exec,Fr]) (hk tm e ds ρ σ k ht h rfl)
theorem Bvt(h:Q e ds ρ σ):Reach G b n .ret o e ds ρ σ .ret o Q:=fun tm k cs ht hk=>hk tm e ds ρ σ _ ht h ⟨[],rfl⟩
theorem Btf{id}(h:Q e ds ρ σ):Reach G b n (.exit id) o e ds ρ σ (.exit id) o Q:=fun tm k cs ht hk=>hk tm e ds ρ σ _ ht h ⟨[],by simp,rfl⟩
theorem Bvu{x y}(h:Reach G b n x o e ds ρ σ .normal o1 (fun e ds ρ σ=>Reach G b n y o1 e ds ρ σ ex o' Q)):Reach G b n (.seq x y) o e ds ρ σ ex o' Q:=fun tm k cs ht hk=>by
 refine G.move (fr':=Fr b tm ds (.code x :: .code y::k)) (cs':=cs) (fun W=>by simp[Conc.G,stepG,stepG.exec,Fr]) ?_
 refine h tm (.code y::k) cs ht fun tm' e' ds' ρ' σ' f a c d=>?_
 cases d
 exact c tm' k cs a hk
theorem Bth{x y}(hx:ex ≠ .normal)(h:Reach G b n x o e ds ρ σ ex o' Q):Reach G b n (.seq x y) o e ds ρ σ ex o' Q:=fun tm k cs ht hk=>by
 refine G.move (fr':=Fr b tm ds (.code x :: .code y::k)) (cs':=cs) (fun W=>by simp[Conc.G,stepG,stepG.exec,Fr]) ?_
 exact h tm (.code y::k) cs ht fun tm' e' ds' ρ' σ' f a c d=>hk _ _ _ _ _ _ a c (He hx (fun _=>rfl) d)
theorem Bko{q x y t}(hc:Af e q = .bool t)(h1:t=true→Reach G b n x o e ds ρ σ ex o' Q)(h0:t=false→Reach G b n y o e ds ρ σ ex o' Q):Reach G b n (.cond q x y) o e ds ρ σ ex o' Q:=fun tm k cs ht hk=>by
 have hev:(Fr b tm ds (.code (.cond q x y)::k)).eval q = .bool t:=by rw[ht.eval];exact hc
 refine G.move (fr':=Fr b tm ds (.code (if t then x else y)::k)) (cs':=cs) (fun W=>?_) ?_
 ·simp only[Fr]at hev
  simp[Conc.G,stepG,stepG.exec,Fr,hev]
 ·cases t with
  | true=>exact h1 rfl tm k cs ht hk
  | false=>exact h0 rfl tm k cs ht hk
theorem Bot{id x}(h:Reach G b n x o e ds ρ σ .normal o' Q):Reach G b n (.block id x) o e ds ρ σ .normal o' Q:=fun tm k cs ht hk=>by
 refine G.move (fr':=Fr b tm ds (.code x :: .inBlock id::k)) (cs':=cs) (fun W=>by simp[Conc.G,stepG,stepG.exec,Fr]) ?_
 refine h tm (.inBlock id::k) cs ht fun tm' e' ds' ρ' σ' f a c d=>?_
 cases d
 exact G.move (fr':=Fr b tm' ds' k) (cs':=cs) (fun W=>by simp[Conc.G,stepG,stepG.exec,Fr]) (hk _ _ _ _ _ _ a c rfl)
theorem Bkl{id x}(h:Reach G b n x o e ds ρ σ (.exit id) o' Q):Reach G b n (.block id x) o e ds ρ σ .normal o' Q:=fun tm k cs ht hk=>by
 refine G.move (fr':=Fr b tm ds (.code x :: .inBlock id::k)) (cs':=cs) (fun W=>by simp[Conc.G,stepG,stepG.exec,Fr]) ?_
 refine h tm (.inBlock id::k) cs ht fun tm' e' ds' ρ' σ' f a c d=>?_
 obtain⟨pre,hp,rfl⟩:=d
 refine G.move (fr':=Fr b tm' ds' k) (cs':=cs) (fun W=>?_) (hk _ _ _ _ _ _ a c rfl)
 have:exitTo id (pre ++ .inBlock id::k)=some k:=by rw[Mj hp];simp[exitTo]
 simp[Conc.G,stepG,stepG.exec,Fr,this]
theorem Bkn{id id' x}(hid:id'≠id)(h:Reach G b n x o e ds ρ σ (.exit id') o' Q):Reach G b n (.block id x) o e ds ρ σ (.exit id') o' Q:=fun tm k cs ht hk=>by
 refine G.move (fr':=Fr b tm ds (.code x :: .inBlock id::k)) (cs':=cs) (fun W=>by simp[Conc.G,stepG,stepG.exec,Fr]) ?_
 refine h tm (.inBlock id::k) cs ht fun tm' e' ds' ρ' σ' f a c d=>?_
 obtain⟨pre,hp,rfl⟩:=d
 refine hk _ _ _ _ _ _ a c ⟨pre++[.inBlock id],fun y hy=>?_,by simp⟩
 rcases Of.1 hy with hy|hy
 ·exact hp y hy
 ·rw[Sl.1 hy];simp[Wc,Ne.symm hid]
theorem Bkm{id x}(h:Reach G b n x o e ds ρ σ .ret o' Q):Reach G b n (.block id x) o e ds ρ σ .ret o' Q:=fun tm k cs ht hk=>by
 refine G.move (fr':=Fr b tm ds (.code x :: .inBlock id::k)) (cs':=cs) (fun W=>by simp[Conc.G,stepG,stepG.exec,Fr]) ?_
 refine h tm (.inBlock id::k) cs ht fun tm' e' ds' ρ' σ' g c d f=>?_
 obtain⟨pre,rfl⟩:=f
 exact hk _ _ _ _ _ _ c d ⟨pre++[.inBlock id],by simp⟩
/-- The rest of a loop,behind a round. -/
def LoopR(G:GoT C)(b:FB)(n:Nat)(x:Code)(o:List CV)(e:Env)(ds:List Deferred)(ρ:Ro)(σ:Own)(ex:Ex)(o':List CV)(Q:Env→List Deferred→Ro→Own→Prop):Prop :=
 ∀tm k cs,EnvOf n tm e→(∀tm' e' ds' ρ' σ' todo,EnvOf n tm' e'→Q e' ds' ρ' σ'→Pl ex k todo→G.Go o' (Fr b tm' ds' todo) cs ρ' σ')→G.Go o (Fr b tm ds (.code x :: .inLoop x::k)) cs ρ σ
theorem Bjt{x}(hx:ex ≠ .normal)(h:Reach G b n x o e ds ρ σ ex o' Q):LoopR G b n x o e ds ρ σ ex o' Q:=fun tm k cs ht hk =>
 h tm (.inLoop x::k) cs ht fun tm' e' ds' ρ' σ' f a c d=>hk _ _ _ _ _ _ a c (He hx (fun _=>rfl) d)
theorem Bfg{x}(h:Reach G b n x o e ds ρ σ .normal o1 (fun e ds ρ σ=>LoopR G b n x o1 e ds ρ σ ex o' Q)):LoopR G b n x o e ds ρ σ ex o' Q:=fun tm k cs ht hk=>by
 refine h tm (.inLoop x::k) cs ht fun tm' e' ds' ρ' σ' f a c d=>?_
 cases d
 exact G.move (fr':=Fr b tm' ds' (.code x :: .inLoop x::k)) (cs':=cs) (fun W=>by simp[Conc.G,stepG,stepG.exec,Fr]) (c tm' k cs a hk)
theorem Btg{x}(h:LoopR G b n x o e ds ρ σ ex o' Q):Reach G b n (.loop x) o e ds ρ σ ex o' Q:=fun tm k cs ht hk =>
 G.move (fr':=Fr b tm ds (.code x :: .inLoop x::k)) (cs':=cs) (fun W=>by simp[Conc.G,stepG,stepG.exec,Fr]) (h tm k cs ht hk)
theorem LoopR.mono{c}(h:LoopR G b n c o e ds ρ σ ex o' Q)(hq:∀e ds ρ σ,Q e ds ρ σ→Q' e ds ρ σ):LoopR G b n c o e ds ρ σ ex o' Q' :=
 fun tm k cs ht hk=>h tm k cs ht fun tm' e' ds' ρ' σ' i d f g=>hk tm' e' ds' ρ' σ' i d (hq _ _ _ _ f) g
/-- One operation of a region,to the place behind it. -/
theorem Boo{ops i rest K}(hs:Fu n ops=true)(hk:b.kind ≠ .early)(h:OpH C b ops i K e ds ρ σ){tm k cs}(ht:EnvOf n tm e):
  GoesH C (fun fr cs' ρ' σ'=>cs'=cs∧∃tm' e' ds',EnvOf n tm' e'∧K e' ds' ρ' σ'∧fr=Fr b tm' ds' (.inRegion ops rest::k)) (Fr b tm ds (.inRegion ops (i::rest)::k)) cs ρ σ:=by
 unfold OpH at h
 cases ho:ops[i]? with
 | none=>simp only[ho]at h
 | some op =>
  simp only[ho]at h
  have hev:=ht.eval b ds (.inRegion ops (i::rest)::k)
  split at h
  ·rename_i hw
   refine .step (fun fr' cs' σ'=>∃nx,NextH C (fun v=>K (Ja e op.dst v)) b.round ds ρ nx σ'∧Ss C.P (Fr b tm ds (.inRegion ops (i::rest)::k)) cs nx fr' cs') (fun W x=>?_) ?_
   ·obtain⟨nx,σ',W',es,m,g,p,q⟩:=Rr _ σ _ W #[] h x
    have hd:∀c,op.op = .defer c→b.round=none:=by
     intro c hc
     have hx:∃d,nx = .defer d:=by
      have w:execOp (Af e) op=(resolve (Af e) c op.type).bind fun d=>pure (Next.defer d):=by
       unfold execOp;rw[hc];rfl
      rw[w,Sem.runT_bind']at m
      split at m
      ·rename_i a' w' es' _
       have:(Result.ok (Next.defer a') w',es')=(Result.ok nx W',es):=m
       simp only[Prod.mk.injEq,Result.ok.injEq]at this
       exact⟨a',this.1.1.symm⟩
      ·simp at m
     obtain⟨d,rfl⟩:=hx
     exact g.1
    have hnx:∃fr' cs',Ss C.P (Fr b tm ds (.inRegion ops (i::rest)::k)) cs nx fr' cs':=by
     cases nx<;>simp only[NextH]at g<;>exact⟨_,_,rfl,rfl⟩
    obtain⟨fr',cs',es',t,j,u⟩:=Sx (s:=execOp (Af e) op) (by exact hk) (by simp[Fr]) m hnx
    refine⟨fr',cs',W',es',σ',?_,p,fun ev he=>Azd q (u ev he),nx,g,j⟩
    rw[Np ho (by rw[Ij hs ht];exact hw) hd,hev]
    exact t
   ·rintro fr' cs' σ' ⟨nx,g,j⟩
    cases nx<;>simp only[NextH]at g
    case value v =>
     obtain⟨rfl,rfl⟩:=j
     rw[Ju ho]
     exact .stop ⟨rfl,_,_,_,Jj hs ht ho v,g,rfl⟩
    case skip =>
     obtain⟨rfl,rfl⟩:=j
     rw[Ju ho]
     exact .stop ⟨rfl,_,_,_,Jj hs ht ho undef,g,rfl⟩
    case defer d =>
     obtain⟨rfl,rfl⟩:=j
     have:Frame.finish {Fr b tm ds (.inRegion ops (i::rest)::k) with defers:=d::(Fr b tm ds (.inRegion ops (i::rest)::k)).defers} undef=(Fr b tm (d::ds) (.inRegion ops (i::rest)::k)).finish undef:=rfl
     rw[this,Ju ho]
     exact .stop ⟨rfl,_,_,_,Jj hs ht ho undef,g.2,rfl⟩
    case enter f args =>
     obtain⟨rfl,rfl⟩:=j
     refine(g _ cs).bind ?_
     rintro _ _ ρ' σ'' ⟨v,rfl,rfl,hv⟩
     rw[Ju ho]
     exact .stop ⟨rfl,_,_,_,Jj hs ht ho v,hv,rfl⟩
    case round l f tmps assign body =>
     obtain⟨rfl,rfl⟩:=j
     refine(g _ cs).bind ?_
     rintro _ _ ρ' σ'' ⟨v,rfl,rfl,hv⟩
     rw[Ju ho]
     exact .stop ⟨rfl,_,_,_,Jj hs ht ho v,hv,rfl⟩
  ·rename_i hw
   refine Eh (fun W=>Abu ho (by rw[Ij hs ht];simpa using hw) W) ?_
   rw[Ju ho]
   exact .stop ⟨rfl,_,_,_,Jj hs ht ho undef,h,rfl⟩
/-- The rest of a region in the text's order. -/
def Ops(G:GoT C)(b:FB)(n:Nat)(l₀ rest:List Oper)(o:List CV)(e:Env)(ds:List Deferred)(ρ:Ro)(σ:Own)(o':List CV)(Q:Env→List Deferred→Ro→Own→Prop):Prop :=
 ∀pre,l₀=pre++rest→∀tm k cs,EnvOf n tm e→(∀tm' e' ds' ρ' σ',EnvOf n tm' e'→Q e' ds' ρ' σ'→G.Go o' (Fr b tm' ds' k) cs ρ' σ')→G.Go o (Fr b tm ds (.inRegion l₀.toArray (List.range' pre.length rest.length)::k)) cs ρ σ
theorem Bvr{l₀}(h:Q e ds ρ σ):Ops G b n l₀ [] o e ds ρ σ o Q:=fun pre _ tm k cs ht hk =>
 G.move (fr':=Fr b tm ds k) (cs':=cs) (fun W=>by simp[Conc.G,stepG,stepG.exec,Fr]) (hk tm e ds ρ σ ht h)
theorem Bka{l₀ rest op}(hs:Fu n l₀.toArray=true)(hk:b.kind ≠ .early)(h:∀pre,l₀=pre++op::rest→OpH C b l₀.toArray pre.length (fun e ds ρ σ=>Ops G b n l₀ rest o e ds ρ σ o' Q) e ds ρ σ):Ops G b n l₀ (op::rest) o e ds ρ σ o' Q:=fun pre a tm k cs ht hq=>by
 rw[lZ3,Azv]
 refine G.bind (Boo hs hk (h pre a) ht) ?_
 rintro _ _ ρ' σ' ⟨rfl,tm',e',ds',c,d,rfl⟩
 have:=d (pre++[op]) (by rw[a];simp) tm' k _ c hq
 rw[lZ0,Atl]at this
 exact this
/-- As it is used: what the operation does. -/
theorem Bvs{l₀ rest op}(hs:Fu n l₀.toArray=true)(hk:b.kind ≠ .early)(hw:Bz l₀.toArray op e=true)(h:wpS C.P ρ (execOp (Af e) op) σ (NextH C (fun v ds ρ σ=>Ops G b n l₀ rest o (Ja e op.dst v) ds ρ σ o' Q) b.round ds ρ)):Ops G b n l₀ (op::rest) o e ds ρ σ o' Q :=
 Bka hs hk fun pre a=>by
  unfold OpH
  have ho:l₀.toArray[pre.length]?=some op:=by subst a;simp
  rw[ho]
  simp only[hw,if_true]
  exact h
theorem Bsz{l₀ rest op}(hs:Fu n l₀.toArray=true)(hk:b.kind ≠ .early)(hw:Bz l₀.toArray op e=false)(h:Ops G b n l₀ rest o (Ja e op.dst undef) ds ρ σ o' Q):Ops G b n l₀ (op::rest) o e ds ρ σ o' Q :=
 Bka hs hk fun pre a=>by
  unfold OpH
  have ho:l₀.toArray[pre.length]?=some op:=by subst a;simp
  rw[ho]
  simp only[hw,Agm,if_false]
  exact h
theorem Bkp{l₀ id}(h:Ops G b n l₀ l₀ o e ds ρ σ o' Q):Reach G b n (.region id l₀.toArray false) o e ds ρ σ .normal o' Q:=fun tm k cs ht hq=>by
 refine G.move (fr':=Fr b tm ds (.inRegion l₀.toArray (List.range l₀.toArray.size)::k)) (cs':=cs) (fun W=>by simp[Conc.G,stepG,stepG.exec,Fr]) ?_
 rw[Atm,List.range_eq_range']
 exact h [] rfl tm k cs ht fun tm' e' ds' ρ' σ' a c=>hq _ _ _ _ _ _ a c rfl
end
end
section
open Go Go.Conc
inductive DsR(R:XR):List CD→List Deferred→Prop
 | nil:DsR R [] []
 | mark {k b c:Nat} {l:List CD} {l':List Deferred}:R k=some (b,c)→DsR R l l'→DsR R (.mark k::l) ({target:=.collected b,args:=#[]}::l')
 | close {k b c:Nat} {tys:Array TypeId} {ty:TypeId} {l:List CD} {l':List Deferred}:R k=some (b,c)→DsR R l l'→DsR R (.close k::l) (Lj b tys ty #[false]::l')
theorem DsR.mono{R R'}(hR:XR.le R R'){l l'}(h:DsR R l l'):DsR R' l l':=by
 induction h with
 | nil=>exact .nil
 | mark h _ ih=>exact .mark (hR _ _ h) ih
 | close h _ ih=>exact .close (hR _ _ h) ih
/-- The run's state stands for this one. -/
structure Sim(R:XR)(st:St)(e:Env)(ds:List Deferred)(ρ:Ro)(σ σ₀:Own):Prop where
 env:EnvR R st.e e
 mem:MemX R st.m ρ σ σ₀
 ds:DsR R st.ds ds
def RdOk{C:Ctx}(G:GoT C)(R:XR)(rd:Option Nat)(b:FB):Prop:=G.rk R∧match rd with
 | none=>b.round=none
 | some k=>∃l c,b.round=some l∧R k=some (l,c)
theorem RdOk.mono{C}{G:GoT C}{R R' rd b}(h:RdOk G R rd b)(hR:XR.le R R'):RdOk G R' rd b:=by
 obtain⟨a,h⟩:=h
 refine⟨G.rkm _ _ hR a,?_⟩
 cases rd with
 | none=>exact h
 | some k=>obtain⟨l,c,d,e⟩:=h;exact⟨l,c,d,hR _ _ e⟩
def Ng:Ex→St→R
 | .normal,s=>.n s
 | .exit id,s=>.x id s
 | .ret,s=>.r s
/-- A run of a piece of code that ended so. -/
def Bqb{C:Ctx}(G:GoT C)(b:FB)(n:Nat)(rd:Option Nat)(c:Code)(st:St)(ex:Ex)(st':St):Prop :=
 Kept st.m st'.m∧(G.suf st'.m.outs→∀R e ds ρ σ σ₀,Jp σ₀→RdOk G R rd b→Sim R st e ds ρ σ σ₀ →
  Reach G b n c st.m.outs e ds ρ σ ex st'.m.outs (fun e' ds' ρ' σ'=>∃R',XR.le R R'∧Ro.le ρ ρ'∧Sim R' st' e' ds' ρ' σ' σ₀))
/-- Calls and pieces of code that are run one call deeper. -/
structure FnsOk(C:Ctx)(F:Fns):Prop where
 call:∀g args m x m',F.call g args m = .v x m'→Kept m m'∧∀R args' ρ σ σ₀,Jp σ₀→VR R args args'→MemX R m ρ σ σ₀ →
  CallsH C g args'.toArray ρ σ (fun v ρ' σ'=>∃R',XR.le R R'∧Ro.le ρ ρ'∧V1 R' x v∧MemX R' m' ρ' σ' σ₀)
 code:∀n rd c st ex st',F.code n rd c st=Ng ex st'→∀b S,b.kind ≠ .early→Bqb (goT C S) b n rd c st ex st'
section
variable{C:Ctx}{R:XR}{m:Mem}{ρ:Ro}{σ σ₀:Own}
theorem MemX.rest{o}(h:MemX R m ρ σ σ₀):MemX R (xRest m o) ρ σ σ₀:=by
 obtain⟨L,G,h⟩:=h
 exact⟨L,G,h.perm,h.nd,h.own,h.all,h.ro,h.gar,h.lt,h.glob⟩
theorem Abh{e e' d x v}(h:EnvR R e e')(hv:V1 R x v):EnvR R ((dstK d).run e x) (Ja e' d v):=by
 cases d with
 | none=>exact h
 | some d=>exact h.set hv
theorem Xy{l o e e'}(h:EnvR R e e')(hk:(gokK l o).run e=true):Bz l.toArray o e'=(guardK l o).run e:=by
 unfold gokK at hk
 unfold Bz guardK
 cases hg:o.guard with
 | none=>rfl
 | some jw =>
  obtain⟨j,w⟩:=jw
  rw[hg]at hk
  simp only at hk ⊢
  unfold Ht
  rw[Qx]
  cases hd:(l[j]?).bind (·.dst) with
  | none=>rw[hd]at hk;cases hk
  | some d =>
   rw[hd]at hk
   simp only at hk ⊢
   split at hk
   ·rename_i x hx
    rw[hx]
    have:=Bau (h d _ hx)
    rw[this]
    cases x<;>cases w<;>rfl
   ·rename_i x hx
    rw[hx]
    obtain⟨l',_,hv⟩:=Bwb (h d _ hx)
    rw[hv]
    rfl
   ·cases hk
theorem Bfs{n}:∀{l:List Oper},xSlotsN n l=true→Fu n l.toArray=true:=by
 intro l h
 unfold Fu
 rw[Bje]
 induction l with
 | nil=>rfl
 | cons o l ih =>
  rw[Bck,Tj]
  unfold xSlotsN at h
  cases hd:o.dst with
  | none=>rw[hd]at h;exact⟨rfl,ih h⟩
  | some d =>
   rw[hd]at h
   simp only at h
   split at h
   ·rename_i hb
    exact⟨by simp only[decide_eq_true_eq];exact Qz hb,ih h⟩
   ·cases h
theorem Akx{n:Nat}:∀{ps:List Nat} {args:List CV} {args':List Value} {tm:Array Value} {env:Tr CV} {e:Env},ps.length=args.length→xAllLt n ps=true→VR R args args'→EnvOf n tm e→EnvR R env e →
  ∃e',EnvOf n ((ps.toArray.zip args'.toArray).foldl (fun tmps (t,a)=>tmps.setIfInBounds t a) tm) e'∧EnvR R (xPutP ps args env) e'
 | [],[],args',tm,env,e,_,_,hv,h1,h2=>by
  cases hv
  exact⟨e,by simpa using h1,h2⟩
 | t::ps,a::args,[],tm,env,e,_,_,hv,h1,h2=>by cases hv
 | t::ps,a::args,a'::args',tm,env,e,hl,hlt,hv,h1,h2=>by
  obtain⟨v1,v2⟩:=VR.cons_iff.1 hv
  have b:(match Nat.ble (Nat.succ t) n with|true=>xAllLt n ps|false=>false)=true:=hlt
  split at b
  ·rename_i hb
   have ht:t<n:=Qz hb
   obtain⟨e',f,g⟩:=Akx (by simpa using hl) b v2 (h1.put ht a') (h2.set (d:=t) v1)
   refine⟨e',?_,g⟩
   have c:(((t::ps).toArray.zip (a'::args').toArray).foldl (fun tmps (x:Nat×Value)=>tmps.setIfInBounds x.1 x.2) tm)=((ps.toArray.zip args'.toArray).foldl (fun tmps (x:Nat×Value)=>tmps.setIfInBounds x.1 x.2) (tm.setIfInBounds t a')):=by
    have h:(t::ps).toArray.zip (a'::args').toArray=((t,a')::ps.zip args').toArray:=by simp
    have i:ps.toArray.zip args'.toArray=(ps.zip args').toArray:=by simp
    rw[h,i,List.foldl_toArray,List.foldl_toArray]
    rfl
   exact c ▸ f
  ·cases b
 | [],_::_,_,_,_,_,hl,_,_,_,_=>by cases hl
 | _::_,[],_,_,_,_,hl,_,_,_,_=>by cases hl
end
section
variable{C:Ctx}{F:Fns}{st:St}{o:Op}
/-- What doOR says of an operation. -/
def Auk(C:Ctx)(o:Op)(st:St)(x:CV)(m':Mem)(ds':List CD):Prop :=
 Kept st.m m'∧m'.outs=st.m.outs∧ds'=st.ds∧∀R e ds ρ σ σ₀ rd dd ty pos af g,Jp σ₀→Sim R st e ds ρ σ σ₀→wpS C.P ρ (execOp (Af e) ⟨dd,o,ty,pos,af,g⟩) σ
  (NextH C (fun v ds1 ρ' σ'=>ds1=ds∧∃R',XR.le R R'∧Ro.le ρ ρ'∧V1 R' x v∧MemX R' m' ρ' σ' σ₀) rd ds ρ)
theorem Bki{x y m m' l l'}(h:OV.v x m l = .v y m' l'):x=y∧m=m'∧l=l':=by cases h;exact⟨rfl,rfl,rfl⟩
/-- Every value stands for something. -/
def Bgr:XR:=fun k=>some (k,0)
theorem Bhz(x:CV):∃v,V1 Bgr x v :=
 CV.rec (motive_1:=fun x=>∃v,V1 Bgr x v) (motive_2:=fun l=>∃l',VR Bgr l l')
  ⟨undef,.bad _ .nil⟩ (fun x=>⟨_,.b x .nil⟩) (fun k n=>⟨_,.i k n .nil⟩) (fun s=>⟨_,.s s .nil⟩) ⟨_,.pn .nil⟩ (fun k off=>⟨_,.p (k:=k) (off:=off) rfl .nil⟩) ⟨_,.sn .nil⟩
  (fun k off ln kn c=>by cases kn with
   | true=>exact⟨_,.slK (k:=k) (off:=off) (ln:=ln) (cp:=c) rfl .nil⟩
   | false=>exact⟨_,.slU (k:=k) (off:=off) (ln:=ln) (a:=c) rfl .nil⟩)
  ⟨_,.mn .nil⟩ (fun k=>⟨_,.m (k:=k) rfl .nil⟩) ⟨_,.cn .nil⟩ (fun k=>⟨_,.c (k:=k) rfl .nil⟩) ⟨_,.fn .nil⟩
  (fun g xs ys ⟨_,d⟩ ⟨_,e⟩=>⟨_,.f g d e .nil⟩) (fun k=>⟨_,.y (k:=k) rfl .nil⟩) ⟨_,.n .nil⟩ (fun t v ⟨_,h⟩=>⟨_,.a t h .nil⟩) (fun l ⟨_,h⟩=>⟨_,.g h .nil⟩) (fun l ⟨_,h⟩=>⟨_,.t h .nil⟩)
  ⟨_,.nil⟩ (fun x l ⟨_,h⟩ ⟨_,h'⟩=>⟨_,VR.cons_iff.2 ⟨h,h'⟩⟩) x
theorem Bsf(e:Tr CV):∃e':Env,EnvR Bgr e e':=by
 refine⟨fun t=>match e.get t with|some v=>(Bhz v).choose|none=>undef,fun t v h=>?_⟩
 simp only[h]
 exact(Bhz v).choose_spec
theorem Bjs{P o e m m' x}(h:(opK P o).run e m = .v x m'):LogOk m m'∧(xMild o=true→m'.nx=m.nx→m'=m):=by
 obtain⟨e',he⟩:=Bsf e
 rcases Bkg o Bgr e e' m x m' he (fun k _=>rfl) h with⟨rfl,_⟩|⟨a,b,_⟩
 ·exact⟨.refl _,fun _ _=>rfl⟩
 ·exact⟨a,fun hm hn=>absurd hn (b hm)⟩
theorem Bwh{x y m1 m' ds'}(he:(opK C.P o).run st.e st.m = .v x m1)(h:OV.v x m1 st.ds = .v y m' ds'):Auk C o st y m' ds':=by
 obtain⟨rfl,rfl,rfl⟩:=Bki h
 have hk:=(Bjs he).1
 refine⟨hk.kept,hk.outs,rfl,fun R e ds ρ σ σ₀ rd dd ty pos af g hn hs=>?_⟩
 rcases Bkg o R st.e e st.m x m1 hs.env hs.mem.globR he with⟨rfl,v,hv,hw⟩|⟨_,_,hw⟩
 ·exact Eu (by rintro nx σ' ⟨rfl,rfl⟩;exact⟨rfl,R,.refl,.refl,hv,hs.mem⟩) _ _ (hw ρ σ dd ty pos af g)
 ·refine Eu ?_ _ _ (hw ρ σ σ₀ dd ty pos af g hs.mem)
  rintro nx σ' ⟨R',v,a,d,b,c⟩
  rcases d with rfl|⟨rfl,rfl⟩
  ·exact⟨rfl,R',a,.refl,b,c⟩
  ·exact⟨rfl,R',a,.refl,b,c⟩
theorem Bve{x y k m' ds'}(he:(opK C.P o).run st.e st.m = .rd x k)(h:OV.v x st.m st.ds = .v y m' ds'):Auk C o st y m' ds':=by
 obtain⟨rfl,rfl,rfl⟩:=Bki h
 refine⟨.refl _,rfl,rfl,fun R e ds ρ σ σ₀ rd dd ty pos af g hn hs=>?_⟩
 obtain⟨v,hv,hw⟩:=Baf o R st.e e st.m x k hs.env hs.mem.globR he R st.m ρ σ σ₀ hs.mem rfl rfl
 exact Eu (by rintro nx σ' ⟨rfl,rfl⟩;exact⟨rfl,R,.refl,.refl,hv,hs.mem⟩) _ _ (hw dd ty pos af g)
theorem Bhq{f args y m' ds'}(hF:FnsOk C F)(he:(opK C.P o).run st.e st.m = .enter f args)(h:(match F.call f args st.m with | .v x m=>OV.v x (xRest m st.m.outs) st.ds | .bad=>.bad) = .v y m' ds'):Auk C o st y m' ds':=by
 split at h
 ·rename_i x m1 hc
  obtain⟨rfl,rfl,rfl⟩:=Bki h
  obtain⟨hk,j⟩:=hF.call f args st.m x m1 hc
  refine⟨hk.rest,rfl,rfl,fun R e ds ρ σ σ₀ rd dd ty pos af g hn hs=>?_⟩
  obtain⟨a,hv,hw⟩:=Bfj hs.env hs.mem.globR he
  refine hw _ ρ σ dd ty pos af g ?_
  refine(j R a ρ σ σ₀ hn hv hs.mem).mono ?_
  rintro v ρ' σ' ⟨R',b,c,d,i⟩
  exact⟨rfl,R',b,c,d,i.rest⟩
 ·cases h
theorem MemX.at{R m ρ σ σ₀}(h:MemX R m ρ σ σ₀){k o}(hk:m.M.get k=some (.own o))(hd:o ≠ .dead):
  ∃(b c:Nat) (r:Res) (i:Nat),R k=some (b,c)∧σ[i]?=some (b,r)∧ObjR R c o r∧∀r' o',ObjR R c o' r'→MemX R (m.put k o') ρ (σ.set i (b,r')) σ₀:=by
 obtain⟨L,G,h⟩:=h
 obtain⟨b,c,r,i,a,d,e,f⟩:=h.at hk hd
 exact⟨b,c,r,i,a,d,e,fun r' o' ho=>h.put f a d ho⟩
end
end
section
open Go Go.Conc
section
variable{C:Ctx}{F:Fns}{st:St}{o:Op}
theorem FnsOk.kept(hF:FnsOk C F){n rd c s s' ex}(h:F.code n rd c s=Ng ex s'):Kept s.m s'.m :=
 (hF.code n rd c s ex s' h ⟨0,.normal,none⟩ (fun _ _ _ _=>True) (by simp)).1
theorem FnsOk.wp(hF:FnsOk C F){n rd c s s' ex}(h:F.code n rd c s=Ng ex s'){b}(hb:b.kind ≠ .early){R e ds ρ σ σ₀}(hn:Jp σ₀)(hr:RdOk (goT C fun _ _ _ _=>True) R rd b)(hs:Sim R s e ds ρ σ σ₀):
  WpC C b n c (fun ex' e' ds' ρ' σ'=>ex'=ex∧∃R',XR.le R R'∧Ro.le ρ ρ'∧Sim R' s' e' ds' ρ' σ' σ₀) e ds ρ σ :=
 Reach.wp (S:=fun _ _ _ _=>True) (o:=s.m.outs) (o':=s'.m.outs) (ex:=ex) fun S=>((hF.code n rd c s ex s' h b S hb).2 trivial R e ds ρ σ σ₀ hn hr hs).mono fun e ds ρ σ h=>⟨rfl,h⟩
theorem Aan{R c busy n pd env ps as_ body dk r}(h:ObjR R c (.loop busy pd n env ps as_ body dk) r):
  ∃L e' b c',r = .obj (.loop L)∧L.state=stB busy∧L.pending=pd∧EnvOf n L.tmps e'∧EnvR R env e'∧L.params=ps.toArray∧L.assign=as_∧L.body=body∧R dk=some (b,c')∧L.defers=b:=by
 cases h with
 | loop h1 h2 h3 h4 h5 h6 h7 h8 h9=>exact⟨_,_,_,_,rfl,h1,h2,h3,h4,h5,h6,h7,h8,h9⟩
theorem Bhr{k args y m' ds'}(hF:FnsOk C F)(he:(opK C.P o).run st.e st.m = .round k args)(h:doOR F st (.round k args) = .v y m' ds'):Auk C o st y m' ds':=by
 simp only[doOR]at h
 split at h
 ·rename_i pd0 n env ps as_ body dk0 hg0
  split at h
  ·rename_i hlen hlt
   split at h
   ·rename_i st1 hc1
    split at h
    ·rename_i pd1 n1 env1 ps1 as1 body1 dk1 hds1 hg1
     have fin:∀ex a,F.code n (some k) body ⟨st1.e,st1.m.put k (.loop 1 pd1 n1 env1 ps1 as1 body1 dk1),[]⟩=Ng ex a→xEndRound (xRest a.m st.m.outs) st.ds k (Pf ex) = .v y m' ds'→Auk C o st y m' ds':=by
      intro ex a f l
      unfold xEndRound at l
      split at l
      ·rename_i b3 pd3 n3 env3 ps3 as3 body3 dk3 hg3
       obtain⟨rfl,rfl,rfl⟩:=Bki l
       have W:a.m.M.get k=some (.own (.loop b3 pd3 n3 env3 ps3 as3 body3 dk3)):=hg3
       have k1:=hF.kept (ex:=.normal) hc1
       have k3:=hF.kept f
       refine⟨(((k1.trans (LogOk.put _ _ _).kept).trans k3).rest).trans (LogOk.put _ _ _).kept,rfl,rfl,fun R e ds ρ σ σ₀ rd dd ty pos af g hn hs=>?_⟩
       obtain⟨a0,b,c,hR,hv,hw⟩:=Bfk hs.env hs.mem.globR he
       refine hw _ ρ σ dd ty pos af g ?_
       obtain⟨b',c',r,i,x,T,U,_⟩:=hs.mem.at hg0 (by simp)
       rw[hR]at x;cases x
       obtain⟨L,e0,db,dc,rfl,l1,l2,l3,l4,z,l6,l7,l8,l9⟩:=Aan U
       have X:ps.length=args.length:=by
        have:=Vg hlen
        rw[Tz,Tz]at this;exact this.symm
       have hl':=hv.len
       refine Afw (L:=L) T (by rw[z];simp;omega) ?_
       rw[z,l6,l7]
       obtain⟨e1,w1,w2⟩:=Akx X hlt hv l3 l4
       refine Abr (n:=n) w1 ?_
       refine Adw (hF.wp (ex:=.normal) hc1 (b:=⟨L.fn,.normal,some b⟩) (by simp) (R:=R) hn ⟨trivial,b,c,rfl,hR⟩ ⟨w2,hs.mem,.nil⟩) ?_
       rintro a8 e2 J a9 ab ⟨rfl,I,p,q2,q⟩
       obtain⟨b1,c1,r1,Z,w,K,N,O⟩:=q.mem.at hg1 (by simp)
       rw[p _ _ hR]at w;cases w
       obtain⟨G,a6,a1,a3,rfl,t1,t2,t3,t4,t5,t6,t7,t8,t9⟩:=Aan N
       have V:J=[]:=by
        have:=q.ds
        rw[hds1]at this
        cases this;rfl
       refine⟨rfl,V,Z,G,K,t1,?_⟩
       refine Adw (hF.wp f (b:=⟨L.fn,.normal,some b⟩) (by simp) (R:=I) hn ⟨trivial,b,c,rfl,p _ _ hR⟩ ⟨q.env,O _ _ (.loop rfl t2 t3 t4 t5 t6 t7 t8 t9),.nil⟩) ?_
       rintro j e3 a5 aa ac ⟨rfl,u,B,q4,Y⟩
       obtain⟨b2,c2,r2,i2,D,u2,u3,u4⟩:=Y.mem.at W (by simp)
       rw[B _ _ (p _ _ hR)]at D;cases D
       obtain⟨t,a7,a2,a4,rfl,v1,v2,v3,v4,v5,v6,v7,v8,v9⟩:=Aan u3
       refine⟨i2,t,u2,rfl,u,p.trans B,q2.trans q4,?_,?_⟩
       ·cases j<;>exact .b _ .nil
       ·have hob:ObjR u c (.loop (match Pf j with|none=>0|some _=>2) (Pf j) n3 env3 ps3 as3 body3 dk3) (.obj (.loop {t with state:=if (Pf j).isNone then .ready else .done,pending:=Pf j})):=by
         refine .loop ?_ rfl v3 v4 v5 v6 v7 v8 v9
         cases j<;>rfl
        have:=u4 _ _ hob
        obtain⟨H,E,d⟩:=this
        exact⟨H,E,d.perm,d.nd,d.own,d.all,d.ro,d.gar,d.lt,d.glob⟩
      ·cases l
     split at h
     ·rename_i a f;exact fin .normal a f h
     ·rename_i id a f;exact fin (.exit id) a f h
     ·rename_i a f;exact fin .ret a f h
     ·cases h
    ·cases h
   ·cases h
  ·cases h
 ·cases h
theorem Aiv{y m' ds'}(hF:FnsOk C F)(h:doOR F st ((opK C.P o).run st.e st.m) = .v y m' ds'):Auk C o st y m' ds':=by
 cases he:(opK C.P o).run st.e st.m with
 | v x m=>rw[he]at h;exact Bwh he h
 | rd x k=>rw[he]at h;exact Bve he h
 | enter f args=>rw[he]at h;exact Bhq hF he h
 | round k args=>rw[he]at h;exact Bhr hF he h
 | go f args=>rw[he]at h;cases h
 | recv k ok=>rw[he]at h;cases h
 | send k x=>rw[he]at h;cases h
 | dclose x=>rw[he]at h;cases h
 | bad=>rw[he]at h;cases h
end
/-- What is said of an operation in the text's order. -/
def Asl{C:Ctx}(G:GoT C)(F:Fns)(dx:DX):Prop:=∀(op:Oper) (st:St) x m' ds' rd,dx.run F rd st ((opK C.P op.op).run st.e st.m) = .v x m' ds'→Kept st.m m' ∧
 ∀b n l₀ rest o' Q R e ds ρ σ σ₀,Jp σ₀→RdOk G R rd b→Sim R st e ds ρ σ σ₀→Fu n l₀.toArray=true→b.kind ≠ .early→Bz l₀.toArray op e=true→G.suf m'.outs →
  (∀R' v ds1 ρ' σ',XR.le R R'→Ro.le ρ ρ'→V1 R' x v→MemX R' m' ρ' σ' σ₀→DsR R' ds' ds1→Ops G b n l₀ rest m'.outs (Ja e op.dst v) ds1 ρ' σ' o' Q) →
  Ops G b n l₀ (op::rest) st.m.outs e ds ρ σ o' Q
theorem Atd{C}{G:GoT C}{F:Fns}{op st x m' ds' rd}(hd:Auk C op.op st x m' ds'):Kept st.m m' ∧
 ∀b n l₀ rest o' Q R e ds ρ σ σ₀,Jp σ₀→RdOk G R rd b→Sim R st e ds ρ σ σ₀→Fu n l₀.toArray=true→b.kind ≠ .early→Bz l₀.toArray op e=true→G.suf m'.outs →
  (∀R' v ds1 ρ' σ',XR.le R R'→Ro.le ρ ρ'→V1 R' x v→MemX R' m' ρ' σ' σ₀→DsR R' ds' ds1→Ops G b n l₀ rest m'.outs (Ja e op.dst v) ds1 ρ' σ' o' Q) →
  Ops G b n l₀ (op::rest) st.m.outs e ds ρ σ o' Q:=by
 obtain⟨c,d,f,g⟩:=hd
 refine⟨c,fun b n l₀ rest o' Q R e ds ρ σ σ₀ hn hr hs hsl hk hw _ hc=>?_⟩
 refine Bvs hsl hk hw ?_
 obtain⟨dd,k,ty,pos,af,gd⟩:=op
 refine Eu (fun nx σ' hx=>hx.mono ?_) _ _ (g R e ds ρ σ σ₀ b.round dd ty pos af gd hn hs)
 rintro v ds1 ρ' σ' ⟨rfl,R',a,h,i,j⟩
 rw[←d]
 exact hc R' v _ ρ' σ' a h i j (f ▸ hs.ds.mono a)
section
variable{C:Ctx}{G:GoT C}{F:Fns}{dx:DX}
/-- A region in the text's order. -/
theorem Aff(hx:Asl G F dx){l₀:List Oper}:∀(r:List Oper) (st:St) (rd:Option Nat) (ex:Ex) (st':St),(textK C.P dx l₀ r).run F rd st=Ng ex st'→ex = .normal∧Kept st.m st'.m ∧
  (G.suf st'.m.outs→∀b n R e ds ρ σ σ₀,Fu n l₀.toArray=true→b.kind ≠ .early→Jp σ₀→RdOk G R rd b→Sim R st e ds ρ σ σ₀ →
   Ops G b n l₀ r st.m.outs e ds ρ σ st'.m.outs (fun e' ds' ρ' σ'=>∃R',XR.le R R'∧Ro.le ρ ρ'∧Sim R' st' e' ds' ρ' σ' σ₀))
 | [],st,rd,ex,st',h=>by
  have h':Go.Proofs.YtninnkechkolnaaGreatDoor.R.n st=Ng ex st':=h
  cases ex with
  | normal=>cases h';exact⟨rfl,.refl _,fun _ b n R e ds ρ σ σ₀ _ _ _ _ hs=>Bvr ⟨R,.refl,.refl,hs⟩⟩
  | exit id=>cases h'
  | ret=>cases h'
 | o::r,st,rd,ex,st',h=>by
  have h':(match (gokK l₀ o).run st.e with
   | false=>Go.Proofs.YtninnkechkolnaaGreatDoor.R.bad
   | true=>match (guardK l₀ o).run st.e with
    | false=>(textK C.P dx l₀ r).run F rd ⟨(dstK o.dst).run st.e .undef,st.m,st.ds⟩
    | true=>match dx.run F rd st ((opK C.P o.op).run st.e st.m) with
     | .v x m ds=>(textK C.P dx l₀ r).run F rd ⟨(dstK o.dst).run st.e x,m,ds⟩
     | .bad=>.bad)=Ng ex st':=h
  split at h'
  ·cases ex<;>cases h'
  ·rename_i hgk
   split at h'
   ·rename_i hg
    obtain⟨d,a,f⟩:=Aff hx r _ _ _ _ h'
    refine⟨d,a,fun c b n R e ds ρ σ σ₀ hsl hk hn hr hs=>?_⟩
    refine Bsz hsl hk (by rw[Xy hs.env hgk];exact hg) ?_
    exact f c b n R _ ds ρ σ σ₀ hsl hk hn hr ⟨Abh hs.env (.t .nil .nil),hs.mem,hs.ds⟩
   ·rename_i hg
    split at h'
    ·rename_i x m1 ds1 hd
     obtain⟨u,hop⟩:=hx o st x m1 ds1 rd hd
     obtain⟨d,a,f⟩:=Aff hx r _ _ _ _ h'
     refine⟨d,u.trans a,fun c b n R e ds ρ σ σ₀ hsl hk hn hr hs=>?_⟩
     refine hop b n l₀ r _ _ R e ds ρ σ σ₀ hn hr hs hsl hk (by rw[Xy hs.env hgk];exact hg) (G.less_of a c) fun R' v i ρ' σ' g w y z B=>?_
     have:=f c b n R' (Ja e o.dst v) i ρ' σ' σ₀ hsl hk hn (hr.mono g) ⟨Abh (hs.env.mono g) y,z,B⟩
     exact fun pre hp tm k cs ht hq=>this pre hp tm k cs ht fun tm' e' ds' ρ'' σ'' j ⟨R'',l,p,q⟩=>hq tm' e' ds' ρ'' σ'' j ⟨R'',g.trans l,w.trans p,q⟩
    ·cases ex<;>cases h'
end
end
section
open Go Go.Conc
theorem Bcn(l:List Oper)(pz:List Nat)(i:Nat):Pg l.toArray pz i=xLate l pz i:=by
 unfold Pg xLate
 rw[Qx]
 cases l[i]? with
 | none=>rfl
 | some o=>simp only[←Array.any_toList]
theorem To{l li j}:j∈Dl l li↔j∈Region.ready .any l.toArray li.toArray:=by rw[Hh]
theorem Si(li:List Bool)(j:Nat)(d:Bool):li.toArray.getD j d=li.getD j d:=by simp[Azs,Alq]
theorem Rz(li:List Bool)(i:Nat):li.toArray.setIfInBounds i true=(li.set i true).toArray:=by simp
theorem Aao{l li i j}(h:j∈Dl l li)(hne:j≠i):j∈Dl l (li.set i true):=by
 rw[To]at *
 rw[←Rz]
 exact ready_mono h hne
theorem Bfm{l li j}(h:j∈Dl l li):li.getD j true=false:=by
 rw[To]at h
 have:=(mem_ready.1 h).1
 rwa[Si]at this
theorem Yx{li:List Bool}{i j}(h:i≠j)(d:Bool):(li.set i true).getD j d=li.getD j d:=by
 rw[Alq,Alq,List.getElem?_set_ne h]
theorem Aqy{K:List Nat}:∀{n:Nat} {l u w:List Nat},xNoneOf K n l=true→l=u++w→u.length=n→∀k∈K,k∉u
 | 0,l,[],w,_,_,_,k,_,hm=>by cases hm
 | 0,l,_::_,w,_,_,h,_,_,_=>by cases h
 | n+1,l,[],w,_,_,h,_,_,_=>by cases h
 | n+1,l,a::u,w,h,hl,hn,k,hk,hm=>by
  subst hl
  have h':(match K.any (Nat.beq a) with|true=>false|false=>xNoneOf K n (u++w))=true:=h
  split at h'
  ·cases h'
  ·rename_i hany
   rcases Nc.1 hm with rfl|hm
   ·have:=Avz.1 hany k hk
    exact this (by simp)
   ·exact Aqy h' rfl (by simpa using hn) k hk hm
section
variable{C:Ctx}{R:XR}{m:Mem}{ρ:Ro}{σ σ₀:Own}
/-- One more block that is not looked at. -/
theorem MemX.frame{p}(h:MemX R m ρ σ σ₀):MemX R m ρ (p::σ) (p::σ₀):=by
 obtain⟨L,G,h⟩:=h
 refine⟨L,G,?_,h.nd,h.own,h.all,h.ro,h.gar,h.lt,h.glob⟩
 have a:=h.perm.cons p
 refine a.trans ?_
 rw[←lZ9,←lZ9]
 exact List.perm_middle.symm
/-- It is looked at from now on. -/
theorem MemX.adopt{b c r o}(h:MemX R m ρ σ ((b,r)::σ₀))(ho:ObjR (R.add m.nx (b,c)) c o r):XR.le R (R.add m.nx (b,c))∧MemX (R.add m.nx (b,c)) (m.add o) ρ σ σ₀:=by
 obtain⟨L,G,h⟩:=h
 have hle:=h.fresh (b,c)
 have hlt:∀p∈L,p.1<m.nx:=fun p hp=>by
  obtain⟨d,o1,a,_⟩:=h.own p hp
  exact h.lt _ _ a
 refine⟨hle,(m.nx,b,r)::L,G,?_,Aen.2 ⟨fun hm=>?_,h.nd⟩,fun p hp=>?_,fun j oj hj hd=>?_,fun j oj hj=>?_,h.gar,fun j q hj=>?_,fun j hj=>hle _ _ (h.glob j hj)⟩
 ·have a:=h.perm
  refine a.trans ?_
  rw[Qc,←lZ9,←lZ9]
  exact Azu
 ·obtain⟨p,hp,e⟩:=Sz.1 hm
  exact absurd (hlt p hp) (by omega)
 ·rcases Nc.1 hp with rfl|hp
  ·exact⟨c,o,XR.add_same,by rw[Tx,if_pos rfl],ho⟩
  ·obtain⟨d,o1,a,f,g⟩:=h.own p hp
   exact⟨d,o1,hle _ _ a,by rw[Tx,if_neg (Aqt (hlt p hp))];exact f,g.mono hle⟩
 ·rw[Tx]at hj
  by_cases hjk:j=m.nx
  ·subst hjk;exact⟨_,Aiq ..⟩
  ·rw[if_neg hjk]at hj
   obtain⟨q,hq⟩:=h.all j oj hj hd
   exact⟨q,lZ7 _ hq⟩
 ·rw[Tx]at hj
  by_cases hjk:j=m.nx
  ·rw[if_pos hjk]at hj;cases hj
  ·rw[if_neg hjk]at hj
   obtain⟨i,d,k,a,f,g⟩:=h.ro j oj hj
   exact⟨i,d,k,hle _ _ a,f,g.mono hle⟩
 ·unfold XR.add at hj
  by_cases hjk:j=m.nx
  ·subst hjk;exact Bcg _
  ·rw[if_neg hjk]at hj;exact Bjd (h.lt j q hj)
theorem MemX.known(h:MemX R m ρ σ σ₀){k o}(hk:m.obj k=some o)(hd:o ≠ .dead):∃q,R k=some q:=by
 obtain⟨L,G,h⟩:=h
 unfold Mem.obj at hk
 split at hk
 ·rename_i o' hg
  cases hk
  obtain⟨b,c,r,i,a,_⟩:=h.at hg hd
  exact⟨_,a⟩
 ·rename_i o' hg
  obtain⟨b,c,x,a,_⟩:=h.ro k _ hg
  exact⟨_,a⟩
 ·cases hk
theorem Btj{P o e x k}(h:(opK P o).run e m = .rd x k):∃ob,m.obj k=some ob∧ob ≠ .dead:=by
 have hr:reads o=true:=by
  by_cases h2:reads o=true
  ·exact h2
  ·exfalso
   by_cases h1:Bio o=true
   ·have:=Aga (P:=P) (o:=o)
    cases o with
    | call c =>
     unfold opK at h
     dsimp only at h
     split at h
     ·rename_i hc;obtain⟨a,b,cc⟩:=c;simp only at hc;subst hc;cases h1
     ·have:=Akq (P:=P) ((rdK (by assumption)).run e) ((rdsK c.args.toList).run e)
      rw[show callK P _ _=_ from h]at this;exact this
     ·cases h
    | go c=>unfold opK at h;dsimp only at h;split at h<;>cases h
    | defer c =>
     unfold opK at h;dsimp only at h
     split at h
     ·dsimp only at h;split at h<;>cases h
     ·cases h
    | send a b=>unfold opK at h;dsimp only at h;split at h<;>cases h
    | recv t a ok =>
     unfold opK at h;dsimp only at h
     split at h
     ·split at h
      ·dsimp only at h;split at h<;>cases h
      ·cases h
     ·cases h
    | _=>cases h1
   ·have:=(Bke (P:=P) o (by simpa using h1) (by simpa using h2) e m).r
    rw[h]at this;exact this
 cases o with
 | load t a =>
  have h':loadM P t ((rdK a).run e) m = .rd x k:=h
  unfold loadM at h'
  split at h'
  ·split at h'
   ·rename_i l hl
    split at h'
    ·obtain⟨_,rfl⟩:=Ahu h'
     rw[Atu]at hl
     split at hl
     ·rename_i ob ho
      exact⟨ob,ho,fun e=>by subst e;cases hl⟩
     ·cases hl
    ·cases h'
   ·cases h'
  ·cases h'
 | lookup t a y ok =>
  unfold opK at h
  dsimp only at h
  split at h
  ·split at h
   ·rename_i mk z _ _
    have h':lookM mk z ok ((rdK a).run e) ((rdK y).run e) m = .rd x k:=h
    unfold lookM at h'
    split at h'
    ·split at h'
     ·rename_i es hes hok
      split at h'
      ·obtain⟨_,rfl⟩:=Ahu h';exact⟨_,hes,by simp⟩
      ·obtain⟨_,rfl⟩:=Ahu h';exact⟨_,hes,by simp⟩
      ·cases h'
     ·cases h'
    ·cases h'
   ·cases h
  ·cases h
 | _=>cases hr
/-- An allocation,as it is. -/
theorem Bdq{P t z c}(hz:xZeroT P t=some z)(hc:z.cells=some c):∃vs:List Value,(∀R,VR R c vs) ∧
  ∀(e':Env) ρ σ (Q:Next→Own→Prop) dd ty pos af g,(∀r,Q (.value (.pointer (some ⟨r,0,none⟩))) ((r,.obj (.cells vs.toArray t (0,0)))::σ))→wpS P ρ (execOp (Af e') ⟨dd,.alloc t,ty,pos,af,g⟩) σ Q:=by
 obtain⟨v,hv,rfl⟩:=Xa hz
 refine⟨v.cells.toList,fun R=>(vOf R v).cells hc,fun e' ρ σ Q dd ty pos af g hq=>?_⟩
 show wpS P ρ ((Instr.alloc t true (.tuple #[])).bind fun v=>Sem.pure (Next.value v)) σ Q
 rw[Ad]
 show wpS P ρ ((zeroValue t).bind _) σ _
 rw[Ad]
 refine Jz hv ?_
 show wpS P ρ ((newVar t v).bind _) σ _
 rw[Ad]
 refine Ik fun r=>?_
 have:=hq r
 rw[Alu]at this
 exact this
end
/-- An operation does not see what an early one has put. -/
theorem Bon{C b ops j d oj p e ds ρ σ}(hj:ops[j]?=some oj)(h1:d∉oj.looksAt ops)(h2:oj.dst≠some d)(hsel:∀cs b,oj.op ≠ .select cs b){K K'}(hK:∀e ds ρ σ,K e ds ρ σ→K' (Ja e (some d) p) ds ρ σ)(h:OpH C b ops j K e ds ρ σ):OpH C b ops j K' (Ja e (some d) p) ds ρ σ:=by
 have a:∀d',some d=some d'→d'∉oj.looksAt ops:=fun d' hd=>by cases hd;exact h1
 have hcm:∀u,Ja (Ja e (some d) p) oj.dst u=Ja (Ja e oj.dst u) (some d) p:=fun u=>Vx e p u (fun d' hd=>by cases hd;exact h2)
 unfold OpH at *
 simp only[hj]at *
 rw[Sd oj e (some d) p a]
 split
 ·rename_i hw
  rw[if_pos hw]at h
  rw[Ru oj hsel e (some d) p a]
  exact Eu (fun nx σ' hn=>hn.mono fun u ds ρ σ hh=>by rw[hcm];exact hK _ _ _ _ hh) _ _ h
 ·rename_i hw
  rw[if_neg hw]at h
  rw[hcm];exact hK _ _ _ _ h
theorem Bbh{P ops S d o v p e}(h1:d∉o.looksAt ops)(hsel:∀cs b,o.op ≠ .select cs b)(h:YieldsH P ops S o v e):YieldsH P ops S o v (Ja e (some d) p):=by
 have a:∀d',some d=some d'→d'∉o.looksAt ops:=fun d' hd=>by cases hd;exact h1
 unfold YieldsH at *
 rw[Ru o hsel e (some d) p a,Sd o e (some d) p a]
 exact h
end
section
open Go Go.Conc
/-- What has been written since: w behind u. -/
structure LogAt(m0 m:Mem)(w u:List Nat):Prop where
 log:m.log=w++(u++m0.log)
 ln:m.ln=m0.ln+u.length+w.length
 same:∀k,k<m0.nx→k∉w++u→m.obj k=m0.obj k
 nx:m0.nx≤m.nx
theorem LogAt.refl(m:Mem):LogAt m m [] []:=⟨rfl,rfl,fun _ _ _=>rfl,Lb _⟩
theorem LogAt.step{m0 m m' w u}(h:LogAt m0 m w u)(hk:Kept m m'):∃w',LogAt m0 m' (w'++w) u:=by
 obtain⟨w',a,b,c⟩:=hk.ex
 refine⟨w',by rw[a,h.log,lZ9],by rw[b,h.ln,lZ0];omega,fun k hlt hn=>?_,Tl h.nx hk.nx⟩
 rw[c k (Adf hlt h.nx) (fun hm=>hn (Uf _ (Uf _ hm))),h.same k hlt fun hm=>hn ?_]
 rcases Of.1 hm with hm|hm
 ·exact Uf _ (Pz _ hm)
 ·exact Pz _ hm
theorem LogAt.all{m0 m w u}(h:LogAt m0 m w u):LogAt m0 m [] (w++u) :=
 ⟨by rw[h.log,lZ9];rfl,by rw[h.ln,lZ0];simp only[lZ4];omega,h.same,h.nx⟩
/-- A region that is gone through. -/
structure RG(C:Ctx) where
 b:FB
 l:List Oper
 pz:List Nat
 R0:XR
 m0:Mem
 ρ0:Ro
 τ0:Own
 σ0:Own
 Kg:List Nat
 sf:St
section
variable{C:Ctx}
structure RG.Ok(g:RG C):Prop where
 sel:Apw g.l=true
 start:MemX g.R0 g.m0 g.ρ0 g.τ0 g.σ0
 nr:Jp g.σ0
 lt:∀k∈g.Kg,k<g.m0.nx
def RG.S(g:RG C):Ro→Own→Prop:=fun ρ σ=>∃R₁ m₁ σ₁,MemX R₁ m₁ ρ σ σ₁∧XR.le g.R0 R₁∧∀k∈g.Kg,m₁.obj k=g.m0.obj k
def RG.Q(g:RG C):Env→List Deferred→Ro→Own→Prop:=fun e ds ρ σ=>∃R',XR.le g.R0 R'∧Ro.le g.ρ0 ρ∧Sim R' g.sf e ds ρ σ g.σ0
def RG.A(g:RG C)(fuel:Nat)(li:List Bool)(e:Env)(ds:List Deferred)(ρ:Ro)(σ:Own):Prop:=El C g.b g.l.toArray g.Q g.pz g.S fuel li.toArray e ds ρ σ
structure RG.At(g:RG C)(st:St)(R:XR)(e:Env)(ds:List Deferred)(ρ:Ro)(σ σp:Own):Prop where
 le:XR.le g.R0 R
 rle:Ro.le g.ρ0 ρ
 sim:Sim R st e ds ρ σ σp
variable{g:RG C}{F:Fns}{st:St}{R:XR}{e:Env}{ds:List Deferred}{ρ:Ro}{σ σp:Own}{u:List Nat}{o:Oper}{x:CV}
theorem RG.At.S(h:g.At st R e ds ρ σ σp)(hg:g.Ok)(hl:LogAt g.m0 st.m [] u)(hu:∀k∈g.Kg,k∉u):g.S ρ σ :=
 ⟨R,st.m,σp,h.sim.mem,h.le,fun k hk=>hl.same k (hg.lt k hk) (by simpa using hu k hk)⟩
/-- What is taken first: it reads. -/
theorem Bpe{q}(hg:g.Ok)(hat:g.At st R e ds ρ σ σp)(hl:LogAt g.m0 st.m [] u)(hu:∀k∈g.Kg,k∉u)(he:(opK C.P o.op).run st.e st.m = .rd x q)(hok:xOkV x=true)(hq:q∈g.Kg)(hw:Bz g.l.toArray o e=true):
  ∃v,V1 R x v∧YieldsH C.P g.l.toArray g.S o v e:=by
 have b:st.m.obj q=g.m0.obj q:=hl.same q (hg.lt q hq) (by simpa using hu q hq)
 obtain⟨ob,ho,hd⟩:=Btj he
 obtain⟨qq,a⟩:=hg.start.known (b ▸ ho) hd
 have hR:=hat.le _ _ a
 have key:=Baf o.op R st.e e st.m x q hat.sim.env hat.sim.mem.globR he
 obtain⟨f,d,_⟩:=key g.R0 g.m0 g.ρ0 g.τ0 g.σ0 hg.start b.symm (by rw[a,hR])
 refine⟨f,d.mono hat.le,.inl ⟨hw,fun ρ' σ' hS=>?_⟩⟩
 obtain⟨h,t,y,i,c,j⟩:=hS
 obtain⟨w,n,p⟩:=key h t ρ' σ' y i (by rw[j q hq,b]) (by rw[c _ _ a,hR])
 have:w=f:=n.uniq (d.mono c) hok
 subst this
 obtain⟨dd,op,ty,pos,af,gd⟩:=o
 exact p dd ty pos af gd
theorem Btm{m1}(hat:g.At st R e ds ρ σ σp)(he:(opK C.P o.op).run st.e st.m = .v x m1)(hm:xMild o.op=true)(hn:m1.nx=st.m.nx)(hw:Bz g.l.toArray o e=true):
  ∃v,V1 R x v∧YieldsH C.P g.l.toArray g.S o v e:=by
 rcases Bkg o.op R st.e e st.m x m1 hat.sim.env hat.sim.mem.globR he with⟨_,v,hv,h⟩|⟨_,h,_⟩
 ·refine⟨v,hv,.inl ⟨hw,fun ρ' σ' _=>?_⟩⟩
  obtain⟨dd,op,ty,pos,af,gd⟩:=o
  exact h ρ' σ' dd ty pos af gd
 ·exact absurd hn (h hm)
theorem Bge(hw:Bz g.l.toArray o e=false):∃v,V1 R .undef v∧YieldsH C.P g.l.toArray g.S o v e:=⟨undef,.t .nil .nil,.inr ⟨hw,rfl⟩⟩
/-- The only one: what it does. -/
def UqOk(C:Ctx)(l:List Oper)(o:Oper)(st:St)(x:CV)(m1:Mem)(ds1:List CD):Prop :=
 ((guardK l o).run st.e=false∧x = .undef∧m1=st.m∧ds1=st.ds)∨((guardK l o).run st.e=true∧Auk C o.op st x m1 ds1)
theorem UqOk.kept{l m1 ds1}(h:UqOk C l o st x m1 ds1):Kept st.m m1∧m1.outs=st.m.outs∧ds1=st.ds:=by
 rcases h with⟨_,_,rfl,rfl⟩|⟨_,a,b,c,_⟩
 ·exact⟨.refl _,rfl,rfl⟩
 ·exact⟨a,b,c⟩
theorem Bqw{b i l m1 ds1}(h:UqOk C l o st x m1 ds1)(hi:l[i]?=some o)(hk:(gokK l o).run st.e=true)(hn:Jp σp)(hs:Sim R st e ds ρ σ σp):
  OpH C b l.toArray i (fun e' ds' ρ' σ'=>ds'=ds∧∃R' v,XR.le R R'∧Ro.le ρ ρ'∧e'=Ja e o.dst v∧V1 R' x v∧MemX R' m1 ρ' σ' σp) e ds ρ σ:=by
 have hw:=Xy hs.env hk
 unfold OpH
 rw[Qx,hi]
 simp only
 rcases h with⟨a,rfl,rfl,rfl⟩|⟨a,_,_,_,c⟩
 ·rw[if_neg (by rw[hw,a];simp)]
  exact⟨trivial,R,undef,.refl,.refl,rfl,.t .nil .nil,hs.mem⟩
 ·rw[if_pos (by rw[hw,a])]
  obtain⟨dd,op,ty,pos,af,gd⟩:=o
  refine Eu (fun nx σ' hx=>hx.mono ?_) _ _ (c R e ds ρ σ σp b.round dd ty pos af gd hn hs)
  rintro v ds1 ρ' σ' ⟨rfl,R',d,f,g,j⟩
  exact⟨rfl,R',v,d,f,rfl,g,j⟩
end
/-- The operation that may come early. -/
structure FlD(P:Program)(l:List Oper)(f d:Nat)(t:TypeId)(c:List CV)(vs:List Value):Prop where
 at_:∃ty pos,l[f]?=some ⟨some d,.alloc t,ty,pos,#[],none⟩
 vr:∀R,VR R c vs
 raw:∀(e':Env) ρ σ (Q:Next→Own→Prop) dd ty pos af g,(∀r,Q (.value (.pointer (some ⟨r,0,none⟩))) ((r,.obj (.cells vs.toArray t (0,0)))::σ))→wpS P ρ (execOp (Af e') ⟨dd,.alloc t,ty,pos,af,g⟩) σ Q
 run:∀e m,(opK P (.alloc t)).run e m = .v (.p m.nx 0) (m.add (.cells c))
 free:∀(j:Nat) oj,l[j]?=some oj→j≠f→(∀e∈oj.after,Region.binds .any e=true→e.on≠f)→d∉oj.looksAt l.toArray∧oj.dst≠some d
theorem Bsk{P l f}(h:xFloat l=some f)(ha:xAlOk P l (some f)=true):∃d t c vs,FlD P l f d t c vs:=by
 have he:xEarly l f=true:=List.find?_some h
 unfold xEarly at he
 cases hf:l[f]? with
 | none=>rw[hf]at he;cases he
 | some o =>
  rw[hf]at he
  simp only[Tj]at he
  obtain⟨⟨a,b⟩,g⟩:=he
  unfold xAlOk at ha
  simp only[hf]at ha
  obtain⟨dst,op,ty,pos,af,gd⟩:=o
  simp only at a b g ha
  split at a
  ·rename_i t d
   simp only at ha
   split at ha
   ·rename_i z hz
    split at ha
    ·rename_i c hc
     obtain⟨vs,n,p⟩:=Bdq hz hc
     have haf:af = #[]:=by
      rw[List.isEmpty_iff]at b
      apply Array.ext';simpa using b
     subst haf
     refine⟨d,t,c,vs,⟨ty,pos,hf⟩,n,p,fun e m=>?_,fun j oj hj hne hno=>?_⟩
     ·unfold opK;simp only[hz,hc]
     ·have hap:=Region.free_spec (md:=.any) (ops:=l.toArray) (by rw[Qx];exact hf) (Ahw g) j oj (by rw[Qx];exact hj) hne (by
       rw[Si,Alq,List.getElem?_replicate]
       have:j<l.length:=(Mq.1 hj).1
       rw[if_pos this];rfl) hno
      obtain⟨i,k,_⟩:=Oper.apart_spec hap
      exact⟨i d rfl,k d rfl⟩
    ·cases ha
   ·cases ha
  ·cases a
section
variable{C:Ctx}{P:Program}{l:List Oper}{f d:Nat}{t:TypeId}{c:List CV}{vs:List Value}{li:List Bool}
theorem Aqz{i o}(hi:i∈Dl l li)(ho:l[i]?=some o)(hf:li.getD f true=false):∀e∈o.after,Region.binds .any e=true→e.on≠f:=fun e he hb heq=>by
 rw[To]at hi
 obtain⟨_,o',ho',b⟩:=mem_ready.1 hi
 rw[Qx,ho]at ho'
 cases ho'
 have a:=b e he hb
 rw[Si,heq]at a
 rw[Alq]at a hf
 cases hx:li[f]? with
 | none=>rw[hx]at a;cases a
 | some y=>rw[hx]at a hf;simp only[Bji]at a hf;rw[a]at hf;cases hf
theorem Aac(h:FlD P l f d t c vs)(hf:li.getD f true=false):f∈Dl l li:=by
 rw[To,mem_ready]
 obtain⟨ty,pos,ha⟩:=h.at_
 refine⟨by rw[Si];exact hf,_,by rw[Qx];exact ha,fun e he _=>by simp at he⟩
end
end
section
open Go Go.Conc
section
variable{C:Ctx}{F:Fns}
def Bgo(g:RG C)(fl:Option Nat)(r:List (Nat×Bool×Bool))(st:St):Prop:=∀li,xGood g.l fl g.pz r li=true →
 (∀fuel R e ds ρ σ,r.length≤fuel→g.At st R e ds ρ σ g.σ0→g.A fuel li e ds ρ σ) ∧
 (∀f d t c vs rB fuel R e ds ρ σ,fl=some f→li.getD f true=false→FlD C.P g.l f d t c vs→r.length≤fuel+1→g.At st R e ds ρ σ ((rB,.obj (.cells vs.toArray t (0,0)))::g.σ0) →
  g.A fuel (li.set f true) (Ja e (some d) (.pointer (some ⟨rB,0,none⟩))) ds ρ σ)
theorem Agc{l fl pz i tk fp r li}(h:xGood l fl pz ((i,tk,fp)::r) li=true):
  i∈Dl l li∧xGood l fl pz r (li.set i true)=true∧(tk=true→i∈pz∧xTake l li i=true∧∀f,fl=some f→f≠i)∧(tk=false→xOnly l fl li i=true∧(xFp fl li i=true→fp=true)):=by
 unfold xGood at h
 cases tk with
 | true =>
  simp only[Tj]at h
  obtain⟨⟨b,a⟩,c⟩:=h
  refine⟨by simpa using b,c,fun _=>⟨by simpa using a.1.1,a.1.2,fun f hf e=>?_⟩,fun ht=>by cases ht⟩
  subst hf e
  have:=a.2
  simp at this
 | false =>
  simp only[Tj]at h
  obtain⟨⟨b,a⟩,c⟩:=h
  refine⟨by simpa using b,c,fun ht=>(by cases ht),fun _=>⟨a.1,fun hx=>?_⟩⟩
  have:=a.2
  rw[hx]at this
  exact this
theorem Bom{l fl i j li}(h:xOnly l fl li i=true)(hj:j∈Dl l li):j=i∨(fl=some j∧li.getD j true=false∧j≠i):=by
 unfold xOnly xRest0 at h
 cases fl with
 | none =>
  have:=Tk.1 h j hj
  exact .inl (Vg this).symm
 | some f =>
  simp only at h
  cases hb:Nat.beq f i with
  | true =>
   rw[hb]at h
   have:=Tk.1 h j hj
   exact .inl (Vg this).symm
  | false =>
   rw[hb]at h
   by_cases hjf:j=f
   ·subst hjf
    exact .inr ⟨rfl,Bfm hj,fun e=>by subst e;simp at hb⟩
   ·have:=Tk.1 h j (Aao hj hjf)
    exact .inl (Vg this).symm
theorem Bkc{l f i j li}(h:xOnly l (some f) li i=true)(hne:f≠i)(hj:j∈Dl l (li.set f true)):j=i:=by
 unfold xOnly xRest0 at h
 simp only at h
 have hb:Nat.beq f i=false:=by
  cases hb:Nat.beq f i with
  | true=>exact absurd (Vg hb) hne
  | false=>rfl
 rw[hb]at h
 have:=Tk.1 h j hj
 exact(Vg this).symm
/-- One that is taken. -/
theorem Agy{g:RG C}{fl i fp r o st st1 u x}(hg:g.Ok)(hi:g.l[i]?=some o)(hl:LogAt g.m0 st.m [] u)(hu:∀k∈g.Kg,k∉u)(hst:st1=⟨(dstK o.dst).run st.e x,st.m,st.ds⟩)(hy:∀R e ds ρ σ σp,g.At st R e ds ρ σ σp→∃v,V1 R x v∧YieldsH C.P g.l.toArray g.S o v e)(ih:Bgo g fl r st1):Bgo g fl ((i,true,fp)::r) st:=by
 intro li hgd
 obtain⟨hr,hgr,ht,_⟩:=Agc hgd
 obtain⟨hpz,htk,hnf⟩:=ht rfl
 obtain⟨ihA,ihB⟩:=ih _ hgr
 have h:=Region.noSelect_spec (Alr hg.sel)
 have y:Ahv g.l li i=true:=by
  unfold xTake at htk
  rw[Tj]at htk
  exact htk.2
 have hfs:=Region.free_spec (md:=.any) (ops:=g.l.toArray) (i:=i) (oi:=o) (by rw[Qx];exact hi) (Ahw y)
 have hi':g.l.toArray[i]?=some o:=by rw[Qx];exact hi
 refine⟨fun a R e ds ρ σ b hat=>?_,fun f d t c vs rB a R e ds ρ σ hfl hfu hfd b hat=>?_⟩
 ·obtain⟨v,hv,hyv⟩:=hy R e ds ρ σ _ hat
  cases a with
  | zero=>simp at b
  | succ a =>
   refine Aaq hi' hpz h a _ e ds ρ σ hfs (To.1 hr) hyv (hat.S hg hl hu) ?_
   rw[Rz]
   refine ihA a R _ ds ρ σ (by simpa using b) ?_
   subst hst
   exact⟨hat.le,hat.rle,Abh hat.sim.env hv,hat.sim.mem,hat.sim.ds⟩
 ·obtain⟨v,hv,hyv⟩:=hy R e ds ρ σ _ hat
  have hne:f≠i:=hnf f hfl
  obtain⟨q,w⟩:=hfd.free i o hi (Ne.symm hne) (Aqz hr hi hfu)
  have n:(li.set i true).getD f true=false:=by rw[Yx (Ne.symm hne)];exact hfu
  cases a with
  | zero =>
   exfalso
   have z:r=[]:=Bbu.1 (by simpa using b)
   subst z
   have:=Aac (li:=li.set i true) hfd n
   have p:(match Dl g.l (li.set i true) with|[]=>true|_=>false)=true:=hgr
   split at p
   ·rename_i h0;rw[h0]at this;cases this
   ·cases p
  | succ a =>
   refine Aaq hi' hpz h a _ _ ds ρ σ ?_ ?_ (Bbh q (fun cs bb=>h i o cs bb hi') hyv) (hat.S hg hl hu) ?_
   ·intro j oj hj hji hun hno
    refine hfs j oj hj hji ?_ hno
    rw[Si]at hun ⊢
    by_cases hjf:f=j
    ·subst hjf;exact hfu
    ·rw[Yx hjf]at hun;exact hun
   ·exact To.1 (Aao hr (Ne.symm hne))
   ·rw[Rz,List.set_comm _ _ hne,Vx e _ v (fun d' hd=>by cases hd;exact w)]
    refine ihB f d t c vs rB a R _ ds ρ σ hfl n hfd (by simpa using b) ?_
    subst hst
    exact⟨hat.le,hat.rle,Abh hat.sim.env hv,hat.sim.mem,hat.sim.ds⟩
/-- The only one. -/
theorem Are{g:RG C}{fl i fp r o st st1 w u w1 u1 x m1 ds1}(hg:g.Ok)(hi:g.l[i]?=some o)(hl:LogAt g.m0 st.m w u)(hu:∀k∈g.Kg,k∉u)(hl1:LogAt g.m0 m1 w1 u1)(hu1:∀k∈g.Kg,k∉u1)(hlate:xLate g.l g.pz i=false→w1=[])(hfp:xFpc fp g.pz=true→w=[])(hfl:∀f,fl=some f→∃d t c vs,FlD C.P g.l f d t c vs)(hk:(gokK g.l o).run st.e=true)(hst:st1=⟨(dstK o.dst).run st.e x,m1,ds1⟩)(hdo:UqOk C g.l o st x m1 ds1)(hal:∀f d t c vs,fl=some f→f=i→FlD C.P g.l f d t c vs→x = .p st.m.nx 0∧m1=st.m.add (.cells c))(ih:Bgo g fl r st1):Bgo g fl ((i,false,fp)::r) st:=by
 intro li hgd
 have a3:=hgd
 obtain⟨hr,hgr,_,ht⟩:=Agc hgd
 obtain⟨hon,Z⟩:=ht rfl
 obtain⟨ihA,ihB⟩:=ih _ hgr
 have a2:=Region.noSelect_spec (Alr hg.sel)
 have hi':g.l.toArray[i]?=some o:=by rw[Qx];exact hi
 have hds:=hdo.kept.2.2
 have U:Pg g.l.toArray g.pz i=false→w1=[]:=fun h=>hlate (by rw[←Bcn];exact h)
 have B:∀f d t c vs rB n R e ds ρ σ,fl=some f→li.getD f true=false→FlD C.P g.l f d t c vs→r.length+1≤n+1→g.At st R e ds ρ σ ((rB,.obj (.cells vs.toArray t (0,0)))::g.σ0) →
   g.A n (li.set f true) (Ja e (some d) (.pointer (some ⟨rB,0,none⟩))) ds ρ σ:=by
  intro f d t c vs rB n R e ds ρ σ I hfu hfd D hat
  by_cases hne:f=i
  ·obtain⟨hx,a0⟩:=hal f d t c vs I hne hfd
   subst hne
   obtain⟨ty,pos,F⟩:=hfd.at_
   rw[hi]at F
   cases F
   have had:=hat.sim.mem.adopt (b:=rB) (c:=0) (r:=.obj (.cells vs.toArray t (0,0))) (o:=.cells c) (.cells (hfd.vr _) (Beo _))
   refine ihA n (R.add st.m.nx (rB,0)) _ ds ρ σ (by omega) ?_
   subst hst hx a0
   refine⟨hat.le.trans had.1,hat.rle,?_,had.2,?_⟩
   ·exact(hat.sim.env.mono had.1).set (.p XR.add_same .nil)
   ·rw[hds];exact hat.sim.ds.mono had.1
  ·obtain⟨W,X⟩:=hfd.free i o hi (Ne.symm hne) (Aqz hr hi hfu)
   have O:(li.set i true).getD f true=false:=by rw[Yx (Ne.symm hne)];exact hfu
   cases n with
   | zero =>
    exfalso
    have a1:r=[]:=Bbu.1 (by omega)
    subst a1
    have:=Aac (li:=li.set i true) hfd O
    have T:(match Dl g.l (li.set i true) with|[]=>true|_=>false)=true:=hgr
    split at T
    ·rename_i q;rw[q]at this;cases this
    ·cases T
   | succ n =>
    refine Mz (rs:=Dl g.l (li.set f true)) (Hh _ _) (fun q=>?_) fun j hj=>?_
    ·have:=Aao hr (Ne.symm hne);rw[q]at this;cases this
    ·subst I
     have hji:=Bkc hon hne hj
     subst hji
     have hn':Jp ((rB,.obj (.cells vs.toArray t (0,0)))::g.σ0):=fun c' vs' hm=>by
      rcases Nc.1 hm with q|q
      ·cases q
      ·exact hg.nr c' vs' q
     refine Bon hi' W X (fun cs bb=>a2 j o cs bb hi') ?_ (Bqw (b:=g.b) hdo hi hk hn' hat.sim)
     rintro V E G H ⟨rfl,R',v,z,K,rfl,L,M⟩
     have y:g.At st1 R' (Ja e o.dst v) E G H ((rB,.obj (.cells vs.toArray t (0,0)))::g.σ0):=by
      subst hst
      exact⟨hat.le.trans z,hat.rle.trans K,Abh (hat.sim.env.mono z) L,M,by rw[hds];exact hat.sim.ds.mono z⟩
     have J:LogAt g.m0 st1.m w1 u1:=by subst hst;exact hl1
     refine⟨fun hla=>?_,?_⟩
     ·have:=U hla
      subst this
      exact y.S hg J hu1
     ·rw[Rz,List.set_comm _ _ hne]
      exact ihB f d t c vs rB n R' _ E G H rfl O hfd (by omega) y
 refine⟨fun n R e ds ρ σ D hat=>?_,fun f d t c vs rB n R e ds ρ σ I hfu hfd D hat=>B f d t c vs rB n R e ds ρ σ I hfu hfd (by simpa using D) hat⟩
 cases n with
 | zero=>simp at D
 | succ n =>
  refine Mz (rs:=Dl g.l li) (Hh _ _) (fun q=>by rw[q]at hr;cases hr) fun j hj=>?_
  rcases Bom hon hj with rfl|⟨hflj,hfu,hne⟩
  ·refine(Bqw (b:=g.b) hdo hi hk hg.nr hat.sim).mono ?_
   rintro V E G H ⟨rfl,R',v,z,K,rfl,L,M⟩
   have y:g.At st1 R' (Ja e o.dst v) E G H g.σ0:=by
    subst hst
    exact⟨hat.le.trans z,hat.rle.trans K,Abh (hat.sim.env.mono z) L,M,by rw[hds];exact hat.sim.ds.mono z⟩
   have J:LogAt g.m0 st1.m w1 u1:=by subst hst;exact hl1
   refine⟨fun hla=>?_,?_⟩
   ·have:=U hla
    subst this
    exact y.S hg J hu1
   ·rw[Rz]
    exact ihA n R' _ E G H (by simpa using D) y
  ·obtain⟨d,t,c,vs,hfd⟩:=hfl j hflj
   obtain⟨ty,pos,F⟩:=hfd.at_
   unfold OpH
   rw[Qx,F]
   simp only
   rw[if_pos (by rfl)]
   refine hfd.raw _ ρ σ _ _ _ _ _ _ fun N=>?_
   have y:g.At st R e ds ρ ((N,.obj (.cells vs.toArray t (0,0)))::σ) ((N,.obj (.cells vs.toArray t (0,0)))::g.σ0):=⟨hat.le,hat.rle,hat.sim.env,hat.sim.mem.frame,hat.sim.ds⟩
   refine⟨fun hla=>?_,?_⟩
   ·have hpz:g.pz≠[]:=fun q=>by
     rw[Bcn]at hla
     unfold xLate at hla
     rw[F,q]at hla
     simp at hla
    have hw:w=[]:=by
     refine hfp ?_
     have Y:fp=true:=Z (by
      unfold xFp
      rw[hflj]
      simp only
      rw[hfu]
      have:Nat.beq j i=false:=by
       cases hb:Nat.beq j i with
       | true=>exact absurd (Vg hb) hne
       | false=>rfl
      rw[this];rfl)
     subst Y
     unfold xFpc
     cases hz:g.pz with
     | nil=>exact absurd hz hpz
     | cons a b=>rfl
    subst hw
    exact y.S hg hl hu
   ·rw[Rz]
    exact B j d t c vs N n R e ds ρ _ hflj hfu hfd (by simpa using D) y
end
end
section
open Go Go.Conc
section
variable{C:Ctx}{F:Fns}
theorem Bmd{P:Program}{l:List Oper}{pz:List Nat}{i:Nat}{fp:Bool}{r:List (Nat×Bool×Bool)}{o:Oper}(hi:l[i]?=some o){rd:Option Nat}{K lg:List Nat}{ln n0 nx0:Nat}{st:St} :
  (anyK P l pz ((i,true,fp)::r)).run F rd K lg ln n0 nx0 st=(match Nat.beq ln st.m.ln,(gokK l o).run st.e with
    | true,true=>match (guardK l o).run st.e with
     | false=>(anyK P l pz r).run F rd K lg ln n0 nx0 ⟨(dstK o.dst).run st.e .undef,st.m,st.ds⟩
     | true=>match (opK P o.op).run st.e st.m with
      | .rd x q=>match xOkV x,Nat.ble (Nat.succ q) nx0 with
       | true,true=>(anyK P l pz r).run F rd (q::K) lg ln n0 nx0 ⟨(dstK o.dst).run st.e x,st.m,st.ds⟩
       | _,_=>.bad
      | .v x m=>match Nat.beq m.nx st.m.nx with
       | true=>(anyK P l pz r).run F rd K lg ln n0 nx0 ⟨(dstK o.dst).run st.e x,st.m,st.ds⟩
       | false=>.bad
      | _=>.bad
    | _,_=>.bad):=by
 rw[anyK]
 simp only[hi]<;>rfl
theorem Bme{P:Program}{l:List Oper}{pz:List Nat}{i:Nat}{fp:Bool}{r:List (Nat×Bool×Bool)}{o:Oper}(hi:l[i]?=some o){rd:Option Nat}{K lg:List Nat}{ln n0 nx0:Nat}{st:St} :
  (anyK P l pz ((i,false,fp)::r)).run F rd K lg ln n0 nx0 st=(match (match xFpc fp pz with|true=>Nat.beq ln st.m.ln|false=>true),(gokK l o).run st.e with
    | true,true=>match (match (guardK l o).run st.e with|false=>OV.v .undef st.m st.ds|true=>doOR F st ((opK P o.op).run st.e st.m)) with
     | .v x m ds=>match xLate l pz i with
      | true=>(anyK P l pz r).run F rd K lg ln n0 nx0 ⟨(dstK o.dst).run st.e x,m,ds⟩
      | false=>(anyK P l pz r).run F rd K m.log m.ln n0 nx0 ⟨(dstK o.dst).run st.e x,m,ds⟩
     | .bad=>.bad
    | _,_=>.bad):=by
 rw[anyK]
 simp only[hi]<;>rfl
theorem Bdr{P l pz i tk fp r}(hi:l[i]?=none){rd K lg ln n0 nx0 st}:
  (anyK P l pz ((i,tk,fp)::r)).run F rd K lg ln n0 nx0 st = .bad:=by
 rw[anyK]
 simp only[hi]
theorem Ic{ex st}(h:Go.Proofs.YtninnkechkolnaaGreatDoor.R.bad=Ng ex st):False:=by cases ex<;>cases h
/-- What a run of a plan says. -/
def Bwf(C:Ctx)(l:List Oper)(pz:List Nat)(fl:Option Nat)(m0:Mem)(r:List (Nat×Bool×Bool))(K u:List Nat)(st:St)(ex:Ex)(st':St):Prop :=
 ex = .normal∧Kept st.m st'.m∧st'.m.outs=st.m.outs∧st'.ds=st.ds∧∃Kf uf:List Nat,(∀k∈K,k∈Kf)∧(∀k∈u,k∈uf)∧(∀k∈Kf,k∉uf∧(k∈K∨k<m0.nx)) ∧
  ∀g:RG C,g.Ok→g.l=l→g.pz=pz→g.m0=m0→g.sf=st'→(∀k∈Kf,k∈g.Kg)→(∀k∈g.Kg,k∉uf)→Bgo g fl r st
theorem Afo(hF:FnsOk C F){l:List Oper}{pz:List Nat}{fl:Option Nat}{m0:Mem}(hfl:∀f,fl=some f→∃d t c vs,FlD C.P l f d t c vs):∀(r:List (Nat×Bool×Bool)) (K lg:List Nat) (ln:Nat) (st:St) (rd:Option Nat) (ex:Ex) (st':St) (w u:List Nat),
  (∀li,xGood l fl pz r li=true→True)→(∀i tk fp,(i,tk,fp)∈r→tk=true→∀o,l[i]?=some o→xMild o.op=true) →
  (anyK C.P l pz r).run F rd K lg ln m0.ln m0.nx st=Ng ex st'→LogAt m0 st.m w u→lg=u++m0.log→ln=m0.ln+u.length→Bwf C l pz fl m0 r K u st ex st'
 | [],K,lg,ln,st,rd,ex,st',w,u,_,_,h,hl,hlg,hln=>by
  have h':(match xNoneOf K (Nat.sub ln m0.ln) lg with|true=>Go.Proofs.YtninnkechkolnaaGreatDoor.R.n st|false=>.bad)=Ng ex st':=h
  split at h'
  ·rename_i hno
   cases ex with
   | normal =>
    cases h'
    refine⟨rfl,.refl _,rfl,rfl,K,u,fun k hk=>hk,fun k hk=>hk,fun k hk=>⟨Aqy hno hlg (by show u.length=ln-m0.ln;omega) k hk,.inl hk⟩,?_⟩
    rintro g hg rfl rfl rfl hsf hK hu li hgd
    have I:(match Dl g.l li with|[]=>true|_=>false)=true:=hgd
    have J:Dl g.l li=[]:=by
     split at I
     ·assumption
     ·cases I
    refine⟨fun H R e ds ρ σ _ hat=>?_,fun f d t c vs rB H R e ds ρ σ _ hfu hfd _ hat=>?_⟩
    ·exact Aeb (by rw[Hh];exact J) ⟨R,hat.le,hat.rle,by rw[hsf];exact hat.sim⟩ H
    ·have:=Aac (li:=li) hfd hfu
     rw[J]at this;cases this
   | exit id=>cases h'
   | ret=>cases h'
  ·exact(Ic h').elim
 | (i,tk,fp)::r,K,lg,ln,st,rd,ex,st',w,u,hx,hmd,h,hl,hlg,hln=>by
  cases hi:l[i]? with
  | none=>rw[Bdr hi]at h;exact(Ic h).elim
  | some o =>
   have G:∀i tk fp,(i,tk,fp)∈r→tk=true→∀o,l[i]?=some o→xMild o.op=true:=fun i tk fp hm=>hmd i tk fp (lZ7 _ hm)
   have hx':∀li,xGood l fl pz r li=true→True:=fun _ _=>trivial
   cases tk with
   | true =>
    rw[Bmd hi]at h
    split at h
    ·rename_i hb hgk
     have hw:w=[]:=by
      have b:=Vg hb
      have j:=hl.ln
      exact Bbu.1 (by omega)
     subst hw
     split at h
     ·rename_i hgd
      obtain⟨b,j,B,D,Kf,uf,v,a,y,z⟩:=Afo hF hfl r K lg ln ⟨(dstK o.dst).run st.e .undef,st.m,st.ds⟩ rd ex st' [] u hx' G h hl hlg hln
      refine⟨b,j,B,D,Kf,uf,v,a,y,?_⟩
      rintro g hg rfl rfl rfl hsf hK hu
      exact Agy hg hi hl (fun k hk hm=>hu k hk (a k hm)) rfl (fun R e ds ρ σ σp hat=>Bge (by rw[Xy hat.sim.env hgk];exact hgd)) (z g hg rfl rfl rfl hsf hK hu)
     ·rename_i hgd
      split at h
      ·rename_i x q he
       split at h
       ·rename_i hok hq
        obtain⟨b,j,B,D,Kf,uf,v,a,y,z⟩:=Afo hF hfl r (q::K) lg ln ⟨(dstK o.dst).run st.e x,st.m,st.ds⟩ rd ex st' [] u hx' G h hl hlg hln
        refine⟨b,j,B,D,Kf,uf,fun k hk=>v k (lZ7 _ hk),a,fun k hk=>⟨(y k hk).1,?_⟩,?_⟩
        ·rcases (y k hk).2 with E|E
         ·rcases Nc.1 E with rfl|E
          ·exact .inr (Qz hq)
          ·exact .inl E
         ·exact .inr E
        ·rintro g hg rfl rfl rfl hsf hK hu
         have hu':∀k∈g.Kg,k∉u:=fun k hk hm=>hu k hk (a k hm)
         exact Agy hg hi hl hu' rfl (fun R e ds ρ σ σp hat=>Bpe hg hat hl hu' he hok (hK q (v q mC)) (by rw[Xy hat.sim.env hgk];exact hgd)) (z g hg rfl rfl rfl hsf hK hu)
       ·exact(Ic h).elim
      ·rename_i x m1 he
       split at h
       ·rename_i hnx
        obtain⟨b,j,B,D,Kf,uf,v,a,y,z⟩:=Afo hF hfl r K lg ln ⟨(dstK o.dst).run st.e x,st.m,st.ds⟩ rd ex st' [] u hx' G h hl hlg hln
        refine⟨b,j,B,D,Kf,uf,v,a,y,?_⟩
        rintro g hg rfl rfl rfl hsf hK hu
        exact Agy hg hi hl (fun k hk hm=>hu k hk (a k hm)) rfl (fun R e ds ρ σ σp hat=>Btm hat he (hmd i true fp mC rfl o hi) (Vg hnx) (by rw[Xy hat.sim.env hgk];exact hgd)) (z g hg rfl rfl rfl hsf hK hu)
       ·exact(Ic h).elim
      ·exact(Ic h).elim
    ·exact(Ic h).elim
   | false =>
    rw[Bme hi]at h
    split at h
    ·rename_i hfpc hgk
     have hfp:xFpc fp pz=true→w=[]:=fun hf=>by
      rw[hf]at hfpc
      have b:=Vg hfpc
      have j:=hl.ln
      exact Bbu.1 (by omega)
     split at h
     ·rename_i x m1 ds1 hov
      have hdo:UqOk C l o st x m1 ds1:=by
       split at hov
       ·rename_i hgd;cases hov;exact .inl ⟨hgd,rfl,rfl,rfl⟩
       ·rename_i hgd;exact .inr ⟨hgd,Aiv hF hov⟩
      have hal:∀f d t c vs,fl=some f→f=i→FlD C.P l f d t c vs→x = .p st.m.nx 0∧m1=st.m.add (.cells c):=by
       rintro f d t c vs hf rfl hfd
       obtain⟨ty,pos,ha⟩:=hfd.at_
       rw[hi]at ha
       cases ha
       have hgd:(guardK l ⟨some d,.alloc t,ty,pos,#[],none⟩).run st.e=true:=rfl
       rw[hgd]at hov
       simp only[hfd.run]at hov
       obtain⟨b,j,_⟩:=Bki hov
       exact⟨b.symm,j.symm⟩
      obtain⟨w',hl'⟩:=hl.step hdo.kept.1
      split at h
      ·rename_i hlt
       obtain⟨b,j,B,D,Kf,uf,v,a,y,z⟩:=Afo hF hfl r K lg ln ⟨(dstK o.dst).run st.e x,m1,ds1⟩ rd ex st' _ u hx' G h hl' hlg hln
       refine⟨b,hdo.kept.1.trans j,B.trans hdo.kept.2.1,D.trans hdo.kept.2.2,Kf,uf,v,a,y,?_⟩
       rintro g hg rfl rfl rfl hsf hK hu
       have hu':∀k∈g.Kg,k∉u:=fun k hk hm=>hu k hk (a k hm)
       exact Are hg hi hl hu' hl' hu' (fun E=>by rw[hlt]at E;cases E) hfp hfl hgk rfl hdo hal (z g hg rfl rfl rfl hsf hK hu)
      ·rename_i hlt
       have hla:=hl'.all
       obtain⟨b,j,B,D,Kf,uf,v,a,y,z⟩:=Afo hF hfl r K m1.log m1.ln ⟨(dstK o.dst).run st.e x,m1,ds1⟩ rd ex st' [] ((w'++w)++u) hx' G h hla (by rw[hla.log];rfl) (by have:=hla.ln;simpa using this)
       refine⟨b,hdo.kept.1.trans j,B.trans hdo.kept.2.1,D.trans hdo.kept.2.2,Kf,uf,v,fun k hk=>a k (Pz _ hk),y,?_⟩
       rintro g hg rfl rfl rfl hsf hK hu
       exact Are hg hi hl (fun k hk hm=>hu k hk (a k (Pz _ hm))) hla (fun k hk hm=>hu k hk (a k hm)) (fun _=>rfl) hfp hfl hgk rfl hdo hal (z g hg rfl rfl rfl hsf hK hu)
     ·exact(Ic h).elim
    ·exact(Ic h).elim
theorem Apx{b:FB}{ops:Array Oper}{Q Q':Env→List Deferred→Ro→Own→Prop}{pz:List Nat}{S:Ro→Own→Prop}(hq:∀e ds ρ σ,Q e ds ρ σ→Q' e ds ρ σ):∀(fuel:Nat) (li:Array Bool) (e:Env) (ds:List Deferred) (ρ:Ro) (σ:Own),El C b ops Q pz S fuel li e ds ρ σ→El C b ops Q' pz S fuel li e ds ρ σ
 | 0,li,e,ds,ρ,σ,h=>⟨h.1,hq _ _ _ _ h.2⟩
 | fuel+1,li,e,ds,ρ,σ,h=>by
  rcases h with h|⟨ρ1,σ1,h1,h2,h3,h4⟩
  ·exact .inl h
  ·exact .inr ⟨ρ1,σ1,h1,h2,fun h0=>hq _ _ _ _ (h3 h0),fun i hi=>(h4 i hi).mono fun e ds ρ σ h=>⟨h.1,Apx hq fuel _ e ds ρ σ h.2⟩⟩
theorem Aqn{l:List Oper}{fl:Option Nat}{pz:List Nat}:∀{r:List (Nat×Bool×Bool)} {li:List Bool},xGood l fl pz r li=true→∀i tk fp,(i,tk,fp)∈r→tk=true→∀o,l[i]?=some o→xMild o.op=true
 | [],_,_,_,_,_,hm,_,_,_=>by cases hm
 | (i0,tk0,fp0)::r,li,h,i,tk,fp,hm,ht,o,ho=>by
  obtain⟨_,h2,h3,_⟩:=Agc h
  rcases Nc.1 hm with h0|h0
  ·cases h0
   have:=(h3 ht).2.1
   unfold xTake at this
   rw[ho]at this
   simp only[Tj]at this
   exact this.1.1
  ·exact Aqn h2 i tk fp h0 ht o ho
theorem Aez(l:List Oper)(fl:Option Nat):∀(n:Nat) (li:List Bool),(xPlan l fl n li).length≤n
 | 0,_=>Lb _
 | n+1,li=>by
  unfold xPlan
  split
  ·split
   ·split
    ·exact Hz _
    ·exact Awb (Aez l _ n _)
   ·exact Hz _
  ·split
   ·exact Awb (Aez l _ n _)
   ·split
    ·exact Awb (Aez l _ n _)
    ·exact Hz _
/-- A drawn region that starts no goroutine. -/
theorem Avk(hF:FnsOk C F){l st rd ex st'}(h:(drawK C.P l).run F rd st=Ng ex st'):
  C.P.follows .mixedOrders=true∧ex = .normal∧Kept st.m st'.m∧st'.m.outs=st.m.outs∧∃pz,∀b R e ds ρ σ σ₀,Jp σ₀→Sim R st e ds ρ σ σ₀ →
   ∃S:Ro→Own→Prop,El C b l.toArray (fun e' ds' ρ' σ'=>∃R',XR.le R R'∧Ro.le ρ ρ'∧Sim R' st' e' ds' ρ' σ' σ₀) pz S l.length (List.replicate l.length false).toArray e ds ρ σ:=by
 unfold drawK at h
 split at h
 ·rename_i hsel hmx hal
  refine⟨hmx,?_⟩
  simp only at h
  split at h
  ·rename_i hgood hany
   have hk:∀{k:KD},(∃f,k=⟨f⟩)→True:=fun _=>trivial
   generalize hp:xPlan l (xFloat l) l.length (List.replicate l.length false)=p at *
   have u:(anyK C.P l (xPz p) p).run F rd [] st.m.log st.m.ln st.m.ln st.m.nx st=Ng ex st':=by
    rw[hany];exact h
   have hfl:∀f,xFloat l=some f→∃d t c vs,FlD C.P l f d t c vs:=fun f hf=>Bsk hf (by rw[←hf];exact hal)
   obtain⟨j,n,q,x,Kf,uf,v,w,a,i⟩:=Afo hF (pz:=xPz p) hfl p [] st.m.log st.m.ln st rd ex st' [] [] (fun _ _=>trivial) (Aqn hgood) u (.refl _) rfl rfl
   refine⟨j,n,q,xPz p,fun b R e ds ρ σ σ₀ hn hs=>?_⟩
   let g:RG C:=⟨b,l,xPz p,R,st.m,ρ,σ,σ₀,Kf,st'⟩
   have hg:g.Ok:=⟨hsel,hs.mem,hn,fun k hk=>((a k hk).2).resolve_left (by simp)⟩
   have hA:=(i g hg rfl rfl rfl rfl (fun k hk=>hk) (fun k hk=>(a k hk).1) _ hgood).1
   refine⟨g.S,hA l.length R e ds ρ σ ?_ ⟨.refl,.refl,hs⟩⟩
   rw[←hp]
   exact Aez l (xFloat l) l.length _
  ·exact(Ic h).elim
 ·exact(Ic h).elim
end
end
section
open Go Go.Conc
section
variable{C:Ctx}{b:FB}{n:Nat}
/-- A drawn region whose last operation waits for all the others. -/
theorem Bdp{l₀ id Q Q' e ds ρ σ}(k:Nat)(pz:List Nat)(S:Ro→Own→Prop)(hm:C.P.follows .mixedOrders=true)(hs':Fu n l₀.toArray=true)(hk':b.kind ≠ .early)(hd:∃oL,l₀.drop k=[oL])(hg:Adh (l₀.take k)=true)(hc:Amp (l₀.take k) l₀=true)(hQ:∀e ds ρ σ,Q' e ds ρ σ→Lq C b n l₀.toArray [(l₀.take k).length] (fun e ds ρ σ=>Q .normal e ds ρ σ) e ds ρ σ)(h2:El C b (l₀.take k).toArray Q' pz S (l₀.take k).length (List.replicate (l₀.take k).length false).toArray e ds ρ σ):WpC C b n (.region id l₀.toArray true) Q e ds ρ σ:=by
 obtain⟨oL,hd⟩:=hd
 have hl:l₀.take k++[oL]=l₀:=by rw[←hd,Aip]
 have f:l₀.toArray.size=(l₀.take k).length+1:=by
  rw[Atm];have:=congrArg List.length hl;simp only[lZ0,Atl]at this;omega
 intro tm ks cs ht
 refine .step (fun fr' cs' σ'=>∃t,fr'=Fr b tm ds (.inRegion l₀.toArray (Region.linearise .any l₀.toArray t)::ks)∧cs'=cs∧σ'=σ) (fun W a=>?_) ?_
 ·refine⟨_,cs,{W with drawn:=W.drawn+1},#[],σ,?_,?_,by simp,W.tape W.drawn (.order b.fn id),rfl,rfl,rfl⟩
  ·simp[Conc.G,stepG,stepG.exec,Fr,choose,Sem.run,Question.forced,Question.cut,Region.schedule,hm]
  ·have:=Trans.refl a
   exact⟨⟨a.ro,a.own,a.nd,a.dj⟩,this.size,this.keys,this.kept,this.fresh,this.frame,this.ends,this.chans,this.chansKept,rfl,rfl,rfl⟩
 ·rintro _ _ g ⟨t,rfl,hcs,hσ⟩
  replace hσ:=hσ.symm;replace hcs:=hcs.symm;subst hσ hcs
  have key:=Aap (C:=C) (b:=b) (n:=n) (l':=l₀.take k) (oL:=oL) (Q:=fun e ds ρ σ=>Q .normal e ds ρ σ) (pz:=pz) (S:=S) (by rw[hl];exact hs') hk' hg (by rw[hl];exact hc) (fun e ds ρ σ h=>by rw[hl];exact hQ e ds ρ σ h) (l₀.take k).length t (List.replicate (l₀.take k).length false) e ds ρ σ (by simp) (by
   unfold Mh
   rw[Tk]
   intro i hi
   have:(List.replicate (l₀.take k).length false).getD i false=false:=by
    rw[Alq,List.getElem?_replicate];split<;>rfl
   rw[this];rfl) h2
  rw[hl]at key
  have c:Region.linearise .any l₀.toArray t=Region.linearise.go .any l₀.toArray ((l₀.take k).length+1) t (List.replicate (l₀.take k).length false++[false]).toArray []:=by
   unfold Region.linearise
   rw[f]
   congr 1
   rw[←List.replicate_succ',List.toArray_replicate]
  rw[c]
  refine(key tm ks cs ht).mono ?_
  rintro _ _ ρ' σ' ⟨rfl,tm',e',ds',d,h2,rfl⟩
  exact⟨rfl,.normal,tm',e',ds',ks,d,h2,rfl,rfl⟩
end
section
variable{C:Ctx}{G:GoT C}{F:Fns}{dx:DX}
/-- What a region's or a code's run says. -/
def Zs(G:GoT C)(n:Nat)(rd:Option Nat)(c:Code)(st:St)(ex:Ex)(st':St):Prop:=∀b:FB,b.kind ≠ .early→Bqb G b n rd c st ex st'
theorem Avp{l}(h:xGoLast l=true):∃oL,l.drop (l.length-1)=[oL]:=by
 unfold xGoLast at h
 cases hl:l.getLast? with
 | none=>rw[hl]at h;cases h
 | some o =>
  refine⟨o,?_⟩
  obtain⟨pre,rfl⟩:=List.getLast?_eq_some_iff.1 hl
  simp
theorem Btk(hF:FnsOk C F)(hx:Asl G F dx)(hgl:dx.gl=true→(∃S,G=goT C S)∧∀S,Asl (goT C S) F dx){n id l draw rd st ex st'}(h:(regK C.P dx n l draw).run F rd st=Ng ex st'):
  Zs G n rd (.region id l.toArray draw) st ex st':=by
 intro b hb
 unfold regK at h
 split at h
 ·exact(Ic h).elim
 ·rename_i hsl
  have i:=Bfs hsl
  split at h
  ·obtain⟨rfl,a,d⟩:=Aff hx l st rd ex st' h
   exact⟨a,fun hs R e ds ρ σ σ₀ hn hr c=>Bkp (d hs b n R e ds ρ σ σ₀ i hb hn hr c)⟩
  ·split at h
   ·obtain⟨hm,rfl,a,d,pz,p⟩:=Avk hF h
    refine⟨a,fun hs R e ds ρ σ σ₀ hn hr c=>?_⟩
    obtain⟨S,hA⟩:=p b R e ds ρ σ σ₀ hn c
    rw[d]
    refine Reach.of_wp (Vk pz S hm i hb ?_)
    refine Apx (fun e ds ρ σ h=>⟨rfl,h⟩) _ _ _ _ _ _ ?_
    simpa using hA
   ·exact(Ic h).elim
   ·rename_i hgo hgl1
    obtain⟨⟨j,hG⟩,hxa⟩:=hgl hgl1
    split at h
    ·rename_i f g hng hlb hf hg
     have hf':drawK C.P (l.take (l.length-1))=⟨f⟩:=hf
     have hg':textK C.P dx l (l.drop (l.length-1))=⟨g⟩:=hg
     have h':(match f F rd st with | .n st=>g F rd st|_=>Go.Proofs.YtninnkechkolnaaGreatDoor.R.bad)=Ng ex st':=h
     split at h'
     ·rename_i st1 hf1
      have hd:(drawK C.P (l.take (l.length-1))).run F rd st=Ng .normal st1:=by rw[hf'];exact hf1
      have ht:(textK C.P dx l (l.drop (l.length-1))).run F rd st1=Ng ex st':=by rw[hg'];exact h'
      obtain⟨hm,_,a,d,pz,p⟩:=Avk hF hd
      obtain⟨rfl,D,_⟩:=Aff (hxa j) _ _ _ _ _ ht
      refine⟨a.trans D,fun hs R e ds ρ σ σ₀ hn hr c=>?_⟩
      obtain⟨S,hA⟩:=p b R e ds ρ σ σ₀ hn c
      subst hG
      have hwp:WpC C b n (.region id l.toArray true) (fun ex' e' ds' ρ' σ'=>ex' = .normal∧∃R',XR.le R R'∧Ro.le ρ ρ'∧Sim R' st' e' ds' ρ' σ' σ₀) e ds ρ σ:=by
       obtain⟨oL,hdr⟩:=Avp hgo
       refine Bdp (l.length-1) pz S hm i hb ⟨oL,hdr⟩ hng hlb ?_ hA
       rintro w v J K ⟨t,q,I,E⟩ tm k cs H
       have hT:=(Aff (hxa (fun fr cs' ρ' σ'=>cs'=cs∧∃tm' e' ds',EnvOf n tm' e'∧(Ex.normal=Ex.normal∧∃R',XR.le R R'∧Ro.le ρ ρ'∧Sim R' st' e' ds' ρ' σ' σ₀)∧fr=Fr b tm' ds' k)) _ _ _ _ _ ht).2.2 trivial b n t w v J K σ₀ i hb hn (hr.mono q) E
       have:=hT (l.take (l.length-1)) (Aip _ _).symm tm k cs H fun tm' e' ds' ρ' σ' x ⟨u,y,z,B⟩=>.stop ⟨rfl,tm',e',ds',x,⟨rfl,u,q.trans y,I.trans z,B⟩,rfl⟩
       rw[hdr]at this
       exact this
      exact(Reach.of_wp (G:=goT C j) (o:=st.m.outs) hwp:Reach (goT C j) b n _ st.m.outs e ds ρ σ _ st.m.outs _)
     ·exact(Ic h').elim
    ·exact(Ic h).elim
end
end
section
open Go Go.Conc
theorem Aia{P main b tm ds f ps assign body k cs kk fn caps W W' lm es}(hk:b.kind ≠ .early)(hf:(Fr b tm ds (.code (.rangeFunc f ps assign body)::k)).eval f = .func (.func kk) #[] caps.toArray)(h1:P.funcs[kk]?=some fn)(h2:(fn.name == "runtime.NumGoroutine")=false)(h3:fn.body.isNone=false)(hrun:(Instr.enterLoop b.fn tm ps assign body b.round).runT P W #[]=(.ok lm W',es)):
  ∃es',stepG P main (Conc.G (Fr b tm ds (.code (.rangeFunc f ps assign body)::k)) cs) W = .go (Conc.G (Frame.enter P kk (Value.func (.yield lm.1) #[] #[]::caps).toArray .normal) (Fr b tm (lm.2++ds) (.inRangeFunc lm.1::k)::cs)) W' es'∧∀e∈es',Bdn es e:=by
 obtain⟨l,a⟩:=lm
 have i:(b.kind==CallKind.early)=false:=by cases h:b.kind<;>simp_all<;>rfl
 have c:(Fr b tm (a++ds) (.inRangeFunc l::k)).eval f = .func (.func kk) #[] caps.toArray:=by
  rw[←hf];cases f<;>rfl
 have hi:(do let d ←resolve (Fr b tm (a++ds) (.inRangeFunc l::k)).eval {callee:=.value f,args:=#[.const (.func (.yield l) #[] #[])],argTypes:=#[]} 0;invoke d.target d.args:Sem Next).runT P W' #[]=(.ok (.enter kk (Value.func (.yield l) #[] #[]::caps).toArray) W',#[]):=by
  generalize hfr:Fr b tm (a++ds) (.inRangeFunc l::k)=fr at c
  have g:(do let d ←resolve fr.eval {callee:=.value f,args:=#[.const (.func (.yield l) #[] #[])],argTypes:=#[]} 0;invoke d.target d.args:Sem Next)=callFunc kk (Value.func (.yield l) #[] #[]::caps).toArray:=by
   show ((Deferred.ofValue (fr.eval f) ((#[.const (.func (.yield l) #[] #[])]:Array Operand).map fr.eval)).bind _)=_
   rw[c]
   show callFunc kk ((#[]++((#[.const (.func (.yield l) #[] #[])]:Array Operand).map fr.eval))++caps.toArray)=_
   congr 1
   simp[Frame.eval]
  rw[g];exact Vd h1 h2 h3 W' #[]
 refine⟨seen P b.fn es++seen P b.fn #[],?_,fun ev he=>?_⟩
 ·simp only[Fr]at hi
  simp only[Conc.G,stepG,stepG.exec,Fr,hrun,stepG.apply,if_true,hi,i,GStep.after]
  rfl
 ·rcases Array.mem_append.1 he with h|h
  ·exact Lh h
  ·have:=(Lh h).1;simp at this
theorem Aud{P ρ l i L Q σ}(hi:σ[i]?=some (l,.obj (.loop L)))(hb:(L.state == .busy)=false)(h:Q L.pending (σ.set i (l,.obj (.loop {L with state:=.exhausted})))):wpS P ρ (Instr.endLoop l) σ Q:=by
 show wpS P ρ ((Instr.getLoop l).bind _) _ Q
 rw[Ad]
 show wpS P ρ ((getObj l).bind _) _ _
 rw[Ad]
 refine⟨_,.inr (lZ8 hi),rfl,?_⟩
 show wpS P ρ (if L.state == .busy then _ else _) _ Q
 rw[if_neg (by simp[hb])]
 exact⟨rfl,i,_,hi,rfl,h⟩
section
variable{C:Ctx}{G:GoT C}{F:Fns}{dx:DX}{n:Nat}
/-- From where the range's record has been laid. -/
theorem Awz(hF:FnsOk C F){ps as_ body g ys ec dk m dsc ex st'}(h:xRange F n ps as_ body g ys ec dk m dsc=Ng ex st'):
  Kept m st'.m∧st'.m.outs=m.outs∧∀(b:FB) (o:List CV) (f:Operand) R e ds ρ σ σ₀ fn caps db dc l tm k cs,b.kind ≠ .early→Jp σ₀→EnvOf n tm e→EnvR R ec e→MemX R m ρ σ σ₀→DsR R dsc ds→R dk=some (db,dc)→VR R ys caps →
   C.P.funcs[g]?=some fn→(fn.name == "runtime.NumGoroutine")=false→fn.body.isNone=false →
   (∀tm' e' ds' ρ' σ' todo,EnvOf n tm' e'→(∃R',XR.le R R'∧Ro.le ρ ρ'∧Sim R' st' e' ds' ρ' σ' σ₀)→Pl ex k todo→G.Go o (Fr b tm' ds' todo) cs ρ' σ') →
   G.Go o (Frame.enter C.P g (Value.func (.yield l) #[] #[]::caps).toArray .normal) (Fr b tm ds (.inRangeFunc l::k)::cs) ρ ((l,Res.obj (.loop {state:=.ready,pending:=none,fn:=b.fn,tmps:=tm,params:=ps.toArray,assign:=as_,body,defers:=db}))::σ):=by
 unfold xRange at h
 split at h
 ·rename_i x m1 hcall
  split at h
  ·rename_i bz pd n' env' ps' as' body' dk' hg1
   split at h
   ·exact(Ic h).elim
   ·rename_i hbz
    obtain⟨B,hcl⟩:=hF.call _ _ _ _ _ hcall
    have D:Kept m m1:=(LogOk.add _ _).kept.trans B
    have fin:∀(q:Option Code),q=pd→Kept m (xRest (m1.put m.nx (.loop 3 q n' env' ps' as' body' dk')) m.outs):=fun q _=>(D.trans (LogOk.put _ _ _).kept).rest
    have main:∀(ex:Ex),Pf ex=pd→st'=⟨ec,xRest (m1.put m.nx (.loop 3 pd n' env' ps' as' body' dk')) m.outs,dsc⟩→Kept m st'.m∧st'.m.outs=m.outs∧∀(b:FB) (o:List CV) (f:Operand) R e ds ρ σ σ₀ fn caps db dc l tm k cs,b.kind ≠ .early→Jp σ₀→EnvOf n tm e→EnvR R ec e→MemX R m ρ σ σ₀→DsR R dsc ds→R dk=some (db,dc)→VR R ys caps →
   C.P.funcs[g]?=some fn→(fn.name == "runtime.NumGoroutine")=false→fn.body.isNone=false →
   (∀tm' e' ds' ρ' σ' todo,EnvOf n tm' e'→(∃R',XR.le R R'∧Ro.le ρ ρ'∧Sim R' st' e' ds' ρ' σ' σ₀)→Pl ex k todo→G.Go o (Fr b tm' ds' todo) cs ρ' σ') →
   G.Go o (Frame.enter C.P g (Value.func (.yield l) #[] #[]::caps).toArray .normal) (Fr b tm ds (.inRangeFunc l::k)::cs) ρ ((l,Res.obj (.loop {state:=.ready,pending:=none,fn:=b.fn,tmps:=tm,params:=ps.toArray,assign:=as_,body,defers:=db}))::σ):=by
     intro ex hpd hst
     subst hst
     refine⟨fin pd rfl,rfl,fun b o f R e ds ρ σ σ₀ fn caps db dc l tm k cs hb hn ht he hm hd hdk hv a3 a4 a5 hq=>?_⟩
     obtain⟨L0,G0,d⟩:=hm
     have E:=d.add (b:=l) (c:=0) (r:=.obj (.loop {state:=.ready,pending:=none,fn:=b.fn,tmps:=tm,params:=ps.toArray,assign:=as_,body,defers:=db})) (o:=.loop 0 none n ec ps as_ body dk)
      (.loop rfl rfl ht (he.mono (d.fresh _)) rfl rfl rfl (d.fresh _ _ _ hdk) rfl)
     have a:XR.le R (R.add m.nx (l,0)):=d.fresh _
     have hc:=hcl _ (Value.func (.yield l) #[] #[]::caps) ρ _ σ₀ hn (.y XR.add_same (hv.mono a)) E
     refine G.bind (hc (Fr b tm ds (.inRangeFunc l::k)) cs) ?_
     rintro _ cs' ρ' σ' ⟨v,rfl,hcs,p,i,I,q3,J⟩
     replace hcs:=hcs.symm;subst hcs
     have z:(Fr b tm ds (.inRangeFunc l::k)).finish v=Fr b tm ds (.endRangeFunc l::k):=rfl
     rw[z]
     obtain⟨b1,c1,r1,i1,t,K,M,N⟩:=J.at hg1 (by simp)
     rw[i _ _ XR.add_same]at t;cases t
     obtain⟨w,a2,a0,a1,rfl,O,u,T,U,V,X,Y,Z,v9⟩:=Aan M
     have hob:=N _ _ (ObjR.loop (busy:=3) (L:={w with state:=.exhausted}) rfl u T U V X Y Z v9)
     refine G.bind (Lw (s:=Instr.endLoop l) (f:=fun j=>(Fr b tm ds ((j.map Item.code).toList++k),cs)) (Q:=fun j σ''=>j=pd∧MemX p (m1.put m.nx (.loop 3 pd n' env' ps' as' body' dk')) ρ' σ'' σ₀) (fun W j W' es H=>?_) (Aud K (by
       rw[O]
       have:bz≠1:=fun e=>by subst e;simp at hbz
       match bz,this with
       | 0,_=>rfl
       | 1,h=>exact absurd rfl h
       | 2,_=>rfl
       | _+3,_=>rfl) ⟨u,hob⟩) (S:=fun fr' cs' ρ'' σ''=>ρ''=ρ'∧fr'=Fr b tm ds ((pd.map Item.code).toList++k)∧cs'=cs∧MemX p (m1.put m.nx (.loop 3 pd n' env' ps' as' body' dk')) ρ' σ'' σ₀) (by
       rintro j σ'' ⟨rfl,hx⟩
       exact .stop ⟨rfl,rfl,rfl,hx⟩)) ?_
     ·exact⟨seen C.P b.fn es ++ #[],by simp[Conc.G,stepG,stepG.exec,Fr,-Sem.runT_eq,H,GStep.after],fun ev he=>Lh (by simpa using he)⟩
     ·rintro _ _ ρ'' σ'' ⟨rfl,rfl,rfl,hx⟩
      refine hq tm e ds ρ'' σ'' _ ht ⟨p,a.trans i,I,he.mono (a.trans i),hx.rest,hd.mono (a.trans i)⟩ ?_
      subst hpd
      cases ex with
      | normal=>rfl
      | exit id=>exact⟨[],by simp,rfl⟩
      | ret=>exact⟨[],rfl⟩
    split at h
    ·cases ex with
     | normal=>cases h;exact main .normal rfl rfl
     | exit id=>cases h
     | ret=>cases h
    ·split at h
     ·cases ex with
      | normal=>cases h
      | exit id=>cases h;exact main (.exit _) rfl rfl
      | ret=>cases h
     ·cases ex with
      | normal=>cases h
      | exit id=>cases h
      | ret=>cases h;exact main .ret rfl rfl
     ·exact(Ic h).elim
  ·exact(Ic h).elim
 ·exact(Ic h).elim
end
end
section
open Go Go.Conc
section
variable{C:Ctx}{G:GoT C}{F:Fns}{dx:DX}{n:Nat}
theorem Bkr{b c o o' e ds ρ ρ0 σ σ₀ ex R R0 st'}(hR:XR.le R0 R)(hρ:Ro.le ρ0 ρ)(h:Reach G b n c o e ds ρ σ ex o' (fun e' ds' ρ' σ'=>∃R',XR.le R R'∧Ro.le ρ ρ'∧Sim R' st' e' ds' ρ' σ' σ₀)):Reach G b n c o e ds ρ σ ex o' (fun e' ds' ρ' σ'=>∃R',XR.le R0 R'∧Ro.le ρ0 ρ'∧Sim R' st' e' ds' ρ' σ' σ₀) :=
 h.mono fun _ _ _ _ ⟨R',a,d,f⟩=>⟨R',hR.trans a,hρ.trans d,f⟩
theorem Bov{a b rd st st1 st' ex}(ha:Zs G n rd a st .normal st1)(hb:Zs G n rd b st1 ex st'):Zs G n rd (.seq a b) st ex st':=fun fb hfb=>by
 obtain⟨l,i⟩:=ha fb hfb
 obtain⟨c,j⟩:=hb fb hfb
 refine⟨l.trans c,fun hs R e ds ρ σ σ₀ hn hr k=>Bvu ((i (G.less_of c hs) R e ds ρ σ σ₀ hn hr k).mono ?_)⟩
 rintro h g q t ⟨f,d,m,p⟩
 exact Bkr d m (j hs f h g q t σ₀ hn (hr.mono d) p)
/-- Rounds of a loop,behind its start. -/
def Bmc(G:GoT C)(n:Nat)(rd:Option Nat)(c:Code)(st:St)(ex:Ex)(st':St):Prop:=∀b:FB,b.kind ≠ .early→Kept st.m st'.m∧(G.suf st'.m.outs→∀R e ds ρ σ σ₀,Jp σ₀→RdOk G R rd b→Sim R st e ds ρ σ σ₀ →
 LoopR G b n c st.m.outs e ds ρ σ ex st'.m.outs (fun e' ds' ρ' σ'=>∃R',XR.le R R'∧Ro.le ρ ρ'∧Sim R' st' e' ds' ρ' σ' σ₀))
theorem Awp{a:Code}{rd:Option Nat}{f:Fns→Option Nat→St→Go.Proofs.YtninnkechkolnaaGreatDoor.R}(ih:∀st ex st',f F rd st=Ng ex st'→Zs G n rd a st ex st'):∀(k:Nat) (st:St) (ex:Ex) (st':St),xLoopR f F rd k st=Ng ex st'→ex ≠ .normal∧Bmc G n rd a st ex st'
 | 0,st,ex,st',h=>(Ic h).elim
 | k+1,st,ex,st',h=>by
  have h':(match f F rd st with | .n st=>xLoopR f F rd k st|y=>y)=Ng ex st':=h
  split at h'
  ·rename_i st1 d
   obtain⟨hx,hl⟩:=Awp ih k st1 ex st' h'
   refine⟨hx,fun b hb=>?_⟩
   obtain⟨i,c⟩:=ih st .normal st1 d b hb
   obtain⟨j,t⟩:=hl b hb
   refine⟨i.trans j,fun hs R e ds ρ σ σ₀ hn hr g=>Bfg ((c (G.less_of j hs) R e ds ρ σ σ₀ hn hr g).mono ?_)⟩
   rintro q p z B ⟨m,l,w,x⟩
   exact(t hs m q p z B σ₀ hn (hr.mono l) x).mono fun _ _ _ _ ⟨R',d,u,v⟩=>⟨R',l.trans d,w.trans u,v⟩
  ·rename_i hne
   have hx:ex ≠ .normal:=fun e=>by subst e;exact hne _ h'
   refine⟨hx,fun b hb=>?_⟩
   obtain⟨i,c⟩:=ih st ex st' h' b hb
   exact⟨i,fun hs R e ds ρ σ σ₀ hn hr g=>Bjt hx (c hs R e ds ρ σ σ₀ hn hr g)⟩
theorem Anm{P ρ σ fn tm ps assign body}{lb i:Nat}{L Q}(hi:σ[i]?=some (lb,.obj (.loop L)))(h:∀l,Q (l,[]) ((l,.obj (.loop {state:=.ready,pending:=none,fn,tmps:=tm,params:=ps,assign,body,defers:=L.defers}))::σ)):
  wpS P ρ (Instr.enterLoop fn tm ps assign body (some lb)) σ Q:=by
 show wpS P ρ ((Instr.getLoop lb).bind _) σ Q
 rw[Ad]
 show wpS P ρ ((getObj lb).bind _) σ _
 rw[Ad]
 refine⟨_,.inr (lZ8 hi),rfl,?_⟩
 show wpS P ρ ((newObj (.loop {state:=.ready,pending:=none,fn,tmps:=tm,params:=ps,assign,body,defers:=L.defers})).bind _) _ Q
 rw[Ad]
 exact .inl ⟨rfl,fun l=>h l⟩
theorem Bfp(hF:FnsOk C F){f:Operand}{ps:Array Tmp}{as_ body:Code}{rd:Option Nat}{st st':St}{ex:Ex}{g:FuncId}{ys:List CV}(hf:(rdK f).run st.e = .f g [] ys)(hb:xHasBody C.P g=true)
    (h : (match rd with
          | some l=>match st.m.M.get l with|some (.own (.loop _ _ _ _ _ _ _ dk))=>xRange F n ps.toList as_ body g ys st.e dk st.m st.ds|_=>.bad
          | none=>xRange F n ps.toList as_ body g ys st.e st.m.nx (st.m.add .defd) (.mark st.m.nx::st.ds))=Ng ex st'):Zs G n rd (.rangeFunc f ps as_ body) st ex st':=by
  intro b hbk
  obtain⟨fn,j,p,q⟩:=Adb hb
  cases rd with
  | none =>
    obtain⟨w,x,y⟩:=Awz (G:=G) hF h
    refine⟨(LogOk.add _ _).kept.trans w,fun hs R e ds ρ σ σ₀ hn hr a tm k cs ht hq=>?_⟩
    have hr':b.round=none:=hr.2
    have hv:=Hd a.env a.mem.globR f
    rw[hf]at hv
    obtain⟨xs',d,z,B,v⟩:=Bpm hv
    cases z
    have hev:(Fr b tm ds (.code (.rangeFunc f ps as_ body)::k)).eval f = .func (.func g) #[] d.toArray:=by rw[ht.eval];exact v
    refine G.bind (Lw (s:=Instr.enterLoop b.fn tm ps as_ body b.round) (f:=fun lm=>(Frame.enter C.P g (Value.func (.yield lm.1) #[] #[]::d).toArray .normal,Fr b tm (lm.2++ds) (.inRangeFunc lm.1::k)::cs))
      (Q:=fun lm σ'=>∃r,lm.2=[{target:=.collected r,args:=#[]}]∧σ'=(lm.1,Res.obj (.loop {state:=.ready,pending:=none,fn:=b.fn,tmps:=tm,params:=ps,assign:=as_,body,defers:=r}))::(r,.obj (.deferred (some [])))::σ)
      (fun W lm W' es u=>Aia hbk hev j p q u) (by rw[hr'];exact Vj fun r l=>⟨r,rfl,rfl⟩)
      (S:=fun fr' cs' ρ' σ'=>ρ'=ρ∧∃l r,fr'=Frame.enter C.P g (Value.func (.yield l) #[] #[]::d).toArray .normal∧cs'=Fr b tm ({target:=.collected r,args:=#[]}::ds) (.inRangeFunc l::k)::cs∧σ'=(l,Res.obj (.loop {state:=.ready,pending:=none,fn:=b.fn,tmps:=tm,params:=ps,assign:=as_,body,defers:=r}))::(r,.obj (.deferred (some [])))::σ)
      (by
        rintro⟨l,mk⟩ σ' ⟨r,i,rfl⟩
        simp only at i;subst i
        exact .stop ⟨rfl,l,r,rfl,rfl,rfl⟩)) ?_
    rintro _ _ Z _ ⟨hρ,l,r,rfl,rfl,rfl⟩
    replace hρ:=hρ.symm;subst hρ
    obtain⟨L0,G0,D⟩:=a.mem
    have hle:=D.fresh (r,0)
    have O:=D.add (b:=r) (c:=0) (o:=.defd) (r:=.obj (.deferred (some []))) .defd
    have:=y b st'.m.outs f _ e ({target:=.collected r,args:=#[]}::ds) ρ _ σ₀ fn d r 0 l tm k cs hbk hn ht (a.env.mono hle) O (.mark XR.add_same (a.ds.mono hle)) XR.add_same (B.mono hle) j p q
      (fun tm' e' ds' ρ' σ' T I ⟨R',J,K,L⟩ N=>hq tm' e' ds' ρ' σ' T I ⟨R',hle.trans J,K,L⟩ N)
    rw[x]at this
    exact this
  | some l0 =>
    simp only at h
    split at h
    · rename_i bz pd n0 env0 ps0 as0 body0 dk hg0
      obtain⟨w,x,y⟩:=Awz (G:=G) hF h
      refine⟨w,fun hs R e ds ρ σ σ₀ hn hr a tm k cs ht hq=>?_⟩
      obtain⟨_,lb,lc,hr',hRl⟩:=hr
      have hv:=Hd a.env a.mem.globR f
      rw[hf]at hv
      obtain⟨xs',d,z,B,v⟩:=Bpm hv
      cases z
      have hev:(Fr b tm ds (.code (.rangeFunc f ps as_ body)::k)).eval f = .func (.func g) #[] d.toArray:=by rw[ht.eval];exact v
      obtain⟨b1,c1,r1,i1,E,U,V,u4⟩:=a.mem.at hg0 (by simp)
      rw[hRl]at E;cases E
      obtain⟨t,a1,a0,H,rfl,v1,v2,v3,v4,v5,v6,v7,X,Y⟩:=Aan V
      refine G.bind (Lw (s:=Instr.enterLoop b.fn tm ps as_ body b.round) (f:=fun lm=>(Frame.enter C.P g (Value.func (.yield lm.1) #[] #[]::d).toArray .normal,Fr b tm (lm.2++ds) (.inRangeFunc lm.1::k)::cs))
        (Q:=fun lm σ'=>lm.2=[]∧σ'=(lm.1,Res.obj (.loop {state:=.ready,pending:=none,fn:=b.fn,tmps:=tm,params:=ps,assign:=as_,body,defers:=t.defers}))::σ)
        (fun W lm W' es u=>Aia hbk hev j p q u) (by rw[hr'];exact Anm U fun l=>⟨rfl,rfl⟩)
        (S:=fun fr' cs' ρ' σ'=>ρ'=ρ∧∃l,fr'=Frame.enter C.P g (Value.func (.yield l) #[] #[]::d).toArray .normal∧cs'=Fr b tm ds (.inRangeFunc l::k)::cs∧σ'=(l,Res.obj (.loop {state:=.ready,pending:=none,fn:=b.fn,tmps:=tm,params:=ps,assign:=as_,body,defers:=t.defers}))::σ)
        (by
          rintro⟨l,mk⟩ σ' ⟨i,rfl⟩
          simp only at i;subst i
          exact .stop ⟨rfl,l,rfl,rfl,rfl⟩)) ?_
      rintro _ _ Z _ ⟨hρ,l,rfl,rfl,rfl⟩
      replace hρ:=hρ.symm;subst hρ
      have:=y b st'.m.outs f R e ds ρ σ σ₀ fn d t.defers H l tm k cs hbk hn ht a.env a.mem a.ds (by rw[Y];exact X) B j p q hq
      rw[x]at this
      exact this
    · exact(Ic h).elim
/-- CODE: what the run shows. -/
theorem Ait(hF:FnsOk C F)(hx:Asl G F dx)(hgl:dx.gl=true→(∃S,G=goT C S)∧∀S,Asl (goT C S) F dx)(c:Code):∀{rd:Option Nat} {st:St} {ex:Ex} {st':St},(codeK C.P dx n c).run F rd st=Ng ex st'→Zs G n rd c st ex st':=by
 induction c with
 | skip =>
  intro rd st ex st' h b hb
  cases ex with
  | normal=>cases h;exact⟨.refl _,fun _ R e ds ρ σ σ₀ _ _ hs=>Bti ⟨R,.refl,.refl,hs⟩⟩
  | exit id=>cases h
  | ret=>cases h
 | region id ops draw =>
  intro rd st ex st' h
  have h':(regK C.P dx n ops.toList draw).run F rd st=Ng ex st':=h
  have:=Btk (id:=id) hF hx hgl h'
  rw[Alu]at this
  exact this
 | seq a b iha ihb =>
  intro rd st ex st' h
  have h':(match (codeK C.P dx n a).run F rd st with | .n st=>(codeK C.P dx n b).run F rd st|y=>y)=Ng ex st':=h
  split at h'
  ·rename_i st1 h1
   exact Bov (iha (ex:=.normal) h1) (ihb h')
  ·rename_i hne
   have hex:ex ≠ .normal:=fun e=>by subst e;exact hne _ h'
   intro fb hfb
   obtain⟨k,i⟩:=iha h' fb hfb
   exact⟨k,fun hs R e ds ρ σ σ₀ hn hr d=>Bth hex (i hs R e ds ρ σ σ₀ hn hr d)⟩
 | cond q a b iha ihb =>
  intro rd st ex st' h
  have h':(match (rdK q).run st.e with | .b true=>(codeK C.P dx n a).run F rd st | .b false=>(codeK C.P dx n b).run F rd st|_=>.bad)=Ng ex st':=h
  intro fb hfb
  split at h'
  ·rename_i hq
   obtain⟨k,i⟩:=iha h' fb hfb
   refine⟨k,fun hs R e ds ρ σ σ₀ hn hr d=>?_⟩
   have hv:=Hd d.env d.mem.globR q
   rw[hq]at hv
   exact Bko (Bau hv) (fun _=>i hs R e ds ρ σ σ₀ hn hr d) (fun h=>by cases h)
  ·rename_i hq
   obtain⟨k,i⟩:=ihb h' fb hfb
   refine⟨k,fun hs R e ds ρ σ σ₀ hn hr d=>?_⟩
   have hv:=Hd d.env d.mem.globR q
   rw[hq]at hv
   exact Bko (Bau hv) (fun h=>by cases h) (fun _=>i hs R e ds ρ σ σ₀ hn hr d)
  ·exact(Ic h').elim
 | block id a iha =>
  intro rd st ex st' h
  have h':(match (codeK C.P dx n a).run F rd st with | .x j st=>(match Nat.beq j id with|true=>.n st|false=>.x j st)|y=>y)=Ng ex st':=h
  intro fb hfb
  split at h'
  ·rename_i j st1 h1
   split at h'
   ·rename_i hj
    have hj:=Vg hj
    subst hj
    cases ex with
    | normal =>
     cases h'
     obtain⟨k,i⟩:=iha (ex:=.exit j) h1 fb hfb
     exact⟨k,fun hs R e ds ρ σ σ₀ hn hr d=>Bkl (i hs R e ds ρ σ σ₀ hn hr d)⟩
    | exit id=>cases h'
    | ret=>cases h'
   ·rename_i hj
    have hj':j≠id:=fun e=>by subst e;simp at hj
    cases ex with
    | normal=>cases h'
    | exit id' =>
     cases h'
     obtain⟨k,i⟩:=iha (ex:=.exit j) h1 fb hfb
     exact⟨k,fun hs R e ds ρ σ σ₀ hn hr d=>Bkn hj' (i hs R e ds ρ σ σ₀ hn hr d)⟩
    | ret=>cases h'
  ·rename_i hne
   cases ex with
   | normal =>
    obtain⟨k,i⟩:=iha (ex:=.normal) h' fb hfb
    exact⟨k,fun hs R e ds ρ σ σ₀ hn hr d=>Bot (i hs R e ds ρ σ σ₀ hn hr d)⟩
   | exit id'=>exact absurd h' (hne _ _)
   | ret =>
    obtain⟨k,i⟩:=iha (ex:=.ret) h' fb hfb
    exact⟨k,fun hs R e ds ρ σ σ₀ hn hr d=>Bkm (i hs R e ds ρ σ σ₀ hn hr d)⟩
 | loop a iha =>
  intro rd st ex st' h fb hfb
  have h':xLoopR (codeK C.P dx n a).run F rd 1000000 st=Ng ex st':=h
  obtain⟨_,hl⟩:=Awp (fun st ex st' h=>iha h) _ _ _ _ h'
  obtain⟨k,i⟩:=hl fb hfb
  exact⟨k,fun hs R e ds ρ σ σ₀ hn hr d=>Btg (i hs R e ds ρ σ σ₀ hn hr d)⟩
 | exit id =>
  intro rd st ex st' h b hb
  cases ex with
  | normal=>cases h
  | exit id=>cases h;exact⟨.refl _,fun _ R e ds ρ σ σ₀ _ _ hs=>Btf ⟨R,.refl,.refl,hs⟩⟩
  | ret=>cases h
 | ret =>
  intro rd st ex st' h b hb
  cases ex with
  | normal=>cases h
  | exit id=>cases h
  | ret=>cases h;exact⟨.refl _,fun _ R e ds ρ σ σ₀ _ _ hs=>Bvt ⟨R,.refl,.refl,hs⟩⟩
 | rangeFunc f ps as_ body _ _ =>
  intro rd st ex st' h
  unfold codeK at h
  split at h
  ·rename_i f1 hf1 hlt
   have hrd:(rdK f).run=f1:=by rw[hf1]
   simp only at h
   split at h
   ·rename_i g ys hfv
    split at h
    ·rename_i hbd
     exact Bfp hF (by rw[hrd];exact hfv) hbd h
    ·exact(Ic h).elim
   ·exact(Ic h).elim
  ·exact(Ic h).elim
 | _=>intro rd st ex st' h;exact(Ic h).elim
end
end
section
open Go Go.Conc
section
variable{R:XR}{m:Mem}{ρ:Ro}{σ σ₀:Own}{L:List (Nat×Nat×Res)}{G:Own}
/-- It is forgotten,with another content. -/
theorem MemR.kill2(h:MemR R m ρ σ σ₀ L G){k b i o o'}(hL:(k,b,Res.obj o)∈L)(hi:σ[i]?=some (b,.obj o)):MemX R (m.put k .dead) ρ (σ.set i (b,.obj o')) σ₀:=by
 obtain⟨A,B,rfl⟩:=Wa hL
 have nd:=h.nd
 simp only[Ql,Qc]at nd
 have hAB:∀p∈A++B,p.1≠k:=fun p hp e=>by
  rw[Apn]at nd
  obtain⟨w,n,t⟩:=nd
  rcases Of.1 hp with hp|hp
  ·exact t p.1 (Aai (f:=Prod.fst) hp) k mC e
  ·exact(Aen.1 n).1 (e ▸ Aai (f:=Prod.fst) hp)
 have dim:∀{p},p∈A++B→p∈A++(k,b,Res.obj o)::B:=fun {p} hp=>(Of.1 hp).elim (Uf _) fun hp=>Pz _ (lZ7 _ hp)
 refine⟨A++B,(b,.obj o')::G,?_,?_,fun p hp=>?_,fun j oj hj hd=>?_,fun j oj hj=>?_,fun p hp=>?_,h.lt,h.glob⟩
 ·have p0:=h.perm
  simp only[Ql,Qc,lZ9,Wj]at p0 ⊢
  have u:=Amm (x':=(b,.obj o')) (p0.trans Azu) hi
  refine u.trans ?_
  have v:=(Azu (a:=(b,Res.obj o')) (l₁:=A.map Prod.snd++B.map Prod.snd) (l₂:=G++σ₀)).symm
  simpa[lZ9]using v
 ·rw[Ql]
  have:(A.map Prod.fst++B.map Prod.fst).Sublist (A.map Prod.fst++k::B.map Prod.fst):=List.Sublist.append_left (Bjm ..) _
  exact this.nodup nd
 ·obtain⟨c,o1,d,g,l⟩:=h.own p (dim hp)
  exact⟨c,o1,d,by rw[Pe,if_neg (hAB p hp)];exact g,l⟩
 ·rw[Pe]at hj
  by_cases hjk:j=k
  ·rw[if_pos hjk]at hj;cases hj;exact absurd rfl hd
  ·rw[if_neg hjk]at hj
   obtain⟨q,hq⟩:=h.all j oj hj hd
   rcases Of.1 hq with hq|hq
   ·exact⟨q,Uf _ hq⟩
   ·rcases Nc.1 hq with e|hq
    ·exact absurd (Prod.mk.inj e).1 hjk
    ·exact⟨q,Pz _ hq⟩
 ·rw[Pe]at hj
  by_cases hjk:j=k
  ·rw[if_pos hjk]at hj;cases hj
  ·rw[if_neg hjk]at hj;exact h.ro j oj hj
 ·rcases Nc.1 hp with rfl|hp
  ·exact⟨o',rfl⟩
  ·exact h.gar p hp
theorem Axx:∀(args:List CV) (i:Nat) (e:Tr CV) (t:Nat) (v:CV),(xArgEnv args i e).get t=some v→e.get t=some v∨(i≤t∧args[t-i]?=some v)
 | [],i,e,t,v,h=>.inl h
 | a::args,i,e,t,v,h=>by
  rcases Axx args (i+1) (e.set i a) t v h with h1|⟨h1,h2⟩
  ·rw[Tr.get_set]at h1
   by_cases ht:t=i
   ·rw[if_pos ht]at h1
    refine .inr ⟨by omega,?_⟩
    subst ht
    rw[Aqu]
    exact h1
   ·rw[if_neg ht]at h1
    exact .inl h1
  ·refine .inr ⟨by omega,?_⟩
   have:t-i=(t-(i+1))+1:=by omega
   rw[this,Aem]
   exact h2
theorem Bjq{α}(t:Nat):(Tr.leaf:Tr α).get t=none:=rfl
theorem Aup{args args'}(h:VR R args args'):EnvR R (xArgEnv args 0 .leaf) (Pn args'):=fun t v ht=>by
 rcases Axx args 0 .leaf t v ht with h1|⟨_,h2⟩
 ·rw[Bjq]at h1;cases h1
 ·obtain⟨v',a,b⟩:=h.at h2
  unfold Pn
  have:args'[t]?=some v':=a
  rw[Alq,this]
  exact b
theorem Bah{P:Program}{ec:Tr CV}{e:Env}(he:EnvR R ec e)(hm:MemX R m ρ σ σ₀):∀(l:List ResultVar) (r:List CV),(resK P l).run ec m=some r→∃vs,VR R r vs∧Agf P ρ σ e l vs
 | [],r,h=>by
  cases h
  exact⟨[],.nil,trivial⟩
 | .tmp t::l,r,h=>by
  have h':(match (resK P l).run ec m with|some r=>some ((match ec.get t with|some v=>v|none=>.bad)::r)|none=>none)=some r:=h
  split at h'
  ·rename_i r1 f
   cases h'
   obtain⟨vs,b,d⟩:=Bah he hm l r1 f
   exact⟨e t::vs,VR.cons_iff.2 ⟨Hd he hm.globR (.tmp t),b⟩,rfl,d⟩
  ·cases h'
 | .cell a t::l,r,h=>by
  have h':(match ec.get a with
   | some (.p k off)=>match m.row k with
    | some c=>match (partK P t).run (xDrp off c),(resK P l).run ec m with|some v,some r=>some (v::r)|_,_=>none
    | none=>none
   | _=>none)=some r:=h
  split at h'
  ·rename_i k off hg
   split at h'
   ·rename_i c hc
    split at h'
    ·rename_i v r1 hv hr1
     cases h'
     obtain⟨vs,b,d⟩:=Bah he hm l r1 hr1
     have n:(opK P (.load t (.tmp a))).run ec m = .rd v k:=by
      show loadM P t ((rdK (.tmp a)).run ec) m=_
      have:(rdK (.tmp a)).run ec = .p k off:=by
       show (match ec.get a with|some v=>v|none=>.bad)=_
       rw[hg]
      rw[this]
      simp only[loadM,hc,hv]
     obtain⟨w,hw,hwp⟩:=Baf _ R ec e m v k he hm.globR n R m ρ σ σ₀ hm rfl rfl
     refine⟨w::vs,VR.cons_iff.2 ⟨hw,b⟩,fun Q hQ=>?_,d⟩
     have f:=hwp none 0 "" #[] none
     have g:wpS P ρ ((Instr.loadAt t (e a)).bind fun v=>Sem.pure (Next.value v)) σ (fun nx σ'=>nx = .value w∧σ'=σ):=f
     rw[Ad]at g
     obtain⟨bb,cc,_,hav⟩:=Bgh (he a _ hg)
     show wpS P ρ (do loadVar t (←asAddr (e a))) σ Q
     rw[hav]at g ⊢
     have i:wpS P ρ (loadVar t ⟨bb,off,none⟩) σ (fun a σ'=>Next.value a = .value w∧σ'=σ):=g
     show wpS P ρ (loadVar t ⟨bb,off,none⟩) σ Q
     refine Eu ?_ _ _ i
     rintro w' σ' ⟨i,j⟩
     cases i
     rw[j];exact hQ
    ·cases h'
   ·cases h'
  ·cases h'
theorem Avg{l m m2}(h:xDefersR l m=some m2):Kept m m2:=by
 induction l generalizing m with
 | nil=>cases h;exact .refl _
 | cons d l ih =>
  cases d with
  | mark k =>
   have h':(match m.M.get k with|some (.own .defd)=>xDefersR l (m.put k .dead)|_=>none)=some m2:=h
   split at h'
   ·exact(LogOk.put _ _ _).kept.trans (ih h')
   ·cases h'
  | close k=>cases h
theorem Ayv{C fn e K l m m2 ds σ}(h:xDefersR l m=some m2)(hd:DsR R l ds)(hm:MemX R m ρ σ σ₀)(hk:∀σ',MemX R m2 ρ σ' σ₀→wpS C.P ρ (Hp fn e) σ' (fun v σ''=>K v ρ σ'')):Aki C fn K e ρ ds σ:=by
 induction hd generalizing m σ with
 | nil=>cases h;exact hk σ hm
 | @mark k b c l ds hR hd ih =>
  have h':(match m.M.get k with|some (.own .defd)=>xDefersR l (m.put k .dead)|_=>none)=some m2:=h
  split at h'
  ·rename_i hg
   obtain⟨L,G,hm'⟩:=hm
   obtain⟨j,n,p,f,a,d,g,i⟩:=hm'.at hg (by simp)
   rw[hR]at a;cases a
   cases g
   exact⟨b,f,rfl,d,ih h' (hm'.kill2 i d)⟩
  ·cases h'
 | close hR hd ih=>cases h
end
section
variable{C:Ctx}{F:Fns}
theorem Bii{P g args m m' x}(h:(funK P g).run F args m = .v x m'):∃fn c ex st,P.funcs[g]?=some fn∧fn.body=some c∧args.length≤fn.ntmps∧(codeK P doX fn.ntmps c).run F none ⟨xArgEnv args 0 .leaf,m,[]⟩=Ng ex st∧(∀id,ex ≠ .exit id)∧xFin (resK P fn.results.toList).run st = .v x m':=by
 unfold funK at h
 split at h
 ·rename_i fn hf
  split at h
  ·rename_i c hc
   have h':(match Nat.ble (xLen args) fn.ntmps with
    | true=>match (codeK P doX fn.ntmps c).run F none ⟨xArgEnv args 0 .leaf,m,[]⟩ with
     | .n st=>xFin (resK P fn.results.toList).run st
     | .r st=>xFin (resK P fn.results.toList).run st
     | _=>.bad
    | false=>RV.bad) = .v x m':=h
   split at h'
   ·rename_i hb
    have a:=Qz hb
    rw[Tz]at a
    split at h'
    ·rename_i st hst;exact⟨fn,c,.normal,st,hf,hc,a,hst,by simp,h'⟩
    ·rename_i st hst;exact⟨fn,c,.ret,st,hf,hc,a,hst,by simp,h'⟩
    ·cases h'
   ·cases h'
  ·cases h
 ·cases h
theorem Bij(hF:FnsOk C F)(hx:∀S,Asl (goT C S) F doX){g args m m' x}(h:(funK C.P g).run F args m = .v x m'):Kept m m'∧∀R args' ρ σ σ₀,Jp σ₀→VR R args args'→MemX R m ρ σ σ₀ →
  CallsH C g args'.toArray ρ σ (fun v ρ' σ'=>∃R',XR.le R R'∧Ro.le ρ ρ'∧V1 R' x v∧MemX R' m' ρ' σ' σ₀):=by
 obtain⟨fn,c,ex,st,hf,hc,p,u,hex,a⟩:=Bii h
 have b:=fun S=>Ait hF (hx S) (fun _=>⟨⟨S,rfl⟩,hx⟩) c u
 unfold xFin at a
 split at a
 ·rename_i m2 hd
  have k:=(b (fun _ _ _ _=>True) ⟨g,.normal,none⟩ (by simp)).1
  have n:=Avg hd
  have key:∀r,(resK C.P fn.results.toList).run st.e m2=some r→(∀R vs,VR R r vs→V1 R x (Adi vs))→m2=m'→Kept m m'∧∀R args' ρ σ σ₀,Jp σ₀→VR R args args'→MemX R m ρ σ σ₀ →
    CallsH C g args'.toArray ρ σ (fun v ρ' σ'=>∃R',XR.le R R'∧Ro.le ρ ρ'∧V1 R' x v∧MemX R' m' ρ' σ' σ₀):=by
   intro r hr hxv q
   subst q
   refine⟨k.trans n,fun R args' ρ σ σ₀ hn hv hm=>?_⟩
   refine Oy hf hc rfl (by rw[←hv.len];exact p) ?_
   refine Adw (Reach.wp (S:=fun _ _ _ _=>True) (o:=m.outs) (o':=st.m.outs) (ex:=ex) (Q:=fun ex' e' ds' ρ' σ'=>ex'=ex∧∃R',XR.le R R'∧Ro.le ρ ρ'∧Sim R' st e' ds' ρ' σ' σ₀) fun S =>
    ((b S ⟨g,.normal,none⟩ (by simp)).2 trivial R (Pn args') [] ρ σ σ₀ hn ⟨trivial,rfl⟩ ⟨Aup hv,hm,.nil⟩).mono fun e ds ρ σ h=>⟨rfl,h⟩) ?_
   rintro ex' e' ds' ρ' σ' ⟨rfl,R',z,B,hs⟩
   refine⟨hex,Ayv hd hs.ds hs.mem fun σ'' d=>?_⟩
   obtain⟨vs,i,j⟩:=Bah hs.env d _ r hr
   exact Vf (by simp) j ⟨R',z,B,hxv R' vs i,d⟩
  split at a
  ·rename_i v hr
   cases a
   refine key _ hr (fun R vs hvs=>?_) rfl
   match vs,hvs with
   | [],hvs=>cases hvs
   | [w],hvs=>exact hvs
   | w::w'::vs,hvs=>exact absurd hvs.len (by simp)
  ·rename_i l hne hr
   cases a
   refine key _ hr (fun R vs hvs=>?_) rfl
   have f:Adi vs = .tuple vs.toArray:=by
    unfold Adi
    split
    ·rename_i v
     exfalso
     have:=hvs.len
     match l,this,hne with
     | [y],_,hne=>exact hne y rfl
    ·rfl
   rw[f]
   exact .t hvs .nil
  ·cases a
 ·cases a
end
end
section
open Go Go.Conc
def Ayn:Option Cell→Option CO
 | some (.own o)=>some o
 | some (.ro o)=>some o
 | none=>none
theorem Bqq(m:Mem)(k:Nat):m.obj k=Ayn (m.M.get k):=by
 unfold Mem.obj Ayn
 cases m.M.get k with
 | none=>rfl
 | some c=>cases c<;>rfl
theorem Adm{t:Tr Cell}{k o}(h:t.get k=some (.own o))(j:Nat):Ayn ((t.set k (.ro o)).get j)=Ayn (t.get j):=by
 rw[Tr.get_set]
 by_cases hj:j=k
 ·subst hj;rw[if_pos rfl,h];rfl
 ·rw[if_neg hj]
theorem Yh:∀(n:Nat) (l:List Nat) (t:Tr Cell) (j:Nat),Ayn ((xShare n l t).get j)=Ayn (t.get j)
 | 0,l,t,j=>rfl
 | n+1,[],t,j=>rfl
 | n+1,k::l,t,j=>by
  have e:xShare (n+1) (k::l) t=(match t.get k with
   | some (.own (.cells c))=>xShare n (xApp (xKeysL c) l) (t.set k (.ro (.cells c)))
   | some (.own (.grow z c))=>xShare n (xApp (xKeysL c) l) (t.set k (.ro (.grow z c)))
   | some (.own (.map es))=>xShare n (xApp (xKeysO (.map es)) l) (t.set k (.ro (.map es)))
   | _=>xShare n l t):=rfl
  rw[e]
  split
  ·rename_i c hk;rw[Yh,Adm hk]
  ·rename_i z c hk;rw[Yh,Adm hk]
  ·rename_i es hk;rw[Yh,Adm hk]
  ·exact Yh n l t j
theorem Aha:∀(n:Nat) (l:List Nat) (t:Tr Cell) (j:Nat) (o:CO),(xShare n l t).get j=some (.own o)→t.get j=some (.own o)
 | 0,l,t,j,o,h=>h
 | n+1,[],t,j,o,h=>h
 | n+1,k::l,t,j,o,h=>by
  have e:xShare (n+1) (k::l) t=(match t.get k with
   | some (.own (.cells c))=>xShare n (xApp (xKeysL c) l) (t.set k (.ro (.cells c)))
   | some (.own (.grow z c))=>xShare n (xApp (xKeysL c) l) (t.set k (.ro (.grow z c)))
   | some (.own (.map es))=>xShare n (xApp (xKeysO (.map es)) l) (t.set k (.ro (.map es)))
   | _=>xShare n l t):=rfl
  rw[e]at h
  have step:∀{l':List Nat} {o':CO},(xShare n l' (t.set k (.ro o'))).get j=some (.own o)→t.get j=some (.own o):=fun {l' o'} h=>by
   have:=Aha n _ _ j o h
   rw[Tr.get_set]at this
   by_cases hj:j=k
   ·rw[if_pos hj]at this;cases this
   ·rw[if_neg hj]at this;exact this
  split at h
  ·exact step h
  ·exact step h
  ·exact step h
  ·exact Aha n l t j o h
section
variable{R:XR}{m:Mem}{ρ:Ro}{σ σ₀:Own}
def Mem.withM(m:Mem)(t:Tr Cell):Mem:=⟨t,m.nx,m.log,m.ln,m.outs⟩
/-- One block is shared. -/
theorem Bal{C S fr cs k o}(hm:MemX R m ρ σ σ₀)(hk:m.M.get k=some (.own o))(ho:∀c r,ObjR R c o r→∃ob,r = .obj ob)(hd:o ≠ .dead)(h:∀ρ' σ',Ro.le ρ ρ'→(∀p∈σ',p∈σ)→MemX R (m.withM (m.M.set k (.ro o))) ρ' σ' σ₀→GoesH C S fr cs ρ' σ'):GoesH C S fr cs ρ σ:=by
 obtain⟨L,G,hm⟩:=hm
 obtain⟨b,c,r,i,v,D,n,w⟩:=hm.at hk hd
 obtain⟨ob,rfl⟩:=ho c r n
 obtain⟨A,B,rfl⟩:=Wa w
 have nd:=hm.nd
 simp only[Ql,Qc]at nd
 have hAB:∀p∈A++B,p.1≠k:=fun p hp e=>by
  rw[Apn]at nd
  obtain⟨E,x,y⟩:=nd
  rcases Of.1 hp with hp|hp
  ·exact y p.1 (Aai (f:=Prod.fst) hp) k mC e
  ·exact(Aen.1 x).1 (e ▸ Aai (f:=Prod.fst) hp)
 have dim:∀{p},p∈A++B→p∈A++(k,b,Res.obj ob)::B:=fun {p} hp=>(Of.1 hp).elim (Uf _) fun hp=>Pz _ (lZ7 _ hp)
 have p0:=hm.perm
 have t:σ.Perm ((b,Res.obj ob)::((A++B).map Prod.snd++(G++σ₀))):=by
  simp only[Ql,Qc,lZ9,Wj]at p0 ⊢
  exact p0.trans Azu
 refine .ghost (Cai t) (Rv fun ρ' hle hb=>h ρ' _ hle (fun p hp=>t.mem_iff.2 (lZ7 _ hp)) ?_)
 have gt:∀j,(m.withM (m.M.set k (.ro o))).M.get j=if j=k then some (.ro o) else m.M.get j:=fun j=>Tr.get_set ..
 refine⟨A++B,G,.refl _,?_,fun p hp=>?_,fun j oj hj hdj=>?_,fun j oj hj=>?_,hm.gar,hm.lt,hm.glob⟩
 ·rw[Ql]
  have:(A.map Prod.fst++B.map Prod.fst).Sublist (A.map Prod.fst++k::B.map Prod.fst):=List.Sublist.append_left (Bjm ..) _
  exact this.nodup nd
 ·obtain⟨a,o1,d,g,l⟩:=hm.own p (dim hp)
  exact⟨a,o1,d,by rw[gt,if_neg (hAB p hp)];exact g,l⟩
 ·rw[gt]at hj
  by_cases hjk:j=k
  ·rw[if_pos hjk]at hj;cases hj
  ·rw[if_neg hjk]at hj
   obtain⟨q,hq⟩:=hm.all j oj hj hdj
   rcases Of.1 hq with hq|hq
   ·exact⟨q,Uf _ hq⟩
   ·rcases Nc.1 hq with e|hq
    ·exact absurd (Prod.mk.inj e).1 hjk
    ·exact⟨q,Pz _ hq⟩
 ·rw[gt]at hj
  by_cases hjk:j=k
  ·rw[if_pos hjk]at hj
   cases hj
   subst hjk
   exact⟨b,c,ob,v,hb,.of n⟩
  ·rw[if_neg hjk]at hj
   obtain⟨u,a,z,d,g,l⟩:=hm.ro j oj hj
   exact⟨u,a,z,d,hle _ _ g,l⟩
theorem Wm{C:Ctx}{S:Cy}{fr:Frame}{cs:List Frame}:∀(n:Nat) (l:List Nat) (m:Mem) (ρ:Ro) (σ:Own),MemX R m ρ σ σ₀ →
  (∀ρ' σ',Ro.le ρ ρ'→(∀p∈σ',p∈σ)→MemX R (m.withM (xShare n l m.M)) ρ' σ' σ₀→GoesH C S fr cs ρ' σ')→GoesH C S fr cs ρ σ
 | 0,l,m,ρ,σ,hm,h=>h ρ σ .refl (fun p hp=>hp) hm
 | n+1,[],m,ρ,σ,hm,h=>h ρ σ .refl (fun p hp=>hp) hm
 | n+1,k::l,m,ρ,σ,hm,h=>by
  have e:xShare (n+1) (k::l) m.M=(match m.M.get k with
   | some (.own (.cells c))=>xShare n (xApp (xKeysL c) l) (m.M.set k (.ro (.cells c)))
   | some (.own (.grow z c))=>xShare n (xApp (xKeysL c) l) (m.M.set k (.ro (.grow z c)))
   | some (.own (.map es))=>xShare n (xApp (xKeysO (.map es)) l) (m.M.set k (.ro (.map es)))
   | _=>xShare n l m.M):=rfl
  rw[e]at h
  split at h
  ·rename_i c hk
   refine Bal hm hk (fun _ _ ho=>by cases ho;exact⟨_,rfl⟩) (by simp) fun ρ' σ' a b d=>?_
   exact Wm n _ _ ρ' σ' d fun ρ'' σ'' f g i=>h ρ'' σ'' (a.trans f) (fun p hp=>b p (g p hp)) i
  ·rename_i z c hk
   refine Bal hm hk (fun _ _ ho=>by cases ho;exact⟨_,rfl⟩) (by simp) fun ρ' σ' a b d=>?_
   exact Wm n _ _ ρ' σ' d fun ρ'' σ'' f g i=>h ρ'' σ'' (a.trans f) (fun p hp=>b p (g p hp)) i
  ·rename_i es hk
   refine Bal hm hk (fun _ _ ho=>by cases ho;exact⟨_,rfl⟩) (by simp) fun ρ' σ' a b d=>?_
   exact Wm n _ _ ρ' σ' d fun ρ'' σ'' f g i=>h ρ'' σ'' (a.trans f) (fun p hp=>b p (g p hp)) i
  ·exact Wm n l m ρ σ hm h
theorem Bfd{α}(k:Nat):(Tr.leaf:Tr α).get k=none:=rfl
theorem Zd:∀(t:Tr Cell) (k:Nat),(xOnlyRo t).get k=xRoOf (t.get k)
 | .leaf,k=>rfl
 | .node v l r,k=>by
  show (Tr.node (xRoOf v) (xOnlyRo l) (xOnlyRo r)).get k=_
  rw[Tr.get_node,Tr.get_node]
  split
  ·rfl
  ·split
   ·exact Zd r _
   ·exact Zd l _
theorem Agq:∀(t:Tr Cell) (k:Nat) (vs:List CV),xNoRcv t=true→t.get k≠some (.own (.rcv vs))
 | .leaf,k,vs,_=>by simp[Bfd]
 | .node v l r,k,vs,h=>by
  have h':(match xIsRcv v with|true=>false|false=>match xNoRcv l with|true=>xNoRcv r|false=>false)=true:=h
  rw[Tr.get_node]
  split at h'
  ·cases h'
  ·rename_i hv
   split at h'
   ·rename_i hl
    split
    ·intro e;subst e;cases hv
    ·split
     ·exact Agq r _ vs h'
     ·exact Agq l _ vs hl
   ·cases h'
/-- What the child reads. -/
theorem MemX.child(h:MemX R m ρ σ σ₀):MemX R ⟨xOnlyRo m.M,m.nx,[],0,[]⟩ ρ [] []:=by
 obtain⟨L,G,h⟩:=h
 have own:∀k o,xRoOf (m.M.get k)≠some (.own o):=fun k o e=>by
  unfold xRoOf at e;split at e<;>cases e
 refine⟨[],[],.refl _,by simp,fun p hp=>(by cases hp),fun k o hk _=>?_,fun k o hk=>?_,fun p hp=>(by cases hp),h.lt,h.glob⟩
 ·have hk':(xOnlyRo m.M).get k=some (.own o):=hk
  rw[Zd]at hk'
  exact absurd hk' (own k o)
 ·have hk':(xOnlyRo m.M).get k=some (.ro o):=hk
  rw[Zd]at hk'
  unfold xRoOf at hk'
  split at hk'
  ·rename_i o' hg
   cases hk'
   exact h.ro k _ hg
  ·cases hk'
theorem MemX.noRcv(h:MemX R m ρ σ σ₀)(hn:Jp σ₀)(hr:xNoRcv m.M=true):Jp σ:=fun c vs hm=>by
 obtain⟨L,G,h⟩:=h
 have:=h.perm.mem_iff.1 hm
 rcases Of.1 this with h1|h1
 ·obtain⟨p,hp,e⟩:=Sz.1 h1
  obtain⟨d,o1,f,b,a⟩:=h.own p hp
  rw[e]at a
  cases a with
  | rcv hv=>exact Agq _ _ _ hr b
 ·rcases Of.1 h1 with h1|h1
  ·obtain⟨o,ho⟩:=h.gar _ h1
   cases ho
  ·exact hn c vs h1
theorem Bag{x}:∀{i:Nat} {σ τ:Own},σ.Perm (x::τ)→σ[i]?=some x→(σ.eraseIdx i).Perm τ:=fun {i σ τ} h hi=>by
 have b:σ.Perm (x::σ.eraseIdx i):=by
  have hlt:=(Mq.1 hi).1
  clear h
  induction σ generalizing i with
  | nil=>cases hlt
  | cons a σ ih =>
   cases i with
   | zero=>cases hi;exact .refl _
   | succ i =>
    rw[Aem]at hi
    exact((ih hi (by simpa using hlt)).cons a).trans (.swap ..)
 exact(b.symm.trans h).cons_inv
/-- It is gone. -/
theorem MemX.gone(h:MemX R m ρ σ σ₀){k o}(hk:m.M.get k=some (.own o))(hd:o ≠ .dead):∃b c r i,R k=some (b,c)∧σ[i]?=some (b,r)∧ObjR R c o r∧MemX R (m.put k .dead) ρ (σ.eraseIdx i) σ₀:=by
 obtain⟨L,G,h⟩:=h
 obtain⟨b,c,r,i,t,a,u,v⟩:=h.at hk hd
 refine⟨b,c,r,i,t,a,u,?_⟩
 obtain⟨A,B,rfl⟩:=Wa v
 have nd:=h.nd
 simp only[Ql,Qc]at nd
 have hAB:∀p∈A++B,p.1≠k:=fun p hp e=>by
  rw[Apn]at nd
  obtain⟨y,w,x⟩:=nd
  rcases Of.1 hp with hp|hp
  ·exact x p.1 (Aai (f:=Prod.fst) hp) k mC e
  ·exact(Aen.1 w).1 (e ▸ Aai (f:=Prod.fst) hp)
 have dim:∀{p},p∈A++B→p∈A++(k,b,r)::B:=fun {p} hp=>(Of.1 hp).elim (Uf _) fun hp=>Pz _ (lZ7 _ hp)
 refine⟨A++B,G,?_,?_,fun p hp=>?_,fun j oj hj hd=>?_,fun j oj hj=>?_,h.gar,h.lt,h.glob⟩
 ·have p0:=h.perm
  simp only[Ql,Qc,lZ9,Wj]at p0 ⊢
  exact Bag (p0.trans Azu) a
 ·rw[Ql]
  have:(A.map Prod.fst++B.map Prod.fst).Sublist (A.map Prod.fst++k::B.map Prod.fst):=List.Sublist.append_left (Bjm ..) _
  exact this.nodup nd
 ·obtain⟨d,o1,g,l,n⟩:=h.own p (dim hp)
  exact⟨d,o1,g,by rw[Pe,if_neg (hAB p hp)];exact l,n⟩
 ·rw[Pe]at hj
  by_cases hjk:j=k
  ·rw[if_pos hjk]at hj;cases hj;exact absurd rfl hd
  ·rw[if_neg hjk]at hj
   obtain⟨q,hq⟩:=h.all j oj hj hd
   rcases Of.1 hq with hq|hq
   ·exact⟨q,Uf _ hq⟩
   ·rcases Nc.1 hq with e|hq
    ·exact absurd (Prod.mk.inj e).1 hjk
    ·exact⟨q,Pz _ hq⟩
 ·rw[Pe]at hj
  by_cases hjk:j=k
  ·rw[if_pos hjk]at hj;cases hj
  ·rw[if_neg hjk]at hj;exact h.ro j oj hj
end
end
section
open Go Go.Conc
section
variable{P:Program}{b:FB}{n:Nat}{l₀ rest:List Oper}{Q:Env→List Deferred→Ro→Own→Prop}{e:Env}{ds:List Deferred}{ρ:Ro}{σ:Own}{o o':List CV}{S:Cy}
variable{dd:Option Tmp}{ty t:TypeId}{pos:String}{af:Array Edge}{g:Option (Nat×Bool)}{x:Operand}{v z:Value}
theorem Bfn{el dir c}(hT:P.underlying t=some (.chan dir el))(hz:Fw P el z)(hx:Af e x = .chan (some c))(W:World):
  (execOp (Af e) ⟨dd,.recv t x true,ty,pos,af,g⟩).runT P W #[]=(.ok (.comm #[Conc.rcase c z] true (.recv true)) W,#[]):=by
 obtain⟨ti,f,h⟩:=hz
 show ((underlying t).bind _:Sem Next).runT P W #[]=_
 rw[Sem.runT_bind']
 have a:(underlying t).runT P W #[]=(.ok (.chan dir el) W,#[]):=by
  show Sem.runT P (match P.underlying t with|some i=>pure i|none=>_) W #[]=_
  rw[hT];rfl
 rw[a]
 show ((zeroValue el).bind _:Sem Next).runT P W #[]=_
 rw[Sem.runT_bind']
 have b:(zeroValue el).runT P W #[]=(.ok z W,#[]):=by
  show Sem.runT P ((typeInfo el).bind _) W #[]=_
  rw[Sem.runT_bind']
  have d:(typeInfo el).runT P W #[]=(.ok ti W,#[]):=by
   show Sem.runT P (match P.info? el with|some i=>pure i|none=>_) W #[]=_
   rw[f];rfl
  rw[d]
  simp only[h]
  rfl
 rw[b,hx]
 rfl
theorem Axc{el dir c}(hT:P.underlying t=some (.chan dir el))(hz:Fw P el z)(hx:Af e x = .chan (some c)){i rs tm k cs}(ho:l₀.toArray[i]?=some ⟨dd,.recv t x true,ty,pos,af,g⟩)(hw:Bz l₀.toArray ⟨dd,.recv t x true,ty,pos,af,g⟩ e=true)(hs:Fu n l₀.toArray=true)(hk:b.kind ≠ .early)(ht:EnvOf n tm e):Sv P c z (Fr b tm ds (.inRegion l₀.toArray (i::rs)::k)) cs:=by
 intro W
 have hev:=ht.eval b ds (.inRegion l₀.toArray (i::rs)::k)
 have hst:=Np (C:=Iw P) (b:=b) (ds:=ds) (tm:=tm) (k:=k) (cs:=cs) (rest:=rs) ho (by rw[Ij hs ht];exact hw) (fun c' h'=>by cases h') W
 refine hst.trans ?_
 rw[hev]
 have hk':(b.kind==CallKind.early)=false:=by cases hb:b.kind<;>simp_all<;>rfl
 have hr:=Bfn (P:=P) (dd:=dd) (ty:=ty) (pos:=pos) (af:=af) (g:=g) hT hz hx W
 simp only[Iw]at *
 simp[stepG.apply,-Sem.runT_eq,hr,hk',GStep.after,Conc.G,Fr,seen]
theorem Bta{el dir c i vs}(hs:Fu n l₀.toArray=true)(hk:b.kind ≠ .early)(hw:Bz l₀.toArray ⟨dd,.recv t x true,ty,pos,af,g⟩ e=true)(hT:P.underlying t=some (.chan dir el))(hz:Fw P el z)(hx:Af e x = .chan (some c))(hi:σ[i]?=some (c,Res.recv (v::vs)))(h:Ops (goT (Iw P) S) b n l₀ rest o (Ja e dd (.tuple #[v,.bool true])) ds ρ (σ.set i (c,.recv vs)) o' Q):Ops (goT (Iw P) S) b n l₀ (⟨dd,.recv t x true,ty,pos,af,g⟩::rest) o e ds ρ σ o' Q:=by
 intro pre a tm k cs ht hq
 have ho:l₀.toArray[pre.length]?=some ⟨dd,.recv t x true,ty,pos,af,g⟩:=by subst a;simp
 rw[lZ3,Azv]
 have d:=h (pre++[⟨dd,.recv t x true,ty,pos,af,g⟩]) (by rw[a];simp)
 rw[lZ0,Atl]at d
 refine GoesH.ext (K:=fun fr' cs' ρ' σ'=>fr'=(Fr b tm ds (.inRegion l₀.toArray (pre.length::List.range' (pre.length+1) rest.length)::k)).finish (.tuple #[v,.bool true])∧cs'=cs∧ρ'=ρ∧σ'=σ.set i (c,.recv vs))
  (.inr (.inl ⟨i,c,v,vs,z,Axc hT hz hx ho hw hs hk ht,hi,rfl,rfl,rfl,rfl⟩)) ?_
 rintro _ _ _ _ ⟨rfl,rfl,rfl,rfl⟩
 rw[Ju ho]
 exact d _ k _ (Jj hs ht ho _) hq
theorem Bfh{el dir c i}(hs:Fu n l₀.toArray=true)(hk:b.kind ≠ .early)(hw:Bz l₀.toArray ⟨dd,.recv t x true,ty,pos,af,g⟩ e=true)(hT:P.underlying t=some (.chan dir el))(hz:Fw P el z)(hx:Af e x = .chan (some c))(hi:σ[i]?=some (c,Res.recv []))(h:Ops (goT (Iw P) S) b n l₀ rest o (Ja e dd (.tuple #[z,.bool false])) ds ρ (σ.eraseIdx i) o' Q):Ops (goT (Iw P) S) b n l₀ (⟨dd,.recv t x true,ty,pos,af,g⟩::rest) o e ds ρ σ o' Q:=by
 intro pre a tm k cs ht hq
 have ho:l₀.toArray[pre.length]?=some ⟨dd,.recv t x true,ty,pos,af,g⟩:=by subst a;simp
 rw[lZ3,Azv]
 have d:=h (pre++[⟨dd,.recv t x true,ty,pos,af,g⟩]) (by rw[a];simp)
 rw[lZ0,Atl]at d
 refine GoesH.ext (K:=fun fr' cs' ρ' σ'=>fr'=(Fr b tm ds (.inRegion l₀.toArray (pre.length::List.range' (pre.length+1) rest.length)::k)).finish (.tuple #[z,.bool false])∧cs'=cs∧ρ'=ρ∧σ'=σ.eraseIdx i)
  (.inr (.inr ⟨i,c,z,Axc hT hz hx ho hw hs hk ht,hi,rfl,rfl,rfl,rfl⟩)) ?_
 rintro _ _ _ _ ⟨rfl,rfl,rfl,rfl⟩
 rw[Ju ho]
 exact d _ k _ (Jj hs ht ho _) hq
/-- A go statement,where what the child reads has been shared. -/
theorem Bsy{c df i ch vs}(hs:Fu n l₀.toArray=true)(hk:b.kind ≠ .early)(hw:Bz l₀.toArray ⟨dd,.go c,ty,pos,af,g⟩ e=true)(hd:resolve (Af e) c ty=pure df)(hnil:∃f fs,df.target = .fn f fs)(hn:Jp σ)(hi:σ[i]?=some (ch,Res.chan))(hS:SendI P ch vs (Gg P df) [] ρ [])(h:Ops (goT (Iw P) S) b n l₀ rest o (Ja e dd undef) ds ρ (σ.set i (ch,.recv vs)) o' Q){pre}(hpre:l₀=pre++⟨dd,.go c,ty,pos,af,g⟩::rest){tm k cs}(ht:EnvOf n tm e)(hq:∀tm' e' ds' ρ' σ',EnvOf n tm' e'→Q e' ds' ρ' σ'→(goT (Iw P) S).Go o' (Fr b tm' ds' k) cs ρ' σ'):
  GoesH (Iw P) S (Fr b tm ds (.inRegion l₀.toArray (List.range' pre.length (⟨dd,.go c,ty,pos,af,g⟩::rest:List Oper).length)::k)) cs ρ σ:=by
 have ho:l₀.toArray[pre.length]?=some ⟨dd,.go c,ty,pos,af,g⟩:=by subst hpre;simp
 rw[lZ3,Azv]
 have a:=h (pre++[⟨dd,.go c,ty,pos,af,g⟩]) (by rw[hpre];simp)
 rw[lZ0,Atl]at a
 have hev:=ht.eval b ds (.inRegion l₀.toArray (pre.length::List.range' (pre.length+1) rest.length)::k)
 have hex:execOp (Af e) ⟨dd,.go c,ty,pos,af,g⟩=(pure (.spawn df):Sem Next):=by
  show ((resolve (Af e) c ty).bind fun d=>pure (Next.spawn d))=_
  rw[hd];rfl
 refine GoesH.ext (K:=fun fr' cs' ρ' σ'=>fr'=(Fr b tm ds (.inRegion l₀.toArray (pre.length::List.range' (pre.length+1) rest.length)::k)).finish undef∧cs'=cs∧ρ'=ρ∧σ'=σ.set i (ch,.recv vs))
  (.inl ⟨df,i,ch,vs,_,fun W=>?_,hn,hi,hS,rfl,rfl,rfl,rfl⟩) ?_
 ·have hst:=Np (C:=Iw P) (b:=b) (ds:=ds) (tm:=tm) (k:=k) (cs:=cs) (rest:=List.range' (pre.length+1) rest.length) ho (by rw[Ij hs ht];exact hw) (fun c' h'=>by cases h') W
  refine hst.trans ?_
  rw[hev,hex]
  have hk':(b.kind==CallKind.early)=false:=by cases hb:b.kind<;>simp_all<;>rfl
  obtain⟨tg,ar⟩:=df
  obtain⟨f,fs,hnil⟩:=hnil
  simp only at hnil
  subst hnil
  simp[stepG.apply,Sem.runT,pure,hk',GStep.after,Conc.G,Gg,Fr,seen,Iw]
 ·rintro _ _ _ _ ⟨rfl,rfl,rfl,rfl⟩
  rw[Ju ho]
  exact a _ k _ (Jj hs ht ho _) hq
/-- A send. -/
theorem Btb{c kc fin y xv}(hs:Fu n l₀.toArray=true)(hk:b.kind ≠ .early)(hw:Bz l₀.toArray ⟨dd,.send x y,ty,pos,af,g⟩ e=true)(hx:Af e x = .chan (some c))(hy:Af e y=plainV xv)(hsuf:∃l,fin=l++(xv::o))(h:Ops (Axg P c kc fin) b n l₀ rest (xv::o) (Ja e dd undef) ds ρ σ o' Q):Ops (Axg P c kc fin) b n l₀ (⟨dd,.send x y,ty,pos,af,g⟩::rest) o e ds ρ σ o' Q:=by
 intro pre a tm k cs ht hq l hl
 have ho:l₀.toArray[pre.length]?=some ⟨dd,.send x y,ty,pos,af,g⟩:=by subst a;simp
 rw[lZ3,Azv]
 have d:=h (pre++[⟨dd,.send x y,ty,pos,af,g⟩]) (by rw[a];simp)
 rw[lZ0,Atl]at d
 have hev:=ht.eval b ds (.inRegion l₀.toArray (pre.length::List.range' (pre.length+1) rest.length)::k)
 obtain⟨l',hl'⟩:=hsuf
 have f:l=l'++[xv]:=by
  have:l++o=(l'++[xv])++o:=by rw[←hl,hl'];simp
  exact List.append_cancel_right this
 subst f
 have i:(l'++[xv]).reverse.map plainV=plainV xv::l'.reverse.map plainV:=by simp
 rw[i]
 refine .send (z:=.tuple #[]) (fun W=>?_) ?_
 ·have hst:=Np (C:=Wn P) (b:=b) (ds:=ds) (tm:=tm) (k:=k) (cs:=cs) (rest:=List.range' (pre.length+1) rest.length) ho (by rw[Ij hs ht];exact hw) (fun c' h'=>by cases h') W
  refine hst.trans ?_
  rw[hev]
  have hk':(b.kind==CallKind.early)=false:=by cases hb:b.kind<;>simp_all<;>rfl
  have hr:(execOp (Af e) ⟨dd,.send x y,ty,pos,af,g⟩).runT P W #[]=(.ok (.comm #[scase c (plainV xv) (.tuple #[])] true .send) W,#[]):=by
   show (Sem.pure (Next.comm #[{chan:=Af e x,send:=some (Af e y),zero:=.tuple #[]}] true .send)).runT P W #[]=_
   rw[hx,hy];rfl
  simp only[Wn]at *
  simp[stepG.apply,-Sem.runT_eq,hr,hk',GStep.after,Conc.G,Fr,seen]
 ·rw[Ju ho]
  exact d _ k _ (Jj hs ht ho undef) hq l' hl'
end
/-- What is said of a sender that is started. -/
def Bqc(P:Program)(F:Fns):Prop:=∀g args m k outs,m.outs=[]→F.send g args m k=some outs→(∀x∈outs,xPlainV x=true)∧∀R args' b c ρ,VR R args args'→MemX R m ρ [] []→R k=some (b,c) →
 SendI P b (outs.reverse.map plainV) (Gg P {target:=.fn (.func g) #[],args:=args'.toArray}) [] ρ []
theorem Acx{C}{G:GoT C}{F}(hF:FnsOk C F)(hm:F.mn=false):Asl G F doX:=by
 intro op st x m' ds' rd h
 have key:doOR F st ((opK C.P op.op).run st.e st.m) = .v x m' ds':=by
  have h':doX1 F rd st ((opK C.P op.op).run st.e st.m) = .v x m' ds':=h
  cases he:(opK C.P op.op).run st.e st.m with
  | go f args=>rw[he]at h';simp only[doX1,hm]at h';cases h'
  | recv k ok=>rw[he]at h';simp only[doX1,hm]at h';cases h'
  | _=>rw[he]at h';exact h'
 exact Atd (F:=F) (Aiv hF key)
theorem Bdm:∀(l r:List CV),xRev l r=l.reverse++r
 | [],r=>rfl
 | a::l,r=>by
  show xRev l (a::r)=_
  rw[Bdm l (a::r)];simp
theorem Azc{P F}(hF:FnsOk (Iw P) F)(hS:Bqc P F)(S:Cy):Asl (goT (Iw P) S) F doX:=by
 intro op st x m' ds' rd h
 have h':doX1 F rd st ((opK (Iw P).P op.op).run st.e st.m) = .v x m' ds':=h
 cases he:(opK (Iw P).P op.op).run st.e st.m with
 | go f args =>
  rw[he]at h'
  unfold doX1 at h'
  dsimp only at h'
  split at h'
  ·rename_i g0 hmn
   split at h'
   ·rename_i k hnr hch
    split at h'
    ·rename_i outs hgk hsd
     cases h'
     obtain⟨hpl,U⟩:=hS _ _ _ _ _ rfl hsd
     have a0:st.m.M.get k=some (.own .chan):=Aha _ _ _ _ _ hgk
     refine⟨⟨Lb _,⟨[k],rfl,rfl,fun j _ hj=>?_⟩,[],rfl,by simp⟩,fun b n l₀ rest o' Q R e ds ρ σ σ₀ hn hr hs hsl hk hw _ hc=>?_⟩
     ·have hjk:j≠k:=fun e=>hj (by rw[e];exact Aiq ..)
      rw[Bqq,Bqq]
      show Ayn ((Tr.set _ k _).get j)=_
      rw[Tr.get_set,if_neg hjk,Yh]
     ·obtain⟨y,ops,tys,hop,hf,ha⟩:=Bte he
      obtain⟨dd,Y,ty,pos,af,gd⟩:=op
      simp only at hop
      subst hop
      intro pre O tm kk cs ht hq
      have hv:=Hd hs.env hs.mem.globR y
      rw[←hf]at hv
      obtain⟨xs',ys',g,u,X⟩:=Bpm hv
      cases g
      cases u
      have hav:=Afc hs.env hs.mem.globR ops.toList
      rw[←ha]at hav
      have T:resolve (Af e) ⟨.value y,ops,tys⟩ ty=pure {target:=.fn (.func g0) #[],args:=(ops.toList.map (Af e)).toArray}:=by
       show Deferred.ofValue (Af e y) (ops.map (Af e))=_
       rw[X]
       show (pure {target:=.fn (.func g0) #[],args:=#[]++ops.map (Af e)}:Sem Deferred)=_
       have J:#[]++ops.map (Af e)=(ops.toList.map (Af e)).toArray:=by apply Array.ext';simp
       rw[J]
      refine Wm 100000 (xKeysL args) st.m ρ σ hs.mem fun ρ' σ' Z q2 hm'=>?_
      have K:(st.m.withM (xShare 100000 (xKeysL args) st.m.M)).M.get k=some (.own .chan):=hgk
      obtain⟨B,w,D,C,i,l,p,q⟩:=hm'.at K (by simp)
      cases p
      have hsi:=U R (ops.toList.map (Af e)) B w ρ' hav hm'.child i
      have N:Jp σ':=fun c vs L=>hs.mem.noRcv hn hnr c vs (q2 _ L)
      have hob:ObjR R w (.rcv (xRev outs [])) (.recv (outs.reverse.map plainV)):=by
       rw[Bdm,Za]
       exact .rcv (Aww R fun y hy=>hpl y (List.mem_reverse.1 hy))
      obtain⟨G,E,a⟩:=q _ _ hob
      refine Bsy (o:=st.m.outs) hsl hk hw T ⟨_,_,rfl⟩ N l hsi ?_ O ht hq
      exact hc R undef ds ρ' _ .refl Z (.t .nil .nil) ⟨G,E,a.perm,a.nd,a.own,a.all,a.ro,a.gar,a.lt,a.glob⟩ hs.ds
    ·cases h'
   ·cases h'
  ·cases h'
 | recv k ok =>
  rw[he]at h'
  unfold doX1 at h'
  dsimp only at h'
  split at h'
  ·obtain⟨t,y,d,el,z,hop,hT,hz,hy⟩:=Bkd he
   obtain⟨dd,Y,ty,pos,af,gd⟩:=op
   simp only at hop
   subst hop
   split at h'
   ·rename_i v vs hg
    cases h'
    refine⟨(LogOk.put _ _ _).kept,fun b n l₀ rest o' Q R e ds ρ σ σ₀ hn hr hs hsl hk hw _ hc=>?_⟩
    obtain⟨B,w,D,C,i,l,p,q⟩:=hs.mem.at hg (by simp)
    cases p with
    | @rcv _ vs' hv =>
     match vs',hv with
     | [],hv=>cases hv
     | v'::vs'',hv =>
      obtain⟨V,W⟩:=VR.cons_iff.1 hv
      have hyv:=Hd hs.env hs.mem.globR y
      rw[hy]at hyv
      obtain⟨H,I,g,u⟩:=Bpl hyv
      rw[i]at g;cases g
      refine Bta hsl hk hw hT hz u l ?_
      exact hc R _ ds ρ _ .refl .refl (.t (VR.cons_iff.2 ⟨V,.b _ .nil⟩) .nil) (q _ _ (.rcv W)) hs.ds
   ·rename_i hg
    cases h'
    refine⟨(LogOk.put _ _ _).kept,fun b n l₀ rest o' Q R e ds ρ σ σ₀ hn hr hs hsl hk hw _ hc=>?_⟩
    obtain⟨B,w,D,C,i,l,p,q⟩:=hs.mem.gone hg (by simp)
    cases p with
    | rcv hv =>
     cases hv
     have hyv:=Hd hs.env hs.mem.globR y
     rw[hy]at hyv
     obtain⟨H,I,g,u⟩:=Bpl hyv
     rw[i]at g;cases g
     refine Bfh hsl hk hw hT hz u l ?_
     exact hc R _ ds ρ _ .refl .refl (.t (.bad _ (.b _ .nil)) .nil) q hs.ds
   ·cases h'
  ·cases h'
 | _=>rw[he]at h';exact Atd (F:=F) (Aiv hF (by rw[he];exact h'))
end
section
open Go Go.Conc
theorem Brz{P F c kc fin}(hF:FnsOk (Wn P) F)(hch:F.ch=kc):Asl (Axg P c kc fin) F doS:=by
 intro op st x m' ds' rd h
 have h':doS1 F rd st ((opK (Wn P).P op.op).run st.e st.m) = .v x m' ds':=h
 cases he:(opK (Wn P).P op.op).run st.e st.m with
 | send k y =>
  rw[he]at h'
  unfold doS1 at h'
  dsimp only at h'
  split at h'
  ·rename_i hk0 hpl
   have p:k=kc:=(Vg hk0).trans hch
   subst p
   cases h'
   refine⟨⟨Lb _,⟨[],rfl,rfl,fun _ _ _=>rfl⟩,[y],rfl,fun z hz=>by rw[Sl.1 hz];exact hpl⟩,fun b n l₀ rest o' Q R e ds ρ σ σ₀ hn hr hs hsl hk hw g hc=>?_⟩
   obtain⟨a,yy,hop,ha,hy⟩:=Bkf he
   obtain⟨dd,u,ty,pos,af,gd⟩:=op
   simp only at hop
   subst hop
   have hav:=Hd hs.env hs.mem.globR a
   rw[ha]at hav
   obtain⟨i,j,d,f⟩:=Bpl hav
   obtain⟨⟨cc,hcc⟩,_⟩:=hr
   rw[hcc]at d;cases d
   have hyv:=Hd hs.env hs.mem.globR yy
   rw[hy]at hyv
   refine Btb hsl hk hw f (Bkk hpl hyv) g ?_
   exact hc R undef ds ρ σ .refl .refl (.t .nil .nil) hs.mem.rest hs.ds
  ·cases h'
 | dclose y =>
  rw[he]at h'
  unfold doS1 at h'
  dsimp only at h'
  split at h'
  ·rename_i k hds
   split at h'
   ·cases h'
    refine⟨.refl _,fun b n l₀ rest o' Q R e ds ρ σ σ₀ hn hr hs hsl hk hw g hc=>?_⟩
    obtain⟨t,tys,hop,hg⟩:=Bae he
    obtain⟨dd,u,ty,pos,af,gd⟩:=op
    simp only at hop
    subst hop
    obtain⟨i,j,d,f⟩:=Bpl (hs.env t _ hg)
    have q:b.round=none:=hr.2
    have l:ds=[]:=by
     have:=hs.ds
     rw[hds]at this
     cases this;rfl
    subst l
    refine Bvs hsl hk hw ?_
    rw[q]
    refine Xn (C:=Wn P) rfl (show Af e (.tmp t)=_ from f) ?_
    exact hc R undef _ ρ σ .refl .refl (.t .nil .nil) hs.mem (.close d .nil)
   ·cases h'
  ·cases h'
 | _=>rw[he]at h';exact Atd (F:=F) (Aiv hF (by rw[he];exact h'))
theorem Bfr{P g F args m k outs}(h:(sendK P g).run F args m k=some outs):
  ∃fn c ex st,P.funcs[g]?=some fn∧(fn.name == "runtime.NumGoroutine")=false∧fn.body.isNone=false∧fn.body=some c∧fn.results = #[]∧args.length≤fn.ntmps∧(codeK P doS fn.ntmps c).run ⟨false,k,F.code,F.call,F.send⟩ none ⟨xArgEnv args 0 .leaf,m,[]⟩=Ng ex st∧(∀id,ex ≠ .exit id)∧st.ds=[.close k]∧st.m.outs=outs:=by
 unfold sendK at h
 split at h
 ·rename_i fn hf hb
  obtain⟨fn',hf',hn,hbn⟩:=Adb hb
  rw[hf]at hf';cases hf'
  split at h
  ·rename_i c hc hr
   have h':(match Nat.ble (xLen args) fn.ntmps with
    | true=>match (codeK P doS fn.ntmps c).run ⟨false,k,F.code,F.call,F.send⟩ none ⟨xArgEnv args 0 .leaf,m,[]⟩ with
     | .n st=>xFinS k st
     | .r st=>xFinS k st
     | _=>none
    | false=>none)=some outs:=h
   have i:fn.results = #[]:=by apply Array.ext';simpa using hr
   have key:∀ex st,(codeK P doS fn.ntmps c).run ⟨false,k,F.code,F.call,F.send⟩ none ⟨xArgEnv args 0 .leaf,m,[]⟩=Ng ex st→(∀id,ex ≠ .exit id)→xFinS k st=some outs→args.length≤fn.ntmps →
     ∃fn c ex st,P.funcs[g]?=some fn∧(fn.name == "runtime.NumGoroutine")=false∧fn.body.isNone=false∧fn.body=some c∧fn.results = #[]∧args.length≤fn.ntmps∧(codeK P doS fn.ntmps c).run ⟨false,k,F.code,F.call,F.send⟩ none ⟨xArgEnv args 0 .leaf,m,[]⟩=Ng ex st∧(∀id,ex ≠ .exit id)∧st.ds=[.close k]∧st.m.outs=outs:=by
    intro ex st d e a f
    unfold xFinS at a
    split at a
    ·rename_i j hd
     split at a
     ·rename_i hj
      have hj:=Vg hj
      subst hj
      cases a
      exact⟨fn,c,ex,st,hf,hn,hbn,hc,i,f,d,e,hd,rfl⟩
     ·cases a
    ·cases a
   split at h'
   ·rename_i hble
    have b:=Qz hble
    rw[Tz]at b
    split at h'
    ·rename_i st hst;exact key .normal st hst (by simp) h' b
    ·rename_i st hst;exact key .ret st hst (by simp) h' b
    ·cases h'
   ·cases h'
  ·cases h
 ·cases h
theorem Bow{P F}(hF:FnsOk (Wn P) F){g args m k outs}(ho:m.outs=[])(h:(sendK P g).run F args m k=some outs):
  (∀x∈outs,xPlainV x=true)∧∀R args' b c ρ,VR R args args'→MemX R m ρ [] []→R k=some (b,c)→SendI P b (outs.reverse.map plainV) (Gg P {target:=.fn (.func g) #[],args:=args'.toArray}) [] ρ []:=by
 obtain⟨fn,cd,ex,st,hf,hnm,hbn,hc,hr,p,t,hex,hds,a⟩:=Bfr h
 have hF':FnsOk (Wn P) ⟨false,k,F.code,F.call,F.send⟩:=⟨hF.call,hF.code⟩
 have f:∀b,Zs (Axg P b k outs) fn.ntmps none cd ⟨xArgEnv args 0 .leaf,m,[]⟩ ex st:=fun b =>
  Ait (G:=Axg P b k outs) hF' (Brz hF' rfl) (fun h=>by cases h) cd t
 refine⟨fun x hx=>?_,fun R args' b c ρ hv hm hR=>?_⟩
 ·obtain⟨w,hw,hp⟩:=(f 0 ⟨g,.deferred,none⟩ (by simp)).1.outs
  have hw':outs=w:=by rw[←a,hw];show w++m.outs=w;rw[ho,Za]
  exact hp x (hw' ▸ hx)
 ·refine Abt hf hnm hbn ?_
  have i:Frame.enter P g args'.toArray .deferred=Fr ⟨g,.deferred,none⟩ (args'.toArray++Array.replicate (fn.ntmps-args'.toArray.size) undef) [] [.code cd]:=by
   simp[Frame.enter,hf,hc,Fr]
  rw[i]
  have q:=(f b ⟨g,.deferred,none⟩ (by simp)).2 ⟨[],by rw[a];rfl⟩ R (Pn args') [] ρ [] [] (fun _ _ h=>by cases h) ⟨⟨c,hR⟩,rfl⟩ ⟨Aup hv,hm,.nil⟩
  have hgo:=q _ [] [Gf P] (Tn (by rw[←hv.len];exact p)) (fun tm' e' ds' ρ' σ' d v ⟨R',u,y,hs⟩ e=>?_)
  ·exact hgo outs (by show outs=outs++m.outs;rw[ho,Za])
  ·intro l hl
   rw[a]at hl
   have n:l=[]:=List.append_left_eq_self.1 hl.symm
   subst n
   have hd:=hs.ds
   rw[hds]at hd
   cases hd with
   | @close _ b2 c2 tys ty _ ds2 hk2 hd2 =>
    cases hd2
    have fin:∀d,SendI P b [] {Fr ⟨g,.deferred,none⟩ tm' [Lj b2 tys ty #[false]] d with mode:=.returning} [Gf P] ρ' σ':=fun d=>by
     have j:b2=b:=by rw[u _ _ hR]at hk2;cases hk2;rfl
     subst j
     exact .close (Aky (b:=⟨g,.deferred,none⟩) hf rfl hr)
    cases ex with
    | normal =>
     cases e
     exact Fa (fr':={Fr ⟨g,.deferred,none⟩ tm' [Lj b2 tys ty #[false]] [] with mode:=.returning}) (fun W=>by simp[Conc.G,stepG,stepG.exec,Fr]) (fin _)
    | exit id=>exact absurd rfl (hex id)
    | ret =>
     obtain⟨pre,rfl⟩:=e
     exact Fa (fr':={Fr ⟨g,.deferred,none⟩ tm' [Lj b2 tys ty #[false]] (.code .ret::(pre++[])) with mode:=.returning}) (fun W=>by simp[Conc.G,stepG,stepG.exec,Fr]) (fin _)
/-- A worker's functions. -/
theorem Blv(P:Program):∀n,FnsOk (Wn P) (xWF P n)∧(xWF P n).mn=false
 | 0=>⟨⟨fun _ _ _ _ _ h=>(by cases h),fun _ _ _ _ _ _ h=>(Ic h).elim⟩,rfl⟩
 | n+1=>by
  obtain⟨ih,im⟩:=Blv P n
  refine⟨⟨fun g a m x m' h=>?_,fun k rd c st ex st' h b S hb=>?_⟩,rfl⟩
  ·have h':(funK P g).run (xWF P n) a m = .v x m':=h
   exact Bij (C:=Wn P) ih (fun S=>Acx ih im) h'
  ·have h':(codeK P doX k c).run (xWF P n) rd st=Ng ex st':=h
   exact Ait (C:=Wn P) (G:=goT (Wn P) S) ih (Acx ih im) (fun _=>⟨⟨S,rfl⟩,fun S=>Acx ih im⟩) c h' b hb
/-- The first goroutine's functions. -/
theorem Bdl(P:Program):∀n,FnsOk (Iw P) (xFns P n)∧Bqc P (xFns P n)
 | 0=>⟨⟨fun _ _ _ _ _ h=>(by cases h),fun _ _ _ _ _ _ h=>(Ic h).elim⟩,fun _ _ _ _ _ _ h=>(by cases h)⟩
 | n+1=>by
  obtain⟨ih,is⟩:=Bdl P n
  refine⟨⟨fun g a m x m' h=>?_,fun k rd c st ex st' h b S hb=>?_⟩,fun g a m k d ho h=>?_⟩
  ·have h':(funK P g).run (xFns P n) a m = .v x m':=h
   exact Bij (C:=Iw P) ih (fun S=>Azc ih is S) h'
  ·have h':(codeK P doX k c).run (xFns P n) rd st=Ng ex st':=h
   exact Ait (C:=Iw P) (G:=goT (Iw P) S) ih (Azc ih is S) (fun _=>⟨⟨S,rfl⟩,fun S=>Azc ih is S⟩) c h' b hb
  ·have h':(sendK P g).run (xWF P n) a m k=some d:=h
   exact Bow (Blv P n).1 ho h'
noncomputable def xIsRes:Option Cell→Bool
 | some (.own (.rcv _))=>true
 | some (.own .chan)=>true
 | _=>false
/-- No channel is held. -/
noncomputable def xNoRes(t:Tr Cell):Bool:=Tr.rec (motive:=fun _=>Bool) true (fun v _ _ a b=>match xIsRes v with|true=>false|false=>match a with|true=>b|false=>false) t
theorem Ags:∀(t:Tr Cell) (k:Nat),xNoRes t=true→xIsRes (t.get k)=false
 | .leaf,k,_=>rfl
 | .node v l r,k,h=>by
  have h':(match xIsRes v with|true=>false|false=>match xNoRes l with|true=>xNoRes r|false=>false)=true:=h
  rw[Tr.get_node]
  split at h'
  ·cases h'
  ·rename_i hv
   split at h'
   ·rename_i hl
    split
    ·exact hv
    ·split
     ·exact Ags r _ h'
     ·exact Ags l _ hl
   ·cases h'
theorem Ghost.drops{ρ:Ro}{σ:Own}:∀{X:Own},(∀p∈X,∃o,p.2=Res.obj o)→Ghost ρ (X++σ) ρ σ
 | [],_=>.refl
 | (b,r)::X,h=>by
  obtain⟨o,ho⟩:=h (b,r) mC
  simp only at ho
  subst ho
  exact Ghost.trans .drop (Ghost.drops fun p hp=>h p (lZ7 _ hp))
theorem MemX.drop{R m ρ σ σ₀}(h:MemX R m ρ σ σ₀)(hr:xNoRes m.M=true):Ghost ρ σ ρ σ₀:=by
 obtain⟨L,G,h⟩:=h
 refine(Cai h.perm).trans ?_
 rw[←lZ9]
 refine Ghost.drops fun p hp=>?_
 rcases Of.1 hp with hp|hp
 ·obtain⟨q,hq,rfl⟩:=Sz.1 hp
  obtain⟨k,b,r⟩:=q
  obtain⟨c,o,f,d,e⟩:=h.own (k,b,r) hq
  have hn:=Ags m.M k hr
  simp only at d e
  rw[d]at hn
  cases e with
  | cells=>exact⟨_,rfl⟩
  | grow=>exact⟨_,rfl⟩
  | map=>exact⟨_,rfl⟩
  | loop=>exact⟨_,rfl⟩
  | defd=>exact⟨_,rfl⟩
  | chan=>cases hn
  | rcv=>cases hn
 ·exact h.gar p hp
/-- What the run of a call says. -/
noncomputable def xCalls(P:Program)(n f:Nat)(m0:Mem)(x:CV):Bool:=match (xFns P n).call f [] m0 with
 | .v y m=>match xEqP x y,xPlainV x,xNoRes m.M with|some true,true,true=>true|_,_,_=>false
 | .bad=>false
theorem Bpu{x y}(hx:xPlainV x=true)(h:xEqP x y=some true):xPlainV y=true∧(∀R v,V1 R y v→(∃b,x = .b b∧v = .bool b)∨(∀b,x ≠ .b b)):=by
 cases x with
 | b p =>
  cases y with
  | b q =>
   have h':some (p==q)=some true:=h
   have:p=q:=by simpa using h'
   subst this
   exact⟨rfl,fun R v hv=>.inl ⟨p,rfl,Bau hv⟩⟩
  | _=>cases h
 | i k n =>
  cases y with
  | i _ _=>exact⟨rfl,fun R v hv=>.inr (by simp)⟩
  | _=>cases h
 | s l =>
  cases y with
  | s _=>exact⟨rfl,fun R v hv=>.inr (by simp)⟩
  | _=>cases h
 | _=>cases hx
/-- A CLOSED CALL that yields a truth value. -/
theorem Bek{P n f m0 p}(h:xCalls P n f m0 (.b p)=true){R0 ρ σ}(hm:MemX R0 m0 ρ σ σ)(hn:Jp σ):CallsH (Iw P) f #[] ρ σ (fun w ρ' σ'=>ρ'=ρ∧σ'=σ∧w = .bool p):=by
 unfold xCalls at h
 split at h
 ·rename_i y m1 hc
  split at h
  ·rename_i he hp hr
   obtain⟨_,hcl⟩:=(Bdl P n).1.call f [] m0 y m1 hc
   have e:=hcl R0 [] ρ σ σ hn .nil hm
   intro c cs
   refine(e c cs).bind ?_
   rintro _ _ ρ' σ' ⟨v,rfl,rfl,R',k,g,i,j⟩
   refine .ghost ((j.drop hr).trans (Cah g)) (.stop ⟨v,rfl,rfl,rfl,rfl,?_⟩)
   rcases (Bpu hp he).2 R' v i with⟨b,a,d⟩|a
   ·cases a;exact d
   ·exact absurd rfl (a p)
  ·cases h
 ·cases h
/-- Memory of which some first blocks are read. -/
theorem Bss{ρ σ t}(hro:∀k o,t.get k=some (.ro o)→k<16∧∃x,ρ k=some x∧∀R:XR,(∀k,k<16→R k=some (k,0))→ObjO R 0 o x)(hown:∀k o,t.get k≠some (.own o)):MemX (fun k=>if k<16 then some (k,0) else none) ⟨t,16,[],0,[]⟩ ρ σ σ:=by
 have hR:∀k,k<16→(fun k=>if k<16 then some (k,0) else none:XR) k=some (k,0):=fun k hk=>if_pos hk
 refine⟨[],[],.refl _,by simp,fun p hp=>(by cases hp),fun k o hk _=>absurd hk (hown k o),fun k o hk=>?_,fun p hp=>(by cases hp),fun k q hk=>?_,hR⟩
 ·obtain⟨hlt,x,a,b⟩:=hro k o hk
  exact⟨k,0,x,hR k hlt,a,b _ hR⟩
 ·have hk':(if k<16 then some (k,0) else none)=some q:=hk
  split at hk'
  ·assumption
  ·cases hk'
end
section
open Go Go.Conc
def idF:Fn→Nat
 | .func f=>f
 | _=>0
/-- The number of a variable. -/
def Bbs(n:Nat):Nat:=n
noncomputable def globM:Tr Cell:=(Tr.leaf.set (Bbs 2) (.ro (.cells [.i .i64 0,.i .i64 0]))).set (Bbs 3) (.ro (.cells [xOf0 (.func (.func 250) #[] #[]),xOf0 (.func (.func 227) #[] #[])]))
noncomputable def globMem:Mem:=⟨globM,16,[],0,[]⟩
theorem Aqm(k:Nat):globM.get k=if k=Bbs 3 then some (.ro (.cells [xOf0 (.func (.func 250) #[] #[]),xOf0 (.func (.func 227) #[] #[])])) else if k=Bbs 2 then some (.ro (.cells [.i .i64 0,.i .i64 0])) else none:=by
 unfold globM
 rw[Tr.get_set,Tr.get_set]
 rfl
theorem Azh{ρ σ}(hg:Glob ρ):MemX (fun k=>if k<16 then some (k,0) else none) globMem ρ σ σ:=by
 refine Bss (fun k o hk=>?_) (fun k o hk=>?_)
 ·rw[Aqm]at hk
  split at hk
  ·rename_i h1
   subst h1
   cases hk
   obtain⟨t,fz,h⟩:=hg.can
   exact⟨by decide,_,h,fun R _=>⟨(0,0),.cells (l':=[.func (.func 250) #[] #[],.func (.func 227) #[] #[]]) (VR.cons_iff.2 ⟨Bdf R _,VR.cons_iff.2 ⟨Bdf R _,.nil⟩⟩) (Beo _)⟩⟩
  ·split at hk
   ·rename_i h0
    subst h0
    cases hk
    obtain⟨t,fz,h⟩:=hg.over
    exact⟨by decide,_,h,fun R _=>⟨(0,0),.cells (l':=[.int .i64 0,.int .i64 0]) (.i _ _ (.i _ _ .nil)) (Beo _)⟩⟩
   ·cases hk
 ·rw[Aqm]at hk
  split at hk
  ·cases hk
  ·split at hk<;>cases hk
theorem Baq:xCalls Tryz.prog 100000 (idF (.func 7)) globMem (.b true)=true:=by kernel_rfl
/-- tells() yields true. -/
theorem Adz{ρ σ}(hg:Glob ρ)(hnr:Jp σ):CallsH (CX true (Ade Tryz.prog)) 7 #[] ρ σ (fun w ρ' σ'=>ρ'=ρ∧σ'=σ∧w = .bool true) :=
 Bek Baq (Azh hg) hnr
end
section
open Go
/-- A string of bytes. -/
def bs(l:List UInt8):ByteArray:=⟨l.toArray⟩
theorem Bmj(l:List UInt8):(bs l).data.toList=l:=rfl
theorem Oz(l:List UInt8):(bs l).size=l.length:=by simp[bs,ByteArray.size]
theorem Aho(s:ByteArray):bs s.data.toList=s:=rfl
theorem Brf{l m}(h:bs l=bs m):l=m:=by have:=congrArg (fun s:ByteArray=>s.data.toList) h;exact this
theorem Vw(l:List UInt8):(bs l).toList=l:=by rw[ByteArray.toList_eq];rfl
theorem Aic(s:ByteArray):s.toList=s.data.toList:=ByteArray.toList_eq s
theorem Brc(l m:List UInt8):bs l++bs m=bs (l++m):=by
 apply ByteArray.ext
 show (bs l++bs m).data=_
 rw[ByteArray.data_append]
 simp[bs]
theorem Bre(l:List UInt8)(i:Nat):(bs l)[i]?=l[i]?:=by
 by_cases h:i<l.length
 ·rw[Sr h,getElem?_pos (bs l) i (by rw[Oz];exact h)]
  rfl
 ·rw[Yd (by omega),getElem?_neg (bs l) i (by rw[Oz];exact h)]
theorem Acs(l:List UInt8)(i j:Nat):(bs l).extract i j=bs ((l.take j).drop i):=by
 apply ByteArray.ext
 rw[ByteArray.data_extract]
 simp[bs,List.extract_toArray,List.drop_take]
def Bnn:Nat→Nat→List UInt8
 | 0,n=>[UInt8.ofNat (48+n%10)]
 | k+1,n=>if n<10 then [UInt8.ofNat (48+n)] else Bnn k (n/10)++[UInt8.ofNat (48+n%10)]
def Pa(n:Nat):List UInt8:=Bnn 20 n
def Nl(n:Int):List UInt8:=if n<0 then 45::Pa n.natAbs else Pa n.natAbs
theorem Aqc:∀{k n:Nat},n<10^(k+1)→∀j,Bnn (k+j) n=Bnn k n
 | 0,n,h,j=>by
  cases j with
  | zero=>rfl
  | succ j=>show (if n<10 then _ else _)=_;rw[if_pos (by simpa using h)];show [UInt8.ofNat (48+n)]=[UInt8.ofNat (48+n%10)];rw[Bjg (by simpa using h)]
 | k+1,n,h,j=>by
  rw[show k+1+j=(k+j)+1 by omega]
  show (if n<10 then _ else _)=(if n<10 then _ else _)
  by_cases h1:n<10
  ·rw[if_pos h1,if_pos h1]
  ·rw[if_neg h1,if_neg h1,Aqc (by rw[Nat.pow_succ]at h;omega) j]
theorem Ayw{n}(h:n<10):Pa n=[UInt8.ofNat (48+n)]:=by
 show (if n<10 then _ else _)=_;rw[if_pos h]
theorem Yv{n}(h:10≤n)(hb:n<10^20):Pa n=Pa (n/10)++[UInt8.ofNat (48+n%10)]:=by
 show (if n<10 then _ else _)=_
 rw[if_neg (by omega)]
 unfold Pa
 rw[Aqc (k:=19) (n:=n/10) (by omega) 1]
def Ia(x:Span):List UInt8:=if x.low=x.high then Nl x.low else Nl x.low++([46,46]++Nl x.high)
def Ho:List (List UInt8)→List UInt8
 | []=>[]
 | [w]=>w
 | w::v::ws=>w++32::Ho (v::ws)
theorem Beu{ws w}(h:ws≠[]):Ho (ws++[w])=Ho ws++32::w:=by
 induction ws with
 | nil=>exact absurd rfl h
 | cons a r ih =>
  cases r with
  | nil=>rfl
  | cons b bs =>
   show a++32::Ho ((b::bs)++[w])=(a++32::Ho (b::bs))++32::w
   rw[ih (by simp)];simp
def Gm(ws:List (List UInt8)):List UInt8:=Ho ws++[10]
def wLab:List UInt8:=[108,97,98]
def Pj:List UInt8:=[107,105,110,100]
def Pt:List UInt8:=[116,101,115,116]
def Ot:List UInt8:=[101,114,114,115]
def Fv:List UInt8:=[109,97,114,107,101,116]
def Md:List UInt8:=[104,111,117,115,101]
def Ob:List UInt8:=[109,97,114,107]
def Im:List UInt8:=[102,105,101,108,100]
def Od:List UInt8:=[115,97,108,101]
def Rb:List UInt8:=[109,97,121]
def Nj:List UInt8:=[115,117,114,101]
def wNo:List UInt8:=[110,111]
def Sa(b:Int):List UInt8:=if b=0 then Rb else if b=1 then Nj else wNo
def Avy(s:ByteArray):List (List UInt8):=[Pj,s.data.toList]
def Aqo(s:ByteArray):List (List UInt8):=[Md,s.data.toList]
def Awr(s:ByteArray):List (List UInt8):=[Ob,s.data.toList]
def Oa(t:FTest):List (List UInt8):=(if t.errs then Ot else Pt)::t.name.data.toList::t.sees.map Sa
def Tg(m:Market)(h:Int):List UInt8:=match m.houses[h.toNat]? with|some s=>s.data.toList|none=>[]
def Jt(m:Market)(x:FField):List (List UInt8):=Im::x.name.data.toList::Tg m x.house::Ia x.grows::x.marks.map Ia
def Ny(m:Market)(s:Sale):List (List UInt8):=Od::Nl s.grams::s.sellers.map (Tg m)
def Ty(l:Lab)(m:Market):List (List (List UInt8)):=[wLab,Nl l.most]::(l.kinds.map Avy++(l.tests.map Oa++([Fv]::(m.houses.map Aqo++(m.marks.map Awr++(m.fields.map (Jt m)++m.sales.map (Ny m)))))))
def Er(ls:List (List (List UInt8))):List UInt8:=(ls.map Gm).flatten
theorem Tp(a b:List (List (List UInt8))):Er (a++b)=Er a++Er b:=by unfold Er;simp
theorem Xm(a:List (List UInt8))(b:List (List (List UInt8))):Er (a::b)=Gm a++Er b:=by unfold Er;simp
theorem Bat(a:List (List (List UInt8)))(x:List (List UInt8)):Er (a++[x])=Er a++Gm x:=by unfold Er;simp
def Adl(l:Lab)(m:Market):List UInt8:=Er (Ty l m)
def Ow(l:Lab)(m:Market):Int:=orF (Gh l) (orF (Cf m) (if ((Adl l m).length:Int)>60000 then 2 else 0))
def Pb(l:Lab)(m:Market):ByteArray:=if Ow l m=0 then bs (Adl l m) else bs []
/-- What stands between separators. -/
def Nz(c:UInt8)(acc:List UInt8):List UInt8→List (List UInt8)
 | []=>[acc]
 | x::r=>if x=c then acc::Nz c [] r else Nz c (acc++[x]) r
def Hn(s:List UInt8):List (List UInt8):=Nz 32 [] s
def Sm(acc:List UInt8):List UInt8→List (List UInt8)
 | []=>if acc=[] then [] else [acc]
 | x::r=>if x=10 then acc::Sm [] r else Sm (acc++[x]) r
def Ix(s:List UInt8):List (List UInt8):=Sm [] s
def Mg(c:UInt8):Bool:=decide (48≤c.toNat)&&decide (c.toNat≤57)
def Aii(l:List UInt8):Nat:=l.foldl (fun n c=>10*n+(c.toNat-48)) 0
def Nd(s:List UInt8):Bool:=decide (s.length>1)&&s.head?==some 45
def Ha(s:List UInt8):List UInt8:=if Nd s then s.drop 1 else s
def Gn(s:List UInt8):Bool:=decide (1≤(Ha s).length)&&decide ((Ha s).length≤9)&&(Ha s).all Mg && !((Ha s).head?==some 48 && !(s==[48]))
def Zq(s:List UInt8):Int:=if Nd s then -(Aii (Ha s):Int) else (Aii (Ha s):Int)
def Vn(s:List UInt8):Option Int:=if Gn s then some (Zq s) else none
def Ue(acc:List UInt8):List UInt8→Option (List UInt8×List UInt8)
 | []=>none
 | x::r=>if x=46∧r.head?=some 46 then some (acc,r.drop 1) else Ue (acc++[x]) r
def Ii(s:List UInt8):Option Span:=match Ue [] s with
 | some (a,b)=>match Vn a,Vn b with
  | some n,some m=>if n=m then none else some ⟨n,m⟩
  | _,_=>none
 | none=>match Vn s with
  | some n=>some ⟨n,n⟩
  | none=>none
/-- All of them,or nothing. -/
def Hy{α β:Type}(f:α→Option β):List α→Option (List β)
 | []=>some []
 | x::l=>match f x,Hy f l with
  | some a,some r=>some (a::r)
  | _,_=>none
def Qi(w:List UInt8):Option Int:=if w=Rb then some 0 else if w=Nj then some 1 else if w=wNo then some 2 else none
def Nq(m:Market)(w:List UInt8):Option Int:=if findI m.houses (bs w)≥0 then some (findI m.houses (bs w)) else none
def Ji(w:List UInt8):Int:=if w=Ot then 2 else if w=wLab then 0 else if w=Pj then 1 else if w=Pt then 2 else if w=Fv then 3 else if w=Md then 4 else if w=Ob then 5 else if w=Im then 6 else if w=Od then 7 else -1
structure PSt where
 l:Lab
 m:Market
 last:Int
deriving DecidableEq
/-- A line,by its word: its fault,or what is read with it. -/
def Afe(p:PSt)(w:List UInt8)(f:List (List UInt8)):Sum Int PSt:=match f with
 | []=>.inl 3
 | s::v=>match Hy Qi v with
  | some x=>.inr {p with l:={p.l with tests:=p.l.tests++[⟨bs s,x,w==Ot⟩]}}
  | none=>.inl 3
def Aaw(p:PSt)(f:List (List UInt8)):Sum Int PSt:=match f with
 | s::h::g::v=>match Ii g,Hy Ii v with
  | some x,some y=>match Nq p.m h with
   | some k=>.inr {p with m:={p.m with fields:=p.m.fields++[⟨bs s,k,x,y⟩]}}
   | none=>.inl 6
  | _,_=>.inl 3
 | _=>.inl 3
def Aax(p:PSt)(f:List (List UInt8)):Sum Int PSt:=match f with
 | []=>.inl 3
 | s::v=>match Vn s with
  | some n=>match Hy (Nq p.m) v with
   | some x=>.inr {p with m:={p.m with sales:=p.m.sales++[⟨n,x⟩]}}
   | none=>.inl 6
  | none=>.inl 3
def Arp(p:PSt)(f:List (List UInt8)):Sum Int PSt:=match f with
 | [s]=>match Vn s with
  | some n=>.inr {p with l:={p.l with most:=n}}
  | none=>.inl 3
 | _=>.inl 3
def Aib(f:List (List UInt8))(g:List UInt8→PSt):Sum Int PSt:=match f with
 | [s]=>.inr (g s)
 | _=>.inl 3
def Ox(p:PSt)(w:List UInt8)(f:List (List UInt8)):Sum Int PSt :=
 if w=wLab then Arp p f
 else if w=Pt∨w=Ot then Afe p w f
 else if w=Fv then (if f=[] then .inr p else .inl 3)
 else if w=Im then Aaw p f
 else if w=Od then Aax p f
 else if w=Pj then Aib f fun s=>{p with l:={p.l with kinds:=p.l.kinds++[bs s]}}
 else if w=Md then Aib f fun s=>{p with m:={p.m with houses:=p.m.houses++[bs s]}}
 else Aib f fun s=>{p with m:={p.m with marks:=p.m.marks++[bs s]}}
def Nv(n:Nat)(last p:Int):Bool:=decide (last≤p)&&(decide (n=0)==decide (p=0))&&(decide (p≠3)||decide (last<3))&&(decide (p≤3)||decide (3≤last))
def Qw(n:Nat)(p:PSt)(s:List UInt8):Sum Int PSt:=match Hn s with
 | []=>.inl 3
 | w::f=>if (w::f).any List.isEmpty then .inl 3
  else if Nv n p.last (Ji w) then (match Ox p w f with | .inl e=>.inl e | .inr q=>.inr {q with last:=Ji w})
  else .inl 3
def Wl:Nat→PSt→List (List UInt8)→Sum (Int×Int) PSt
 | _,p,[]=>.inr p
 | n,p,s::r=>match Qw n p s with
  | .inl f=>.inl ((n:Int)+1,f)
  | .inr q=>Wl (n+1) q r
def emL:Lab:=⟨[],0,[]⟩
def emM:Market:=⟨[],[],[],[]⟩
def p0:PSt:=⟨emL,emM,0⟩
def Gb(s:List UInt8):Lab×Market×Int×Int :=
 if (s.length:Int)>60000 then (emL,emM,0,2)
 else match Wl 0 p0 (Ix s) with
  | .inl (n,f)=>(emL,emM,n,f)
  | .inr p=>if p.last<3 then (emL,emM,0,3) else if orF (Gh p.l) (Cf p.m)=0 then (p.l,p.m,0,0) else (emL,emM,0,orF (Gh p.l) (Cf p.m))
theorem Amr:∀{a b:List (List UInt8)} {n:Nat} {p:PSt},Wl n p (a++b)=match Wl n p a with | .inl e=>.inl e | .inr q=>Wl (n+a.length) q b
 | [],b,n,p=>rfl
 | s::a,b,n,p=>by
  show (match Qw n p s with | .inl f=>_ | .inr q=>Wl (n+1) q (a++b))=match (match Qw n p s with | .inl f=>_ | .inr q=>Wl (n+1) q a) with | .inl e=>_ | .inr q=>_
  cases hs:Qw n p s with
  | inl f=>rfl
  | inr q =>
   simp only
   rw[Amr (a:=a)]
   rw[show n+1+a.length=n+(s::a).length by simp only[lZ3];omega]
theorem Axf{ls:List (List UInt8)}{i p q s}(h:Wl 0 p0 (ls.take i) = .inr p)(hs:ls[i]?=some s)(hq:Qw i p s = .inr q):Wl 0 p0 (ls.take (i+1)) = .inr q:=by
 have hi:i<ls.length:=(Mq.1 hs).1
 rw[Awa,hs,Amr,h]
 simp only[lZ6,Zp,Aqr (Nat.le_of_lt hi)]
 show Wl i p [s]=_
 unfold Wl
 rw[hq];rfl
theorem Bks{ls i p s f}(h:Wl 0 p0 (ls.take i) = .inr p)(hs:ls[i]?=some s)(hq:Qw i p s = .inl f):Wl 0 p0 ls = .inl ((i:Int)+1,f):=by
 have hi:i<ls.length:=(Mq.1 hs).1
 have e:ls=ls.take i++s::ls.drop (i+1):=by
  conv=>lhs;rw[←Aip i ls]
  congr 1
  rw[Bof hi]
  rw[Sr hi]at hs
  rw[Option.some.inj hs]
 rw[e,Amr,h]
 simp only[lZ6,Zp,Aqr (Nat.le_of_lt hi)]
 unfold Wl
 rw[hq]
theorem Bab{l m}(h:Dd l m=0):(∀(i:Nat) (x:ByteArray),l[i]?=some x→Hg x=true)∧∀(i k:Nat) (x y:ByteArray),l[i]?=some x→k<i→l[k]?=some y→y.toList≠x.toList:=by
 unfold Dd at h
 split at h
 ·cases h
 ·rw[Fx]at h
  refine⟨fun i x hx=>?_,fun i k x y hx hk hy e=>?_⟩
  ·have a:=h i (Mq.1 hx).1
   simp only[Nh,hx]at a
   split at a
   ·assumption
   ·cases a
  ·have hi:=(Mq.1 hx).1
   have a:=h i hi
   simp only[Nh,hx]at a
   split at a
   ·split at a
    ·cases a
    ·rename_i h2
     unfold findI at h2
     rcases Ft (n:=(l.take i).length) (p:=Xi (l.take i) x) with⟨j,hj,_,_,he⟩|⟨c,he⟩
     ·rw[he]at h2;simp only at h2;omega
     ·have b:=c k (by rw[lZ6];omega)
      have d:(l.take i)[k]?=some y:=by rw[Agn,if_pos hk];exact hy
      simp only[Xi,d]at b
      rw[e]at b
      simp at b
   ·cases a
theorem Amu:∀{w acc r:List UInt8},(∀c∈w,c≠32)→Nz 32 acc (w++32::r)=(acc++w)::Nz 32 [] r
 | [],acc,r,_=>by show (if (32:UInt8)=32 then _ else _)=_;rw[if_pos rfl,Za]
 | x::w,acc,r,h=>by
  show (if x=32 then _ else Nz 32 (acc++[x]) (w++32::r))=_
  rw[if_neg (h x mC),Amu (fun c hc=>h c (lZ7 _ hc))]
  simp
theorem Amw:∀{w acc:List UInt8},(∀c∈w,c≠32)→Nz 32 acc w=[acc++w]
 | [],acc,_=>by show [acc]=_;rw[Za]
 | x::w,acc,h=>by
  show (if x=32 then _ else _)=_
  rw[if_neg (h x mC),Amw (fun c hc=>h c (lZ7 _ hc))]
  simp
theorem Agw{d}(h:d<10):(UInt8.ofNat (48+d)).toNat=48+d:=by
 rw[UInt8.toNat_ofNat'];omega
theorem Avf{l c}:Aii (l++[c])=10*Aii l+(c.toNat-48):=by
 unfold Aii;rw[List.foldl_append];rfl
structure DigOk(n:Nat)(l:List UInt8):Prop where
 ne:l≠[]
 dig:∀c∈l,Mg c=true
 dec:Aii l=n
 len:∀k,n<10^(k+1)→l.length≤k+1
 head:l.head?=some 48→l=[48]
theorem Bbq{d}(h:d<10):Mg (UInt8.ofNat (48+d))=true:=by
 unfold Mg
 rw[Agw h]
 simp;omega
theorem Bhn:∀(n:Nat),n<10^20→DigOk n (Pa n):=by
 intro n
 induction n using Nat.strongRecOn with
 | _ n ih =>
  intro hn
  by_cases h:n<10
  ·rw[Ayw h]
   refine⟨by simp,fun c hc=>by rw[Sl.1 hc];exact Bbq h,?_,fun k _=>by simp,fun hh=>?_⟩
   ·show 10*0+((UInt8.ofNat (48+n)).toNat-48)=n
    rw[Agw h];omega
   ·simpa using hh
  ·have i:=ih (n/10) (by omega) (by omega)
   rw[Yv (by omega) hn]
   have hm:n%10<10:=by omega
   refine⟨by simp,fun c hc=>?_,?_,fun k hk=>?_,fun hh=>?_⟩
   ·rcases Of.1 hc with hc|hc
    ·exact i.dig c hc
    ·rw[Sl.1 hc];exact Bbq hm
   ·rw[Avf,i.dec,Agw hm];omega
   ·cases k with
    | zero=>exact absurd hk (by simpa using h)
    | succ k=>have:=i.len k (by rw[Nat.pow_succ]at hk;omega);rw[lZ0];simp only[lZ3,lZ4];omega
   ·have d:(Pa (n/10)).head?=some 48:=by
     cases hd:Pa (n/10) with
     | nil=>exact absurd hd i.ne
     | cons a l=>rw[hd]at hh;simpa using hh
    have e:=i.head d
    have b:=i.dec
    rw[e]at b
    exact absurd (show (0:Nat)=n/10 from b) (by omega)
theorem Aku{n}(h:0≤n):Nl n=Pa n.toNat:=by
 unfold Nl
 rw[if_neg (by omega),show n.natAbs=n.toNat by omega]
end
section
open Go
section
variable{l:Lab}{m:Market}
theorem Awj(h:Gh l=0){i:Nat}{t}(ht:l.tests[i]?=some t){j:Nat}{b}(hb:t.sees[j]?=some b):0≤b∧b≤2:=by
 unfold Gh at h
 rw[Jx]at h
 obtain⟨_,c⟩:=h
 unfold Jy at c
 split at c
 ·split at c
  ·cases c
  ·rw[Fx]at c
   have a:=c i (Mq.1 ht).1
   simp only[Hb,ht]at a
   split at a
   ·split at a
    ·cases a
    ·split at a
     ·rw[Fx]at a
      have d:=a j (Mq.1 hb).1
      simp only[Nk,hb]at d
      split at d
      ·cases d
      ·rename_i h5
       simp at h5
       omega
     ·cases a
   ·cases a
 ·cases c
theorem Ama(mok:MarketOk m){x}(hx:x∈m.fields):∀y∈x.marks,0≤y.low∧y.low≤y.high∧y.high≤1000000:=fun y hy=>by
 obtain⟨i,hi⟩:=Apf.1 hx
 obtain⟨j,hj⟩:=Apf.1 hy
 have:=(mok.field i x hi).2.2.2.2.2 j y hj
 exact⟨this.1,this.2.1,by have:=this.2.2;omega⟩
theorem Age{k:Nat}:∀{ws:List (List UInt8)},(∀w∈ws,w.length≤k)→(Ho ws).length≤(k+1)*ws.length
 | [],_=>by simp[Ho]
 | [w],h=>by
  have:=h w mC
  show w.length≤(k+1)*1
  omega
 | w::v::ws,h=>by
  have a:=h w mC
  have ih:=Age (k:=k) (ws:=v::ws) fun x hx=>h x (lZ7 _ hx)
  show (w++32::Ho (v::ws)).length≤_
  have e:(k+1)*(w::v::ws).length=(k+1)*(v::ws).length+(k+1):=by rw[lZ3,Nat.mul_succ]
  rw[e,lZ0,lZ3]
  omega
theorem Anb{k:Nat}:∀{ls:List (List (List UInt8))},(∀ws∈ls,(Ho ws).length≤k)→(Er ls).length≤(k+1)*ls.length
 | [],_=>by simp[Er]
 | ws::ls,h=>by
  have h1:=h ws mC
  have ih:=Anb (k:=k) (ls:=ls) fun x hx=>h x (lZ7 _ hx)
  rw[Xm,lZ0,lZ3,Nat.mul_succ]
  unfold Gm
  rw[lZ0]
  simp only[lZ3,lZ4]
  omega
theorem Ajs{s:List Int}{n:Nat}(hin:∀(k:Nat) (h:Int),s[k]?=some h→0≤h∧h≤(n:Int)-1)(hasc:∀(k:Nat) (h h':Int),s[k]?=some h→s[k+1]?=some h'→h<h'):s.length≤n:=by
 have key:∀(k:Nat) (h:Int),s[k]?=some h→(k:Int)≤h:=fun k=>by
  induction k with
  | zero=>exact fun h hk=>(hin 0 h hk).1
  | succ k ih =>
   intro h hk
   have hl:k+1<s.length:=(Mq.1 hk).1
   have a:=Sr (l:=s) (i:=k) (by omega)
   have b:=ih _ a
   have c:=hasc k _ h a hk
   omega
 rcases Tc n s.length with h|h
 ·have a:=Sr (l:=s) (i:=n) h
  have b:=key n _ a
  have c:=hin n _ a
  omega
 ·exact h
theorem Wk{s}(h:Hg s=true):s.data.toList.length≤14:=by
 unfold Hg at h
 simp only[Tj]at h
 have:=Bsl h.1.1
 have hl:s.data.toList.length=s.size:=Array.length_toList
 omega
theorem Rn{n}(h:0≤n∧n≤999999999):(Nl n).length≤9:=by
 rw[Aku h.1];exact(Bhn n.toNat (by omega)).len 8 (by omega)
theorem Yi{x}(h:0≤x.low∧x.low≤x.high∧x.high≤1000000):(Ia x).length≤20:=by
 have a:=Rn (n:=x.low) (by omega)
 have b:=Rn (n:=x.high) (by omega)
 unfold Ia
 split
 ·omega
 ·simp only[lZ0,lZ3,lZ4];omega
theorem Qp{ls n}(hf:Dd ls n=0){s}(hs:s∈ls):s.data.toList.length≤14:=by
 obtain⟨i,hi⟩:=Apf.1 hs
 exact Wk ((Bab hf).1 i s hi)
def shL(ws:List (List UInt8)):Prop:=ws.length≤12∧∀w∈ws,w.length≤30
theorem Om{w:List UInt8}{ws:List (List UInt8)}(h:w.length≤30)(hs:∀v∈ws,v.length≤30):∀v∈w::ws,v.length≤30:=fun v hv=>by
 rcases Nc.1 hv with rfl|hv
 ·exact h
 ·exact hs v hv
theorem Bak{α:Type}{f:α→List UInt8}{xs:List α}(h:∀x∈xs,(f x).length≤30):∀v∈xs.map f,v.length≤30:=fun v hv=>by
 obtain⟨x,hx,rfl⟩:=Sz.1 hv;exact h x hx
theorem Ams:∀v∈([]:List (List UInt8)),v.length≤30:=fun _ h=>by cases h
theorem Aqp(mok:MarketOk m){h}:(Tg m h).length≤30:=by
 unfold Tg
 cases hs:m.houses[h.toNat]? with
 | none=>simp
 | some s=>have:=Qp mok.houses (lZ8 hs);simp only;omega
theorem Bll{b}:(Sa b).length≤30:=by
 unfold Sa
 split
 ·decide
 ·split<;>decide
theorem Aep(lok:LabOk l)(mok:MarketOk m):∀ws∈Ty l m,shL ws:=fun ws h=>by
 have hmo:=lok.most
 have hkl:=Ua lok.kinds
 have hhl:=Ua mok.houses
 have hml:=Ua mok.marks
 unfold Ty at h
 rcases Nc.1 h with rfl|h
 ·exact⟨by simp,Om (by decide) (Om (by have:=Rn (n:=l.most) (by omega);omega) Ams)⟩
 rcases Of.1 h with h|h
 ·obtain⟨x,hx,rfl⟩:=Sz.1 h;exact⟨by simp[Avy],Om (by decide) (Om (by have:=Qp lok.kinds hx;omega) Ams)⟩
 rcases Of.1 h with h|h
 ·obtain⟨x,hx,rfl⟩:=Sz.1 h
  obtain⟨i,hi⟩:=Apf.1 hx
  have ht:=lok.test i x hi
  refine⟨?_,Om (by cases x.errs<;>decide) (Om (by have:=Wk ht.1;omega) (Bak fun _ _=>Bll))⟩
  simp only[Oa,lZ3,Xp];omega
 rcases Nc.1 h with rfl|h
 ·exact⟨by simp,Om (by decide) Ams⟩
 rcases Of.1 h with h|h
 ·obtain⟨x,hx,rfl⟩:=Sz.1 h;exact⟨by simp[Aqo],Om (by decide) (Om (by have:=Qp mok.houses hx;omega) Ams)⟩
 rcases Of.1 h with h|h
 ·obtain⟨x,hx,rfl⟩:=Sz.1 h;exact⟨by simp[Awr],Om (by decide) (Om (by have:=Qp mok.marks hx;omega) Ams)⟩
 rcases Of.1 h with h|h
 ·obtain⟨x,hx,rfl⟩:=Sz.1 h
  obtain⟨i,hi⟩:=Apf.1 hx
  have hf:=mok.field i x hi
  refine⟨?_,Om (by decide) (Om (by have:=Wk hf.1;omega) (Om (Aqp mok) (Om (by have:=Yi hf.2.2.2.1;omega) (Bak fun y hy=>by have:=Yi (Ama mok hx y hy);omega))))⟩
  simp only[Jt,lZ3,Xp];have:=hf.2.2.2.2.1;omega
 ·obtain⟨x,hx,rfl⟩:=Sz.1 h
  obtain⟨i,hi⟩:=Apf.1 hx
  have hf:=mok.sale i x hi
  refine⟨?_,Om (by decide) (Om (by have:=Rn (n:=x.grams) (by have:=hf.1;omega);omega) (Bak fun y hy=>Aqp mok))⟩
  have:=Ajs (n:=m.houses.length) hf.2.2.1 hf.2.2.2
  simp only[Ny,lZ3,Xp];omega
theorem Anc(lok:LabOk l)(mok:MarketOk m):(Adl l m).length≤60000:=by
 have a:=Anb (k:=372) (ls:=Ty l m) fun ws h=>by
  have:=Aep lok mok ws h
  have b:=Age (k:=30) this.2
  have c:=this.1
  omega
 have hkl:=Ua lok.kinds
 have hhl:=Ua mok.houses
 have hml:=Ua mok.marks
 have d:(Ty l m).length≤34:=by
  have:=lok.ntests;have:=mok.nfields;have:=mok.nsales
  unfold Ty
  simp only[lZ3,lZ0,Xp]
  omega
 unfold Adl
 omega
theorem Amo(hf:Gh l=0)(hg:Cf m=0):Ow l m=0:=by
 have:=Anc (Ll hf) (Rg hg)
 unfold Ow
 rw[hf,hg,if_neg (by omega)];rfl
end
end
section
open Go
section
variable{P:Program}{ρ:Ro}{e:Env}{ty t t':TypeId}{x y:Operand}{v:Value}
theorem Rm{p q}(hx:Af e x = .string (bs p))(hy:Af e y = .string (bs q))(hb:p.length+q.length<4611686018427387904):Yld P ρ e (.binOp .add t x y t') ty (.string (bs (p++q))) :=
 La hx hy rfl (by
  show Op.stringOp .add (bs p) (bs q)=_
  unfold Op.stringOp
  simp only
  rw[if_neg (by rw[Oz,Oz];show ¬_>(9223372036854775807:Int);omega),Brc])
theorem sbH{n h:Nat}{c}(h2:h≤n):Instr.sliceBound (.int .i64 (h:Int)) n c=Sem.pure h:=by
 show (if 0≤(h:Int)∧(h:Int)≤(n:Nat) then pure (h:Int).toNat else _)=_
 rw[if_pos (by omega)];simp;rfl
theorem Bbn{α β s a}{f:α→Sem β}(h:s=Sem.pure a):s.bind f=f a:=by subst h;rfl
theorem sb4{n h l x y}(h1:Instr.sliceBound y h .sliceB=Sem.pure l)(h2:Instr.sliceBound x n .sliceAlen=Sem.pure h):Instr.sliceBounds false n n (some y) (some x) none=pure (l,h,n):=by
 unfold Instr.sliceBounds
 simp only[Option.isSome_none,Agm,if_false]
 show (Instr.sliceBound x n .sliceAlen).bind _=_
 rw[Bbn h2]
 show (Instr.sliceBound y h .sliceB).bind _=_
 rw[Bbn h1]
theorem sliceB{n lo hi l h}(hl:(lo=none∧l=0)∨lo=some (.int .i64 (l:Int)))(hh:(hi=none∧h=n)∨hi=some (.int .i64 (h:Int)))(h1:l≤h)(h2:h≤n):Instr.sliceBounds false n n lo hi none=pure (l,h,n):=by
 rcases hh with⟨rfl,rfl⟩|rfl<;>rcases hl with⟨rfl,rfl⟩|rfl
 ·rfl
 ·have e:Instr.sliceBounds false h h (some (.int .i64 (l:Int))) none none=(Instr.sliceBound (.int .i64 (l:Int)) h .sliceB).bind fun l=>Sem.pure (l,h,h):=rfl
  rw[e,Bbn (sbH h1)];rfl
 ·have e:Instr.sliceBounds false n n none (some (.int .i64 (h:Int))) none=(Instr.sliceBound (.int .i64 (h:Int)) n .sliceAlen).bind fun h=>Sem.pure (0,h,n):=rfl
  rw[e,Bbn (sbH h2)];rfl
 ·exact sb4 (sbH h1) (sbH h2)
theorem Td{p lo hi}{l h:Nat}(hT:P.underlying t=some .string)(hx:Af e x = .string (bs p))(hl:(lo=none∧l=0)∨∃o,lo=some o∧Af e o = .int .i64 (l:Int))(hh:(hi=none∧h=p.length)∨∃o,hi=some o∧Af e o = .int .i64 (h:Int))(h1:l≤h)(h2:h≤p.length):
  Yld P ρ e (.slice t x lo hi none) ty (.string (bs ((p.take h).drop l))) :=
 Mt (s:=Instr.sliceAt t (Af e x) (lo.map (Af e)) (hi.map (Af e)) none) (fun _ _ _ _=>rfl) fun ρ' σ _=>by
  rw[hx]
  show wpS P ρ' ((underlying t).bind _) σ _
  rw[Ad]
  refine Az hT ?_
  show wpS P ρ' ((underlying t).bind _) σ _
  rw[Ad]
  refine Az hT ?_
  simp only[]
  show wpS P ρ' ((Instr.sliceBounds false (bs p).size (bs p).size (lo.map (Af e)) (hi.map (Af e)) none).bind _) σ _
  rw[sliceB (l:=l) (h:=h) (by
   rcases hl with⟨rfl,a⟩|⟨o,rfl,ho⟩
   ·exact .inl ⟨rfl,a⟩
   ·exact .inr (by rw[Awh,ho])) (by
   rcases hh with⟨rfl,a⟩|⟨o,rfl,ho⟩
   ·exact .inl ⟨rfl,a.trans (Oz p).symm⟩
   ·exact .inr (by rw[Awh,ho])) h1 (by rw[Oz];exact h2)]
  exact⟨by show Value.string ((bs p).extract l h)=_;rw[Acs],rfl⟩
theorem Mw{p k q}(i:Nat)(c:UInt8)(hT:P.underlying t=some .string)(hx:Af e x = .string (bs p))(hy:Af e y = .int k q)(hq:q=(i:Int))(hc:p[i]?=some c):Yld P ρ e (.index t x y) ty (.int .u8 (c.toNat:Int)) :=
 Ace i c hT hx hy hq (by rw[Bre];exact hc)
theorem Rk{p k q}(i:Nat)(c:UInt8)(hT:P.underlying t=some .string)(hc:p[i]?=some c)(hx:Af e x = .string (bs p):=by exact rfl)(hy:Af e y = .int k q:=by exact rfl)(hq:q=(i:Int):=by exact rfl):Yld P ρ e (.index t x y) ty (.int .u8 (c.toNat:Int)) :=Mw i c hT hx hy hq hc
theorem Ga{p}(hT:P.underlying t=some .string)(hx:Af e x = .string (bs p)):Yld P ρ e (.call ⟨.builtin .len,#[x],#[t]⟩) ty (.int .i64 (p.length:Int)):=Afz hT hx
theorem Sp{p q}(hx:Af e x = .string (bs p))(hy:Af e y = .string (bs q)):Yld P ρ e (.binOp .eql t x y t') ty (.bool (p==q)):=by
 have:=Aya (P:=P) (ρ:=ρ) (t:=t) (t':=t') (ty:=ty) hx hy
 rw[Vw,Vw]at this;exact this
theorem Tw{p q}(hx:Af e x = .string (bs p):=by exact rfl)(hy:Af e y = .string (bs q):=by exact rfl):Yld P ρ e (.binOp .eql t x y t') ty (.bool (p==q)):=Sp hx hy
theorem Aoq{p q}(hx:Af e x = .string (bs p))(hy:Af e y = .string (bs q)):Yld P ρ e (.binOp .neq t x y t') ty (.bool (p != q)):=by
 have:=Bwe (P:=P) (ρ:=ρ) (t:=t) (t':=t') (ty:=ty) hx hy
 rw[Vw,Vw]at this;exact this
end
theorem bytesTo{P:Program}{ρ:Ro}{σ:Own}{Q:ByteArray→Own→Prop}:∀(l:List UInt8) (s:ByteArray),Q (s++bs l) σ→wpS P ρ (forIn (l.map fun c:UInt8=>Value.int .u8 (c.toNat:Int)) s fun c s=>match c with
  | .int .u8 n=>pure (ForInStep.yield (s.push (UInt8.ofNat n.toNat)))
  | _=>do
   stuck "bytesToString: byte expected"
   pure (ForInStep.yield s)) σ Q
 | [],s,h=>by
  have e:s++bs []=s:=by apply ByteArray.ext;rw[ByteArray.data_append];simp[bs]
  rw[e]at h
  exact h
 | c::l,s,h=>by
  rw[Qc,List.forIn_cons]
  refine bytesTo l (s.push (UInt8.ofNat ((c.toNat:Nat):Int).toNat)) ?_
  have e:s.push (UInt8.ofNat ((c.toNat:Nat):Int).toNat)++bs l=s++bs (c::l):=by
   apply ByteArray.ext
   rw[ByteArray.data_append,ByteArray.data_append]
   show (s.data.push _)++l.toArray=s.data++(c::l).toArray
   rw[show UInt8.ofNat ((c.toNat:Nat):Int).toNat=c by rw[Awf];exact UInt8.ofNat_toNat]
   apply Array.ext'
   simp
  rw[e];exact h
theorem Atv{ρ:Ro}:∀{cs:List Value} {l:List UInt8},Rows ρ cs l→cs=l.map fun c:UInt8=>Value.int .u8 (c.toNat:Int)
 | cs,[],h=>h
 | cs,c::l,⟨c1,c2,h1,h2,h3⟩=>by
  rw[h1,Atv h3]
  rw[show c1=[Value.int .u8 (c.toNat:Int)] from h2];rfl
theorem Bbe{P ρ e ty t t' x v l el}(hT:P.underlying t=some (.slice el))(hT':P.underlying t'=some .string)(hE:P.underlying el=some (.int .u8))(hx:Af e x=v)(hv:Val ρ v l):Yld P ρ e (.convert t t' x) ty (.string (bs l)) :=
 Mt (s:=convert t t' (Af e x)) (fun _ _ _ _=>rfl) fun ρ' σ hle=>by
  rw[hx]
  obtain⟨a,len,cap,f,d,j,m,g⟩:=Cs.1 hv
  subst f
  show wpS P ρ' ((underlying t).bind _) σ _
  rw[Ad]
  refine Az hT ?_
  show wpS P ρ' ((underlying t').bind _) σ _
  rw[Ad]
  refine Az hT' ?_
  show wpS P ρ' ((underlying el).bind _) σ _
  rw[Ad]
  refine Az hE ?_
  show wpS P ρ' (Conv.bytesToString (.slice a len cap)) σ _
  have hf:=Uw (P:=P) (σ:=σ) (ρ:=ρ') (Q:=fun cs σ'=>cs=(l.map fun c:UInt8=>Value.int .u8 (c.toNat:Int)).toArray∧σ'=σ) (hv.mono hle) fun cs hr=>⟨by rw[Atv hr],rfl⟩
  cases a with
  | none =>
   have i:l=[]:=by
    cases l with
    | nil=>rfl
    | cons c r=>obtain⟨b,off,h,_⟩:=g 0 c rfl;cases h
   subst i
   exact⟨rfl,rfl⟩
  | some a =>
   unfold Conv.bytesToString
   simp only
   show wpS P ρ' ((loadCells a len).bind _) σ _
   rw[Ad,←d]
   rw[←d]at hf
   rw[show Builtin.firstCells (Dat.k UInt8) l.length (.slice (some a) l.length cap)=loadCells a (l.length*1) from rfl,Ahr]at hf
   refine Eu ?_ _ _ hf
   rintro cs σ' ⟨rfl,rfl⟩
   rw[Bca]
   show wpS P ρ' (Sem.bind _ _) _ _
   rw[Ad]
   refine bytesTo l ByteArray.empty ?_
   have e:ByteArray.empty++bs l=bs l:=by apply ByteArray.ext;rw[ByteArray.data_append];show #[]++_=_;simp
   exact⟨by rw[e],rfl⟩
theorem Avh{n}(h:n<10^20):(Pa n).length≤20:=(Bhn n h).len 19 h
theorem Va{p:List UInt8}{i}(h:i<p.length):∃c,p[i]?=some c:=⟨_,Sr h⟩
theorem Fp{ρ l}(h:l.length<2^60):Val ρ (.string (bs l)) (bs l):=Jk.2 ⟨rfl,by rw[Oz];exact h⟩
theorem Bav{ρ z}(h0:0≤z)(h1:z≤255):Val ρ (.int .u8 z) (UInt8.ofNat z.toNat):=Uq.2 (by
 congr 1
 rw[UInt8.toNat_ofNat']
 omega)
end
section
open Go
/-- Words,as lists of bytes. -/
def wl(ws:List ByteArray):List (List UInt8):=ws.map fun s=>s.data.toList
theorem Auc{ws i}:wl (ws.take i)=(wl ws).take i:=by unfold wl;rw[List.map_take]
theorem Rt{ws}:(wl ws).length=ws.length:=by simp[wl]
theorem Pw{ws}{i:Nat}{a}(h:ws[i]?=some a):(wl ws)[i]?=some a.data.toList:=by unfold wl;rw[Vl,h];rfl
theorem Mv{α:Type}{l:List α}{i x}(h:l[i]?=some x):l.take (i+1)=l.take i++[x]:=by
 rw[Awa,h];rfl
theorem Alp:∀{a b:List (List UInt8)},(Ho a).length≤(Ho (a++b)).length
 | [],b=>by simp[Ho]
 | [w],[]=>Lb _
 | [w],v::b=>by show w.length≤(w++32::Ho (v::b)).length;rw[lZ0];omega
 | w::v::a,b=>by
  have:=Alp (a:=v::a) (b:=b)
  show (w++32::Ho (v::a)).length≤(w++32::Ho ((v::a)++b)).length
  simp only[lZ0,lZ3]at *
  omega
theorem Aqq{ws i}:(Ho (ws.take i)).length≤(Ho ws).length:=by
 conv=>rhs;rw[←Aip i ws]
 exact Alp
theorem Agh{ws:List (List UInt8)}{i w}(h:ws[i]?=some w):Ho (ws.take (i+1))=if i=0 then w else Ho (ws.take i)++32::w:=by
 rw[Mv h]
 by_cases h0:i=0
 ·subst h0;rw[if_pos rfl];rfl
 ·rw[if_neg h0,Beu]
  intro hc
  have hl:i<ws.length:=(Mq.1 h).1
  have:=congrArg List.length hc
  rw[lZ6,lZ4,Aqr (by omega)]at this
  exact h0 this
theorem Axo{ls x}(h:x∈ls):(Gm x).length≤(Er ls).length:=by
 induction ls with
 | nil=>cases h
 | cons a ls ih =>
  rw[Xm,lZ0]
  rcases Nc.1 h with rfl|h
  ·omega
  ·have:=ih h;omega
theorem Axn{a b}:(Er a).length≤(Er (a++b)).length:=by
 rw[Tp,lZ0];omega
theorem Tv{ls i}:(Er (ls.take i)).length≤(Er ls).length:=by
 conv=>rhs;rw[←Aip i ls]
 exact Axn
theorem Ts{ls:List (List (List UInt8))}{i x}(h:ls[i]?=some x):Er (ls.take (i+1))=Er (ls.take i)++Gm x:=by
 rw[Mv h,Bat]
def Ig(w:List UInt8)(ls:List ByteArray):List (List (List UInt8)):=ls.map fun s=>[w,s.data.toList]
theorem Abi{w ls}{i:Nat}{a}(h:ls[i]?=some a):(Ig w ls)[i]?=some [w,a.data.toList]:=by unfold Ig;rw[Vl,h];rfl
theorem Aee{w ls}:(Ig w ls).length=ls.length:=by simp[Ig]
def Mm(xs:List Span):List ByteArray:=xs.map fun x=>bs (Ia x)
theorem Ahy{xs:List Span}{i x}(h:xs[i]?=some x):Mm (xs.take i)++[bs (Ia x)]=Mm (xs.take (i+1)):=by
 unfold Mm;rw[Mv h];simp
end
section
open Go
variable{mn:Bool}{X:Frame→List Frame→Ro→Own→Cy→Prop}{ρ:Ro}{σ:Own}
theorem Bdx{n:Nat}(hn:n≤999999999999):CallsH (CX mn X) 38 #[iV n] ρ σ (rP ρ σ (.string (bs (Pa n)))):=by
 induction n using Nat.strongRecOn generalizing ρ σ
 rename_i n ih
 refine Bq 26 [2] Byn rfl fun Q c Y=>w_q rfl rfl fun O D=>Au (.string (ByteArray.mk #[])) (Ds D fun R T E F=>Av (iV n) (l_v (Fk) (l_k F (Cg rfl (Jw (by omega)) (Al (kk E ?_))))))
 refine Asb rfl rfl fun U V G H=>Av (iV n) (l_v (Fk) (l_k H (Bu (t:=decide ((n:Int)<10)) rfl (fun b=>?_) (fun b=>?_))))
 ·have K:=lZ2 b
  refine Cr fun W I=>Av (iV n) (l_v (Dm (((48+n):Nat):Int)) (l_v (Acf (p:=(((48+n):Nat):Int)) (z:=(((48+n):Nat):Int)) Bxr Bxp rfl (Anq (by omega) (by omega))) (Arv (Cj (α:=UInt8) (xs:=[UInt8.ofNat ((((48+n):Nat):Int)).toNat]) (vs:=[.int .u8 (((48+n):Nat):Int)]) Bxe ty5 zr5 (by decide) (Dk (os:=[.tmp 13]) ⟨rfl,trivial⟩) ⟨Bav (by omega) (by omega),trivial⟩ (by decide) fun g C x=>?_))))
  have m:Grow ρ 5 (.slice (some ⟨g,0,none⟩) 1 1) ([UInt8.ofNat ((((48+n):Nat):Int)).toNat]:List UInt8) [(g,oC C.toArray 5)]:=Bs x rfl (by decide)
  refine Ca m fun a1 J N=>l_v (Bbe (el:=5) Bxe Bwz Bxp rfl N) (Au _ (l_k I (Aj (Cah J) (Aq (c ⟨rfl,rfl,eT (.string (bs ([UInt8.ofNat ((((48+n):Nat):Int)).toNat]:List UInt8))) ?_⟩)))))
  rw[Ayw (by omega)];rfl
 have K:=lZ1 b
 refine Al (kk G ?_)
 refine Ai fun P d=>Px (Bw 0 Aod rfl (Ah rfl) (Bw 1 (zT 2 9) rfl (Aor (p:=(n:Int)) (q:=10) rfl rfl (by omega) (z:=(((n/10):Nat):Int)) wrR) (Bw 3 [o1,o1,o0,o1,o0,o0,o0,o0,o0,o0,o0] rfl (Ah rfl) (Bw 4 [o1,o1,o0,o1,o1,o0,o0,o0,o0,o0,o0] rfl (Aye (p:=(n:Int)) (q:=10) rfl rfl (by omega) (z:=(((n%10):Nat):Int)) rfl) (Bw 5 [o1,o1,o0,o1,o1,o1,o0,o0,o0,o0,o0] rfl (Dm (((48+(n%10)):Nat):Int)) (Bw 6 [o1,o1,o0,o1,o1,o1,o1,o0,o0,o0,o0] rfl (Acf (p:=(((48+(n%10)):Nat):Int)) (z:=(((48+(n%10)):Nat):Int)) Bxr Bxp rfl (Anq (by omega) (by omega))) (Acq (i:=2) (j:=7) (zT 7 4) [o1,o1,o0,o1,o1,o1,o1,o1,o0,o0,o0] rfl rfl (by kernel_rfl) rfl rfl rfl rfl ?_ ?_)))))))
 ·refine Bm (vs:=[iV ((n/10):Nat)]) (v:=.string (bs (Pa (n/10)))) (ih (n/10) (by omega) (by omega)) Byn rfl rfl ⟨rfl,trivial⟩ ⟨Cal,?_⟩
  refine Hr 7 (zT 8 3) rfl (Cj (α:=UInt8) (xs:=[UInt8.ofNat ((((48+(n%10)):Nat):Int)).toNat]) (vs:=[.int .u8 (((48+(n%10)):Nat):Int)]) Bxe ty5 zr5 (by decide) (Dk (os:=[.tmp 22]) ⟨rfl,trivial⟩) ⟨Bav (by omega) (by omega),trivial⟩ (by decide) fun e y u=>⟨Cal,?_⟩)
  have k:Grow ρ 5 (.slice (some ⟨e,0,none⟩) 1 1) ([UInt8.ofNat ((((48+(n%10)):Nat):Int)).toNat]:List UInt8) [(e,oC y.toArray 5)]:=Bs u rfl (by decide)
  refine Lr k fun Z a L=>Jg 8 Aoc rfl a rfl (Bbe (el:=5) Bxe Bwz Bxp rfl L) (Jg 9 Aoa rfl a rfl (Rm (p:=Pa (n/10)) (q:=([UInt8.ofNat ((((48+(n%10)):Nat):Int)).toNat]:List UInt8)) rfl rfl (by have:=Avh (n:=n/10) (by omega);simp only[lZ3,lZ4]at *;omega)) (Jg 10 Aob rfl a rfl (Cp (v:=.string (bs ((Pa (n/10))++([UInt8.ofNat ((((48+(n%10)):Nat):Int)).toNat]:List UInt8)))) rfl) (Ec rfl (kk d ?_))))
  refine Aj (Cah a) (Aq (c ⟨rfl,rfl,eT (.string (bs ((Pa (n/10))++([UInt8.ofNat ((((48+(n%10)):Nat):Int)).toNat]:List UInt8)))) ?_⟩))
  rw[Yv (n:=n) (by omega) (by omega)];rfl
 ·refine Cj (α:=UInt8) (xs:=[UInt8.ofNat ((((48+(n%10)):Nat):Int)).toNat]) (vs:=[.int .u8 (((48+(n%10)):Nat):Int)]) Bxe ty5 zr5 (by decide) (Dk (os:=[.tmp 22]) ⟨rfl,trivial⟩) ⟨Bav (by omega) (by omega),trivial⟩ (by decide) fun f B w=>⟨Cal,?_⟩
  have l:Grow ρ 5 (.slice (some ⟨f,0,none⟩) 1 1) ([UInt8.ofNat ((((48+(n%10)):Nat):Int)).toNat]:List UInt8) [(f,oC B.toArray 5)]:=Bs w rfl (by decide)
  refine Lr l fun a0 h M=>Pm (by kernel_rfl) h Cal (Bw 8 [o1,o1,o0,o1,o1,o1,o1,o1,o1,o0,o0] rfl (Bbe (el:=5) Bxe Bwz Bxp rfl M) (Hr 2 Aoc rfl (Bm (ih (n/10) (by omega) (by omega)) Byn rfl rfl ⟨rfl,trivial⟩ ⟨Cal,?_⟩)))
  refine Dp 9 Aoa rfl (Rm (p:=Pa (n/10)) (q:=([UInt8.ofNat ((((48+(n%10)):Nat):Int)).toNat]:List UInt8)) rfl rfl (by have:=Avh (n:=n/10) (by omega);simp only[lZ3,lZ4]at *;omega)) (Dp 10 Aob rfl (Cp (v:=.string (bs ((Pa (n/10))++([UInt8.ofNat ((((48+(n%10)):Nat):Int)).toNat]:List UInt8)))) rfl) (Ec rfl (kk d ?_)))
  refine Aj (Cah h) (Aq (c ⟨rfl,rfl,eT (.string (bs ((Pa (n/10))++([UInt8.ofNat ((((48+(n%10)):Nat):Int)).toNat]:List UInt8)))) ?_⟩))
  rw[Yv (n:=n) (by omega) (by omega)];rfl
theorem Zy{n}(hn:0≤n∧n≤999999999):CallsH (CX mn X) 38 #[.int .i64 n] ρ σ (rP ρ σ (.string (bs (Nl n)))):=by
 obtain⟨k,rfl⟩:∃k:Nat,n=(k:Int):=⟨n.toNat,by omega⟩
 have e:=Aku hn.1
 rw[e]
 exact Bdx (by omega)
theorem Aqb{x vx}(rx:Val ρ vx x)(hx:0≤x.low∧x.low≤x.high∧x.high≤1000000):CallsH (CX mn X) 41 #[vx] ρ σ (rP ρ σ (.string (bs (Ia x)))):=by
 have M:=Rn (n:=x.low) (by omega)
 have N:=Rn (n:=x.high) (by omega)
 refine Bq 19 [2] Tryz.func41 rfl fun Q e O=>w_q rfl rfl fun u l=>Arv (Eb (v:=vx) rfl fun P=>?_)
 refine Bb (a:=x) rx fun Y f b=>Au (.string (ByteArray.mk #[])) (Ds l fun z B q t=>Arw (Ba Span.f_low Bxl rfl ty3 b) fun V j=>?_)
 have⟨I,J⟩:=At.rng j
 refine l_v (Eo ty3 j) (Arw (Ba Span.f_high Bxl rfl ty3 b) fun W k=>?_)
 have⟨K,L⟩:=At.rng k
 refine l_v (Eo ty3 k) (l_v (Hs) (l_k t (Cw (fun c=>?_) (fun c=>?_))))
 ·have d:=Jr c
  refine Cr fun w m=>Arw (Ba Span.f_low Bxl rfl ty3 b) fun R g=>?_
  have⟨C,D⟩:=At.rng g
  refine l_v (Eo ty3 g) (Arv (Ce (Zy (n:=x.low) (by omega)) Byn ?_))
  refine Au _ (l_k m (Aj (Cah f) (Aq (e (rT (.string (bs (Nl x.low))) ?_)))))
  rw[show Ia x=_ from if_pos d]
 have d:=Jq c
 refine Al (kk q ?_)
 refine Ai fun y p=>Px (Cu 0 zZ0 rfl (Ba Span.f_low Bxl rfl ty3 b) fun T h=>?_)
 have⟨E,F⟩:=At.rng h
 refine Bw 1 zZ1 rfl (Eo ty3 h) (Cu 4 [o1,o1,o0,o0,o1,o0,o0,o0,o0] rfl (Ba Span.f_high Bxl rfl ty3 b) fun U i=>?_)
 have⟨G,H⟩:=At.rng i
 refine Bw 5 [o1,o1,o0,o0,o1,o1,o0,o0,o0] rfl (Eo ty3 i) (Hr 2 [o1,o1,o1,o0,o1,o1,o0,o0,o0] rfl (Bm (Zy (by omega)) Byn rfl rfl ⟨rfl,trivial⟩ ⟨Cal,?_⟩))
 refine Bw 3 zZ8 rfl (Rm rfl rfl (by first|omega|(simp only[lZ0,lZ3,lZ4,lZ6,lZ5]at *;omega))) (Hr 6 zZ2 rfl (Bm (Zy (by omega)) Byn rfl rfl ⟨rfl,trivial⟩ ⟨Cal,?_⟩))
 refine Dp 7 zZ3 rfl (Rm rfl rfl (by first|omega|(simp only[lZ0,lZ3,lZ4,lZ6,lZ5]at *;omega))) (Dp 8 zZ4 rfl (Cp rfl) (Ec rfl (kk p ?_)))
 refine Aj (Cah f) (Aq (e ⟨rfl,rfl,eT (.string (bs (((Nl x.low)++([46,46]:List UInt8))++(Nl x.high)))) ?_⟩))
 rw[show Ia x=_ from if_neg d];simp
theorem Acu{ws vw}(rw_:Val ρ vw ws)(hb:(Ho (wl ws)).length≤1125899906842624):CallsH (CX mn X) 37 #[vw] ρ σ (rP ρ σ (.string (bs (Gm (wl ws))))):=by
 refine Bq 23 [2] Bym rfl fun Q v Y=>w_q rfl rfl fun H w=>Au (.string (ByteArray.mk #[])) (Dr w fun L y=>Au (.string (ByteArray.mk #[])) (Ds y fun N O B C=>Au (iV 0) (l_k C (Ao (Cc (fun mm ee dd ρ' σ'=>∃(i:Nat) (s:List UInt8),(ws.length-i)=mm∧[]=dd∧ρ=ρ'∧σ=σ'∧ee 0=vw∧ee 3=(.string (bs s))∧ee 4=iV i∧(i≤ws.length)∧(s=Ho ((wl ws).take i))∧True) (m:=_) ⟨0,[],rfl,rfl,rfl,rfl,rfl,rfl,rfl,Hz _,rfl,trivial⟩ ?_)))))
 rintro m5 T _ _ _ ⟨i,s,rfl,rfl,rfl,rfl,b,h,a,a0,c,_⟩
 have Z:s.length≤(Ho (wl ws)).length:=by rw[c];exact Aqq
 refine Gw fun P R D E=>l_v (Ah a) (l_v (Ah b) ?_)
 have W:=Can rw_
 refine l_v (Pc (el:=9) Bwy rw_) (l_v (Fk) (l_k E (Cw (t:=decide ((i:Int)<(ws.length:Int))) (fun g=>?_) (fun g=>?_))))
 ·have G:=lZ2 g
  refine Al (kk D ?_)
  refine Ai fun I l=>Ao (Gw fun J K n x=>l_v (Ah a) (l_v (Rd) (l_k x (Cw (t:=decide ((i:Int)>0)) (fun f=>?_) (fun f=>?_)))))
  ·have F:=lZ2 f
   refine Bf (l_v (Ah h) (l_v (Rm rfl rfl (by first|omega|(simp only[lZ0,lZ3,lZ4,lZ6,lZ5]at *;omega))) (Au _ (l_k n (Bf (Av _ (l_v (Ah b) (l_v (Ah a) ?_))))))))
   obtain⟨d,j⟩:=Ed (xs:=ws) (i:=i) (by omega)
   refine Arw (Em i Bwy ty9 rw_ (q:=(i:Int)) j) fun a1 p=>?_
   have U:d.data.toList.length<2^60:=At.slen p
   refine l_v (Fd ty9 p) (l_v (Rm (q:=d.data.toList) rfl rfl (by first|omega|(simp only[lZ0,lZ3,lZ4,lZ6,lZ5]at *;omega))) (Au _ (l_k l (Bf (l_v (Ah a) (l_v (Dm (((i+1):Nat):Int)) (Au _ (Ac ?_))))))))
   refine⟨_,?_,(i+1),((s++([32]:List UInt8))++d.data.toList),rfl,rfl,rfl,rfl,b,rfl,rfl,(by omega),(by rw[Agh (Pw j),c];first|rw[if_pos (by omega),show i=0 by omega];rfl|rw[if_neg (by omega)];simp),trivial⟩
   omega
  have F:=lZ1 f
  refine Al (kk n ?_)
  refine Bf (l_v (Ah h) (l_v (Ah b) (l_v (Ah a) ?_)))
  obtain⟨e,k⟩:=Ed (xs:=ws) (i:=i) (by omega)
  refine Arw (Em i Bwy ty9 rw_ (q:=(i:Int)) k) fun a2 u=>?_
  have V:e.data.toList.length<2^60:=At.slen u
  refine l_v (Fd ty9 u) (l_v (Rm (q:=e.data.toList) rfl rfl (by omega)) (Au _ (l_k l (Bf (l_v (Ah a) (l_v (Dm (((i+1):Nat):Int)) (Au _ (Ac ?_))))))))
  refine⟨_,?_,(i+1),(s++e.data.toList),rfl,rfl,rfl,rfl,b,rfl,rfl,(by omega),(by rw[Agh (Pw k),c];first|rw[if_pos (by omega),show i=0 by omega];rfl|rw[if_neg (by omega)];simp),trivial⟩
  omega
 have G:=lZ1 g
 refine Bx (kk B ?_)
 refine Cr fun M z=>l_v (Ah h) (l_v (Rm rfl rfl (by first|omega|(simp only[lZ0,lZ3,lZ4,lZ6,lZ5]at *;omega))) (Au _ (l_k z (Aq (v (rT _ ?_))))))
 rw[c,show i=(wl ws).length by rw[Rt];omega,Qa];rfl
theorem Asu{u ls vl}(rl:Val ρ vl ls)(hw:u.length≤20)(hb:(Er (Ig u ls)).length≤1125899906842624):CallsH (CX mn X) 39 #[.string (bs u),vl] ρ σ (rP ρ σ (.string (bs (Er (Ig u ls))))):=by
 refine Bq 23 [4] Bzz rfl fun Q q T=>w_q rfl rfl fun G t=>Au (.string (ByteArray.mk #[])) (Dr t fun J x=>Au (.string (ByteArray.mk #[])) (Ds x fun K L y z=>Au (iV 0) (l_k z (Ao (Cc (fun mm ee dd ρ' σ'=>∃(i:Nat) (s:List UInt8),(ls.length-i)=mm∧[]=dd∧ρ=ρ'∧σ=σ'∧ee 0=(.string (bs u))∧ee 1=vl∧ee 5=(.string (bs s))∧ee 6=iV i∧(i≤ls.length)∧(s=Er ((Ig u ls).take i))∧True) (m:=_) ⟨0,[],rfl,rfl,rfl,rfl,rfl,rfl,rfl,rfl,Hz _,rfl,trivial⟩ ?_)))))
 rintro V O _ _ _ ⟨i,s,rfl,rfl,rfl,rfl,g,c,h,d,W,f,_⟩
 have U:s.length≤(Er (Ig u ls)).length:=by rw[f];exact Tv
 refine Gw fun M N B C=>l_v (Ah d) (l_v (Ah c) ?_)
 have R:=Can rl
 refine l_v (Pc Bwy rl) (l_v (Fk) (l_k C (Cw (fun b=>?_) (fun b=>?_))))
 ·have E:=lZ2 b
  refine Al (kk B ?_)
  refine Ai fun H v=>Ao (Bf (l_v (Ah h) (l_v (Ah g) (l_v (Ah c) (l_v (Ah d) ?_)))))
  obtain⟨a,e⟩:=Ed (xs:=ls) (i:=i) (by omega)
  have hlm:(Gm [u,a.data.toList]).length≤(Er (Ig u ls)).length:=Axo (lZ8 (Abi e))
  have hlj:(Ho [u,a.data.toList]).length+1=(Gm [u,a.data.toList]).length:=by unfold Gm;simp
  refine Arw (Em i Bwy ty9 rl e) fun Y k=>?_
  have P:a.data.toList.length<2^60:=At.slen k
  refine l_v (Fd ty9 k) (Arv (Cj (xs:=[bs u,bs a.data.toList]) (vs:=[.string (bs u),.string a]) Bwy ty9 zr9 (by decide) (Dk (os:=[.tmp 14,.tmp 18]) ⟨rfl,rfl,trivial⟩) ⟨Fp (by first|omega|(simp only[lZ0,lZ3,lZ4,lZ6,lZ5]at *;omega)),Fp (by first|omega|(simp only[lZ0,lZ3,lZ4,lZ6,lZ5]at *;omega)),trivial⟩ (by decide) fun j p n=>?_))
  have l:Grow ρ 9 (.slice (some ⟨j,0,none⟩) 2 2) ([bs u,bs a.data.toList]:List ByteArray) [(j,oC p.toArray 9)]:=Bs n rfl (by decide)
  refine Ca l fun Z D F=>Arv (Ce (Acu F (by show (Ho [u,a.data.toList]).length≤_;omega)) Bym ?_)
  refine l_v (Rm rfl rfl (by show s.length+(Gm [u,a.data.toList]).length<_;omega)) (Au _ (l_k v (Bf (l_v (Ah d) (l_v (Dm (((i+1):Nat):Int)) (Au _ (Bj (Cah D) (Ac ?_))))))))
  refine⟨_,?_,(i+1),(s++(Gm (wl ([bs u,bs a.data.toList]:List ByteArray)))),rfl,rfl,rfl,rfl,g,c,rfl,rfl,(by omega),(by rw[Ts (Abi e),f];rfl),trivial⟩
  omega
 have E:=lZ1 b
 refine Bx (kk y ?_)
 refine Cr fun I w=>l_v (Ah h) (Au _ (l_k w (Aq (q (rT (.string (bs s)) ?_)))))
 rw[f,show i=(Ig u ls).length by rw[Aee];omega,Qa]
theorem Akn  :CallsH (CX mn X) 40 #[] ρ σ (fun w ρ' σ'=>Ro.le ρ ρ'∧σ'=σ∧Val ρ' w ([bs Rb,bs Nj,bs wNo]:List ByteArray)):=by
 refine Bq 2 [0] Tryz.func40 rfl fun Q e l=>w_q rfl rfl fun j f=>Au nS (Dr f fun k g=>Arv (Cj (xs:=[bs ([109,97,121]:List UInt8),bs ([115,117,114,101]:List UInt8),bs ([110,111]:List UInt8)]) (vs:=[.string (ByteArray.mk #[109,97,121]),.string (ByteArray.mk #[115,117,114,101]),.string (ByteArray.mk #[110,111])]) Bwy ty9 zr9 (by decide) (Dk (os:=[.const (.string (ByteArray.mk #[109,97,121])),.const (.string (ByteArray.mk #[115,117,114,101])),.const (.string (ByteArray.mk #[110,111]))]) ⟨rfl,rfl,rfl,trivial⟩) ⟨Fp (by decide),Fp (by decide),Fp (by decide),trivial⟩ (by decide) fun a d c=>?_))
 have b:Grow ρ 9 (.slice (some ⟨a,0,none⟩) 3 3) ([bs ([109,97,121]:List UInt8),bs ([115,117,114,101]:List UInt8),bs ([110,111]:List UInt8)]:List ByteArray) [(a,oC d.toArray 9)]:=Bs c rfl (by decide)
 refine Au _ (l_k g (Hc b fun m h i=>Aq (e ⟨h,rfl,Abz rfl (Val.cast ?_ i)⟩)))
 ·rfl
theorem Auz{xs vx}(rx:Val ρ vx xs)(hn:xs.length≤100)(hx:∀x∈xs,0≤x.low∧x.low≤x.high∧x.high≤1000000):CallsH (CX mn X) 42 #[vx] ρ σ (fun w ρ' σ'=>Ro.le ρ ρ'∧σ'=σ∧Val ρ' w (Mm xs:List ByteArray)):=by
 refine Bq 20 [2] Tryz.func42 rfl fun Q z a0=>w_q rfl rfl fun R B=>Au nS (Dr B fun V E=>Au nS (Ds E fun W Y F G=>Au (iV 0) (l_k G (Ao (Cc (fun mm ee dd ρ' σ'=>∃(i:Nat) (j:Value) (h:Own),(xs.length-i)=mm∧[]=dd∧Ro.le ρ ρ'∧(h++σ)=σ'∧ee 0=vx∧ee 3=j∧ee 4=iV i∧(i≤xs.length)∧Grow ρ' 9 j (Mm (xs.take i)) h∧True) (m:=_) ⟨0,nS,[],rfl,rfl,Cal,rfl,rfl,rfl,rfl,Hz _,Fy rfl Hm,trivial⟩ ?_)))))
 rintro m5 e5 _ P _ ⟨i,j,h,rfl,rfl,g,rfl,d,k,e,a1,a,_⟩
 replace rx:=Val.mono g rx
 refine Gw fun Z K7 H I=>l_v (Ah e) (l_v (Ah d) ?_)
 refine l_v (Pc (el:=48) Bxi rx) (l_v (Fk) (l_k I (Cw (fun c=>?_) (fun c=>?_))))
 ·have K:=lZ2 c
  refine Al (kk H ?_)
  refine Ai fun T C=>Ao (Bf (l_v (Ah k) (l_v (Ah d) (l_v (Ah e) ?_))))
  obtain⟨b,f⟩:=Ed (xs:=xs) (i:=i) (by omega)
  have hsp:=hx b (lZ8 f);have hsn:=Yi hsp
  refine Arw (Em i Bxi Mx rx f) fun a2 L=>Arw (Gz Mx L) fun a3 M=>Arv (Ce (Aqb M hsp) Tryz.func41 ?_)
  refine Arv (Cj (xs:=[bs (Ia b)]) (vs:=[.string (bs (Ia b))]) Bwy ty9 zr9 (by decide) (Dk (os:=[.tmp 16]) ⟨rfl,trivial⟩) ⟨Fp (by omega),trivial⟩ (by decide) fun l v u=>?_)
  have q:Grow P 9 (.slice (some ⟨l,0,none⟩) 1 1) ([bs (Ia b)]:List ByteArray) [(l,oC v.toArray 9)]:=Bs u rfl (by decide)
  refine Ca q fun a4 n N=>?_
  replace a:=Caj n a
  refine Arv (Ge Bwy Bwy (Ab Bxs) nL a N (by simp only[Mm,Xp,lZ6,lZ0,lZ3,lZ4]at *;omega) fun p y t=>?_)
  refine Au p (l_k C (Bf (l_v (Ah e) (l_v (Dm (((i+1):Nat):Int)) (Au _ (Ac ?_))))))
  refine⟨_,?_,(i+1),p,y,rfl,rfl,(Cam g n),rfl,d,rfl,rfl,(by omega),(Fy (Ahy f) t),trivial⟩
  omega
 have K:=lZ1 c
 refine Bx (kk F ?_)
 refine Cr fun U D=>l_v (Ah k) (Au _ (l_k D (Hc a fun a5 J O=>Aq (z ⟨Cam g J,rfl,Abz rfl (Val.cast ?_ O)⟩))))
 ·rw[show i=xs.length by omega,Qa]
end
section
open Go
/-- More may be read,and these blocks are still owned. -/
def leO(ρ₀:Ro)(A:Own):Ro→Own→Prop:=fun ρ' σ'=>Ro.le ρ₀ ρ'∧∀p∈A,p∈σ'
def Abx(P:Program)(ρ₀:Ro)(A:Own)(e:Env)(op:Op)(ty:TypeId)(v:Value):Prop :=
 ∀ρ' σ d pos af g,leO ρ₀ A ρ' σ→wpS P ρ' (execOp (Af e) ⟨d,op,ty,pos,af,g⟩) σ (fun nx σ'=>nx = .value v∧σ'=σ)
theorem Yld.o{P ρ₀ A e op ty v}(h:Yld P ρ₀ e op ty v):Abx P ρ₀ A e op ty v:=fun ρ' σ d pos af g hS=>h ρ' σ d pos af g hS.1
theorem Bwu{σ:Own}:∀p∈([]:Own),p∈σ:=fun p hp=>by cases hp
theorem Bws{A σ:Own}{x:Nat×Res}(h:∀p∈A,p∈σ):∀p∈x::A,p∈x::σ:=fun p hp=>by
 rcases Nc.1 hp with rfl|hp
 ·exact Aiq ..
 ·exact lZ7 _ (h p hp)
theorem Bwr{A σ:Own}{x}(h:∀p∈A,p∈σ):∀p∈A,p∈x::σ:=fun p hp=>lZ7 _ (h p hp)
theorem Bwt{A σ gr:Own}(h:∀p∈A,p∈σ):∀p∈A,p∈gr++σ:=fun p hp=>Pz _ (h p hp)
theorem sB{A σ:Own}(h:∀p∈A,p∈σ:=by repeat first|exact Bwu|refine Bws ?_|refine subG ?_|refine Bwr ?_|refine Bwt ?_):∀p∈A,p∈σ:=h
section
variable{C:Ctx}{b:FB}{n:Nat}{l₀ rest:List Oper}{Q:Env→List Deferred→Ro→Own→Prop}{e:Env}{ds:List Deferred}{ρ ρ₀ ρ₁:Ro}{σ A:Own}{pz:List Nat}{fuel:Nat}
variable{d i:Nat}{op:Op}{ty:TypeId}{pos:String}{af:Array Edge}{g:Option (Nat×Bool)}{v:Value}{li:List Bool}
theorem Azz(hS:leO ρ₀ A ρ σ)(hw:Bz l₀.toArray ⟨some d,op,ty,pos,af,g⟩ e=true)(hy:Abx C.P ρ₀ A e op ty v)(h:Ey C b n l₀ rest Q (upd e d v) ds ρ σ):Ey C b n l₀ (⟨some d,op,ty,pos,af,g⟩::rest) Q e ds ρ σ :=
 Add hw (Eu (by rintro nx σ' ⟨rfl,rfl⟩;exact h) _ _ (hy ρ σ _ _ _ _ hS))
theorem Oj{id Q}(A:Own)(pz:List Nat)(hm:C.P.follows .mixedOrders=true)(hs:Nm n l₀=true)(hk:b.kind = .normal)(h:El C b l₀.toArray (fun e ds ρ σ=>Q .normal e ds ρ σ) pz (leO ρ A) l₀.length (List.replicate l₀.length false).toArray e ds ρ σ):WpC C b n (.region id l₀.toArray true) Q e ds ρ σ :=
 Vk pz (leO ρ A) hm (Ih hs) (by rw[hk];simp) (by simpa using h)
theorem Te(hr:Dl l₀ li=[])(h:Q e ds ρ σ):El C b l₀.toArray Q pz (leO ρ₀ A) fuel li.toArray e ds ρ σ:=Aeb (by rw[Hh];exact hr) h fuel
theorem Bqp(li':List Bool)(hli:li.set i true=li')(ht:Py l₀ li pz i=true)(hi:l₀[i]?=some ⟨some d,op,ty,pos,af,g⟩)
  (hS:leO ρ₀ A ρ σ) (hw:Bz l₀.toArray ⟨some d,op,ty,pos,af,g⟩ e=true) (hy:Abx C.P ρ₀ A e op ty v) (h:El C b l₀.toArray Q pz (leO ρ₀ A) fuel li'.toArray (upd e d v) ds ρ σ) :
  El C b l₀.toArray Q pz (leO ρ₀ A) (fuel+1) li.toArray e ds ρ σ:=by
 obtain⟨a,c,f,j⟩:=Wg ht
 refine Vm (by rw[Qx];exact hi) a c f j (.inl ⟨hw,fun ρ' σ' hS'=>hy ρ' σ' _ _ _ _ hS'⟩) hS ?_
 rw[Mo hli];exact h
theorem Df  (i:Nat) (li':List Bool) (hi:l₀[i]?=some ⟨some d,op,ty,pos,af,g⟩) (hS:leO ρ₀ A ρ σ) (hw:Bz l₀.toArray ⟨some d,op,ty,pos,af,g⟩ e=true) (hy:Abx C.P ρ₀ A e op ty v) (h:El C b l₀.toArray Q pz (leO ρ₀ A) fuel li'.toArray (upd e d v) ds ρ σ) (hli:li.set i true=li':=by rfl) (ht:Py l₀ li pz i=true:=by kernel_rfl) :
  El C b l₀.toArray Q pz (leO ρ₀ A) (fuel+1) li.toArray e ds ρ σ:=Bqp (i:=i) li' hli ht hi hS hw hy h
theorem Btc{F:Value→Prop}(li':List Bool)(hli:li.set i true=li')(ht:Py l₀ li pz i=true)(hi:l₀[i]?=some ⟨some d,op,ty,pos,af,g⟩)
  (hS:leO ρ₀ A ρ σ) (hw:Bz l₀.toArray ⟨some d,op,ty,pos,af,g⟩ e=true) (hy:∃v,F v∧Abx C.P ρ₀ A e op ty v) (h:∀v,F v→El C b l₀.toArray Q pz (leO ρ₀ A) fuel li'.toArray (upd e d v) ds ρ σ) :
  El C b l₀.toArray Q pz (leO ρ₀ A) (fuel+1) li.toArray e ds ρ σ:=let ⟨v,h1,h2⟩:=hy;Bqp li' hli ht hi hS hw h2 (h v h1)
theorem Zc{F:Value→Prop}(i:Nat)(li':List Bool)(hi:l₀[i]?=some ⟨some d,op,ty,pos,af,g⟩)(hS:leO ρ₀ A ρ σ)(hw:Bz l₀.toArray ⟨some d,op,ty,pos,af,g⟩ e=true)(hy:∃v,F v∧Abx C.P ρ₀ A e op ty v)(h:∀v,F v→El C b l₀.toArray Q pz (leO ρ₀ A) fuel li'.toArray (upd e d v) ds ρ σ)(hli:li.set i true=li':=by rfl)(ht:Py l₀ li pz i=true:=by kernel_rfl) :
  El C b l₀.toArray Q pz (leO ρ₀ A) (fuel+1) li.toArray e ds ρ σ:=Btc (i:=i) li' hli ht hi hS hw hy h
theorem Att{ρ' σ'}(hg:Ghost ρ σ ρ' σ')(hS:leO ρ₀ A ρ σ→leO ρ₀ A ρ' σ')(h:El C b l₀.toArray Q pz (leO ρ₀ A) (fuel+1) li.toArray e ds ρ' σ'):El C b l₀.toArray Q pz (leO ρ₀ A) (fuel+1) li.toArray e ds ρ σ:=Aar hg hS h
/-- The one that may come up. -/
theorem Bqo(li':List Bool)(hli:li.set i true=li')(hr:Dl l₀ li=[i])(hi:l₀[i]?=some ⟨some d,op,ty,pos,af,g⟩)(hw:Bz l₀.toArray ⟨some d,op,ty,pos,af,g⟩ e=true)
  (h:wpS C.P ρ (execOp (Af e) ⟨some d,op,ty,pos,af,g⟩) σ (NextH C (fun v ds' ρ' σ'=>leO ρ₀ A ρ' σ'∧El C b l₀.toArray Q pz (leO ρ₀ A) fuel li'.toArray (upd e d v) ds' ρ' σ') b.round ds ρ)) :
  El C b l₀.toArray Q pz (leO ρ₀ A) (fuel+1) li.toArray e ds ρ σ:=by
 refine Mz ((Hh _ _).trans hr) (by simp) fun j hj=>?_
 rw[Sl]at hj;subst hj
 unfold OpH
 simp only[Qx,hi,Mo hli]
 rw[if_pos hw]
 exact Eu (fun nx σ' hn=>hn.mono fun v ds ρ σ hh=>⟨fun _=>hh.1,hh.2⟩) _ _ h
theorem Lp  (i:Nat) (li':List Bool) (hi:l₀[i]?=some ⟨some d,op,ty,pos,af,g⟩) (hw:Bz l₀.toArray ⟨some d,op,ty,pos,af,g⟩ e=true) (h:wpS C.P ρ (execOp (Af e) ⟨some d,op,ty,pos,af,g⟩) σ (NextH C (fun v ds' ρ' σ'=>leO ρ₀ A ρ' σ'∧El C b l₀.toArray Q pz (leO ρ₀ A) fuel li'.toArray (upd e d v) ds' ρ' σ') b.round ds ρ)) (hli:li.set i true=li':=by rfl) (hr:Dl l₀ li=[i]:=by kernel_rfl) :
  El C b l₀.toArray Q pz (leO ρ₀ A) (fuel+1) li.toArray e ds ρ σ:=Bqo (i:=i) li' hli hr hi hw h
/-- The one that may come up,and that waits for those that were taken first. -/
theorem Boj(li':List Bool)(hli:li.set i true=li')(hr:Dl l₀ li=[i])(hl:Pg l₀.toArray pz i=true)(hi:l₀[i]?=some ⟨none,op,ty,pos,af,g⟩)(hw:Bz l₀.toArray ⟨none,op,ty,pos,af,g⟩ e=true)
  (h:wpS C.P ρ (execOp (Af e) ⟨none,op,ty,pos,af,g⟩) σ (NextH C (fun _ ds' ρ' σ'=>El C b l₀.toArray Q pz (leO ρ₀ A) fuel li'.toArray e ds' ρ' σ') b.round ds ρ)) :
  El C b l₀.toArray Q pz (leO ρ₀ A) (fuel+1) li.toArray e ds ρ σ:=by
 refine Mz ((Hh _ _).trans hr) (by simp) fun j hj=>?_
 rw[Sl]at hj;subst hj
 unfold OpH
 simp only[Qx,hi,Mo hli]
 rw[if_pos hw]
 exact Eu (fun nx σ' hn=>hn.mono fun v ds ρ σ hh=>⟨fun h=>(by rw[hl]at h;cases h),hh⟩) _ _ h
theorem Qg  (i:Nat) (li':List Bool) (hi:l₀[i]?=some ⟨none,op,ty,pos,af,g⟩) (hw:Bz l₀.toArray ⟨none,op,ty,pos,af,g⟩ e=true) (h:wpS C.P ρ (execOp (Af e) ⟨none,op,ty,pos,af,g⟩) σ (NextH C (fun _ ds' ρ' σ'=>El C b l₀.toArray Q pz (leO ρ₀ A) fuel li'.toArray e ds' ρ' σ') b.round ds ρ)) (hli:li.set i true=li':=by rfl) (hr:Dl l₀ li=[i]:=by kernel_rfl) (hl:Pg l₀.toArray pz i=true:=by kernel_rfl) :
  El C b l₀.toArray Q pz (leO ρ₀ A) (fuel+1) li.toArray e ds ρ σ:=Boj (i:=i) li' hli hr hl hi hw h
theorem Bkb(li':List Bool)(hli:li.set i true=li')(hr:Dl l₀ li=[i])(hi:l₀[i]?=some ⟨some d,op,ty,pos,af,g⟩)(hS:leO ρ₀ A ρ σ)(hw:Bz l₀.toArray ⟨some d,op,ty,pos,af,g⟩ e=true)(hy:Abx C.P ρ₁ A e op ty v)(hS1:leO ρ₁ A ρ σ)
  (h:El C b l₀.toArray Q pz (leO ρ₀ A) fuel li'.toArray (upd e d v) ds ρ σ):El C b l₀.toArray Q pz (leO ρ₀ A) (fuel+1) li.toArray e ds ρ σ :=
 Bqo li' hli hr hi hw (Eu (by rintro nx σ' ⟨rfl,rfl⟩;exact⟨hS,h⟩) _ _ (hy ρ σ _ _ _ _ hS1))
theorem Fc  (i:Nat) (li':List Bool) (hi:l₀[i]?=some ⟨some d,op,ty,pos,af,g⟩) (hS:leO ρ₀ A ρ σ) (hw:Bz l₀.toArray ⟨some d,op,ty,pos,af,g⟩ e=true) (hy:Abx C.P ρ₁ A e op ty v) (hS1:leO ρ₁ A ρ σ) (h:El C b l₀.toArray Q pz (leO ρ₀ A) fuel li'.toArray (upd e d v) ds ρ σ) (hli:li.set i true=li':=by rfl) (hr:Dl l₀ li=[i]:=by kernel_rfl):El C b l₀.toArray Q pz (leO ρ₀ A) (fuel+1) li.toArray e ds ρ σ:=Bkb (i:=i) li' hli hr hi hS hw hy hS1 h
theorem Bok{F:Value→Prop}(li':List Bool)(hli:li.set i true=li')(hr:Dl l₀ li=[i])(hi:l₀[i]?=some ⟨some d,op,ty,pos,af,g⟩)(hS:leO ρ₀ A ρ σ)(hw:Bz l₀.toArray ⟨some d,op,ty,pos,af,g⟩ e=true)(hy:∃v,F v∧Abx C.P ρ₁ A e op ty v)(hS1:leO ρ₁ A ρ σ)
  (h:∀v,F v→El C b l₀.toArray Q pz (leO ρ₀ A) fuel li'.toArray (upd e d v) ds ρ σ):El C b l₀.toArray Q pz (leO ρ₀ A) (fuel+1) li.toArray e ds ρ σ:=let ⟨v,h1,h2⟩:=hy;Bkb li' hli hr hi hS hw h2 hS1 (h v h1)
theorem Ri{F:Value→Prop}(i:Nat)(li':List Bool)(hi:l₀[i]?=some ⟨some d,op,ty,pos,af,g⟩)(hS:leO ρ₀ A ρ σ)(hw:Bz l₀.toArray ⟨some d,op,ty,pos,af,g⟩ e=true)(hy:∃v,F v∧Abx C.P ρ₁ A e op ty v)(hS1:leO ρ₁ A ρ σ)(h:∀v,F v→El C b l₀.toArray Q pz (leO ρ₀ A) fuel li'.toArray (upd e d v) ds ρ σ)(hli:li.set i true=li':=by rfl)(hr:Dl l₀ li=[i]:=by kernel_rfl):El C b l₀.toArray Q pz (leO ρ₀ A) (fuel+1) li.toArray e ds ρ σ:=Bok (i:=i) li' hli hr hi hS hw hy hS1 h
end
section
variable{P:Program}{ρ₀:Ro}{A:Own}{e:Env}{ty t t':TypeId}{x:Operand}{v:Value}
theorem Hv{r off}{c:List Value}{fz}(hT:∃d,P.underlying t=some d∧Qv d=false)(hx:Af e x = .pointer (some ⟨r,off,none⟩))(hm:(r,Res.obj (.cells c.toArray t' fz))∈A)(hc:c[off]?=some v):Abx P ρ₀ A e (.load t x) ty v:=fun ρ' σ d pos af g hS=>by
 show wpS P ρ' ((Instr.loadAt t (Af e x)).bind fun v=>Sem.pure (Next.value v)) σ _
 rw[Ad,hx]
 show wpS P ρ' (loadVar t ⟨r,off,none⟩) σ _
 show wpS P ρ' ((isAgg t).bind _) σ _
 rw[Ad]
 refine Hi hT ?_
 exact⟨rfl,rfl,_,v,.inr (hS.2 _ hm),by simpa[Gy]using hc,rfl,rfl⟩
theorem Ayc{r off n'}{c cs rs:List Value}{fz}(hT:∃d,P.underlying t=some d∧Qv d=true)(hz:∃i,P.info? t=some i∧i.size=n')(hx:Af e x = .pointer (some ⟨r,off,none⟩))(hm:(r,Res.obj (.cells c.toArray t' fz))∈A)(hc:c.drop off=cs++rs)(hn:cs.length=n'):
  Abx P ρ₀ A e (.load t x) ty (.agg cs.toArray):=fun ρ' σ d pos af g hS=>by
 show wpS P ρ' ((Instr.loadAt t (Af e x)).bind fun v=>Sem.pure (Next.value v)) σ _
 rw[Ad,hx]
 show wpS P ρ' ((isAgg t).bind _) σ _
 rw[Ad]
 refine Hi hT ?_
 show wpS P ρ' ((sizeOf t).bind fun n=>(loadCells ⟨r,off,none⟩ n).bind _) σ _
 rw[Ad]
 refine Dx hz ?_
 rw[Ad,←hn]
 refine Ff rfl (.inr (hS.2 _ hm)) cs 0 #[] (fun j w hj=>?_) ?_
 ·have:(c.drop off)[j]?=some w:=by rw[hc,Alt];exact hj;exact(Mq.1 hj).1
  rw[Yz]at this
  simpa[Gy]using this
 ·have b:(#[]:Array Value)++cs.toArray=cs.toArray:=by simp
  rw[b];exact⟨rfl,rfl⟩
/-- One cell of an element of a slice that grows is read. -/
theorem Bpy{α β}[Dat α][Dat β]{o off i get xs z gr el}(hf:Fld α β o get)(ha:Dat.agg β=false)(hG:Grow ρ₀ el v xs gr)(hsub:∀p∈gr,p∈A)(hi:xs[i]?=some z)(hT:∃d,P.underlying t=some d∧Qv d=false)(hx:Af e x = .pointer (some ⟨Ahx v,off,none⟩))(ho:off=i*Dat.k α+o):∃w,Val ρ₀ w (get z)∧Abx P ρ₀ A e (.load t x) ty w:=by
 have hil:i<xs.length:=(Mq.1 hi).1
 rcases hG.2.2 with⟨_,a⟩|⟨r,cap,cs,rs,gb,g,h,hr,hl,hc⟩
 ·rw[a]at hil;simp at hil
 ·subst g h
  obtain⟨c,u,j,a⟩:=hr.get hi
  obtain⟨pre,cs',y,l,m,b⟩:=hf.at_ _ _ _ a
  have n:cs'.length=1:=(Dat.len b).trans (Dat.one ha)
  match cs',n with
  | [w],_ =>
   refine⟨w,⟨[w],b,by unfold Vu;rw[ha];rfl⟩,Hv hT hx (hsub _ mC) ?_⟩
   have q:cs.drop off=[w]++(y++u):=by rw[ho,←Awi,j,l,←m,lZ9,Bci,lZ9]
   have f:cs[off]?=some w:=by
    have:=congrArg (·[0]?) q
    simpa using this
   rw[Alt (Mq.1 f).1,f]
end
section
variable{P:Program}{ρ₀:Ro}{A:Own}{e:Env}{ty t t':TypeId}{x y:Operand}{v w:Value}{xs:List Sale}{i:Nat}{gr:Own}
end
section
variable{C:Ctx}{e:Env}{ds:List Deferred}{ρ:Ro}{σ:Own}{K:Value→List Deferred→Ro→Own→Prop}{rd:Option Nat}{dd:Option Tmp}
variable{ty:TypeId}{pos:String}{af:Array Edge}{g:Option (Nat×Bool)}{x y:Operand}{v w w':Value}{t t':TypeId}{xs:List Sale}{i:Nat}{gr:Own}
end
theorem Qj{P ρ₀ A e op ty}{F:Value→Prop}(h:∃v,F v∧Yld P ρ₀ e op ty v):∃v,F v∧Abx P ρ₀ A e op ty v:=let ⟨v,h1,h2⟩:=h;⟨v,h1,h2.o⟩
theorem Lg{C b}{l₀:List Oper}{Q e ds ρ ρ₀ σ σ' A pz fuel}{li:List Bool}(hp:σ.Perm σ')(h:El C b l₀.toArray Q pz (leO ρ₀ A) (fuel+1) li.toArray e ds ρ σ'):El C b l₀.toArray Q pz (leO ρ₀ A) (fuel+1) li.toArray e ds ρ σ :=
 Att (Cai hp) (fun hS=>⟨hS.1,fun p hm=>hp.mem_iff.1 (hS.2 p hm)⟩) h
theorem Bin{α:Type}[Dat α]{ρ:Ro}{el:TypeId}{v:Value}{xs:List α}{gr:Own}{i:Nat}{z:α}(hG:Grow ρ el v xs gr)(hi:xs[i]?=some z):∃cs,Dat.rep ρ cs z:=by
 rcases hG.2.2 with⟨_,a⟩|⟨r,cap,cs,rs,gb,b,d,hr,_⟩
 ·subst a;simp at hi
 ·obtain⟨c,e,_,a⟩:=hr.get hi;exact⟨c,a⟩
theorem Avt{ρ el v xs gr}{i:Nat}{z}(hG:Grow ρ el v xs gr)(hi:xs[i]?=some z):I64 z:=let ⟨_,h⟩:=Bin hG hi;h.2
section
variable{P:Program}{ρ₀ ρ:Ro}{A:Own}{e:Env}{ty t t':TypeId}{x y:Operand}{v:Value}
theorem Ayb{off i xs z gr el}(hG:Grow ρ₀ el v xs gr)(hsub:∀p∈gr,p∈A)(hi:xs[i]?=some z)(hT:∃d,P.underlying t=some d∧Qv d=false)(hx:Af e x = .pointer (some ⟨Ahx v,off,none⟩))(ho:off=i*Dat.k Int):Abx P ρ₀ A e (.load t x) ty (.int .i64 z):=by
 obtain⟨w,a,b⟩:=Bpy (ty:=ty) Fld.self rfl hG hsub hi hT hx (o:=0) (by rw[ho];rfl)
 obtain⟨rfl,_⟩:=Cv.1 a
 exact b
end
theorem Pp{α}[Dat α]{C b}{l₀:List Oper}{Q e ds ρ ρ₀ σ A pz fuel}{li:List Bool}{v el}{xs:List α}{gr}(hg:Grow ρ el v xs gr)(hA:∀p∈A,p∈σ)(h:∀ρ',Ro.le ρ ρ'→Val ρ' v xs→El C b l₀.toArray Q pz (leO ρ₀ A) (fuel+1) li.toArray e ds ρ' σ):El C b l₀.toArray Q pz (leO ρ₀ A) (fuel+1) li.toArray e ds ρ (gr++σ):=by
 rcases hg.2.2 with⟨a,c⟩|⟨r,cap,cs,rs,gb,a,c,d,g,f⟩
 ·refine Att (drops hg.1) (fun hS=>⟨hS.1,hA⟩) (h ρ .refl ?_)
  rw[a,c];exact Gx
 ·subst c
  by_cases hb:ρ r=none
  ·have hle:Ro.le ρ (ρ.add r (.cells (cs++rs).toArray el (0,0))):=fun x ox hx=>by
    unfold Ro.add;rw[if_neg (fun e=>by rw[e,hb]at hx;cases hx)];exact hx
   show El C b l₀.toArray Q pz (leO ρ₀ A) (fuel+1) li.toArray e ds ρ ((r,_)::(gb++σ))
   exact Att ((Ghost.freeze hb).trans (drops fun p hp=>hg.1 p (lZ7 _ hp))) (fun hS=>⟨hS.1.trans hle,hA⟩) (h _ hle (Grow.val (rs:=rs) (el:=el) hg.2.1 a (d.mono hle) f (by simp[Ro.add])))
  ·exact .inl fun W hs=>absurd (hs.dj r mC) hb
end
section
open Go
theorem Gv{σ k o}(h:Jp σ):Jp ((k,Res.obj o)::σ):=fun c vs hm=>by
 rcases Nc.1 hm with e|hm
 ·injection e with _ e;cases e
 ·exact h c vs hm
theorem Gp{α}[Dat α]{ρ el v}{xs:List α}{gr σ}(hG:Grow ρ el v xs gr)(h:Jp σ):Jp (gr++σ):=fun c vs hm=>by
 rcases Of.1 hm with hm|hm
 ·obtain⟨o,ho⟩:=hG.1 _ hm
  cases ho
 ·exact h c vs hm
end
end Go.Proofs.YtninnkechkolnaaGreatDoor
