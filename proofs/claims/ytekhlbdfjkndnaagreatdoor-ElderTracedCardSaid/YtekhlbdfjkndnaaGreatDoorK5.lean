/- Part 5 of what all laws of layer 8 need: a logic of programs that start goroutines, and what the functions yield. -/
import Derived.Test.YtekhlbdfjkndnaaGreatDoorK4
set_option linter.unusedVariables false
set_option linter.unusedSimpArgs false
set_option maxRecDepth 100000
set_option maxHeartbeats 4000000
namespace Go.Proofs.YtekhlbdfjkndnaaGreatDoor
noncomputable section
section
open Go
section
variable{P:Program}{R:XR}{e:Tr CV}{e':Env}{m m':Mem}{x:CV}{Y:Ro}{Z Z9:Own}
def Zq:OR->Prop
 | .v _ _=>True
 | .rd _ _=>True
 | .bad=>True
 | _=>False
def simpleRd:OR->Prop
 | .v _ _=>True
 | .bad=>True
 | _=>False
theorem simpleRd.s{y}(h:simpleRd y):Zq y:=by cases y<;>first|trivial|exact h.elim
theorem simpleRd.r{y}(h:simpleRd y):Bxt y:=by cases y<;>first|trivial|exact h.elim
theorem Bfu(n:Nat)(args:List CV)(m:Mem):simpleRd ((appendK n).run args m):=by
 unfold appendK;dsimp only
 repeat' (first|trivial|split)
theorem Bfv(n:Nat)(z args:List CV)(m:Mem):simpleRd ((appendZ n z).run args m):=by
 unfold appendZ;dsimp only
 repeat' (first|trivial|split)
theorem Bjh(n k off ln:Nat)(kn:Bool)(c l:Nat)(h q:Option Nat)(m:Mem):Zq (xSliceM n k off ln kn c l h q m):=by
 unfold xSliceM
 repeat' (first|trivial|(dsimp only;split)|split)
theorem Azi(b:Builtin)(ts:List TypeId)(args:List CV)(m:Mem):simpleRd ((builtinK P b ts).run args m):=by
 unfold builtinK;split
 all_goals repeat' (first|trivial|exact Bfu _ _ _|exact Bfv _ _ _ _|(dsimp only;split)|split)
def Blp:Op->Bool
 | .call {callee:=.value _,..}=>true
 | .go _ | .defer _ | .send .. | .recv ..=>true
 | _=>false
def reads:Op->Bool
 | .load .. | .lookup .. | .slice ..=>true
 | _=>false
theorem Bes(o:Op)(h1:Blp o=false)(h2:reads o=false)(e:Tr CV)(m:Mem):simpleRd ((opK P o).run e m):=by
 cases o with
 | call c =>
  obtain⟨cal,az,ts⟩:=c;cases cal with
  | value f=>cases h1
  | builtin b=>exact Azi _ _ _ _
  | invoke r n=>trivial
 | go c=>cases h1
 | defer c=>cases h1
 | send a b=>cases h1
 | recv t a ok=>cases h1
 | load t a=>cases h2
 | lookup t a y ok=>cases h2
 | unOp op t a=>cases op<;>(unfold opK;repeat' (first|trivial|(dsimp only;split)|split))
 | makeFunc f xs ys=>cases f<;>(unfold opK;repeat' (first|trivial|(dsimp only;split)|split))
 | makeMap t r=>cases r<;>(unfold opK;repeat' (first|trivial|(dsimp only;split)|split))
 | slice t a lo hi mx=>cases h2
 | extract a i =>
  unfold opK;dsimp only;split
  ·unfold xVOf;split<;>trivial
  ·trivial
 | _=>unfold opK;repeat' (first|trivial|(dsimp only;split)|split)
theorem Bbh(o:Op):Aux P o:=by
 by_cases h2:reads o=true
 ·cases o with
  | load t a=>exact Bgy t a
  | lookup t a y ok=>exact Awd t a y ok
  | slice t a lo hi mx=>exact Awe t a lo hi mx
  | _=>cases h2
 ·by_cases d:Blp o=true
  ·refine Afx fun e m=>?_;cases o with
   | call c =>
    obtain⟨cal,az,ts⟩:=c;cases cal with
    | value f =>
     rcases Ol (P:=P) (e:=e) (m:=m) (f:=f) (az:=az) (ts:=ts) rfl with⟨g,ex,v,_,_,_,d⟩|d|d
     ·rw[d];trivial
     ·rw[d];trivial
     ·rw[<-d];exact Alf _ _
    | builtin b=>cases d
    | invoke r n=>cases d
   | go c=>unfold opK;dsimp only;split<;>trivial
   | defer c=>unfold opK;dsimp only;split<;>first|trivial|(dsimp only;split<;>trivial)
   | send a b=>unfold opK;dsimp only;split<;>trivial
   | recv t a ok=>unfold opK;dsimp only;repeat' (first|trivial|(dsimp only;split)|split)
   | _=>cases d
  ·exact Afx fun e m=>(Bes o (by simpa using d) (by simpa using h2) e m).r
theorem Aao{o}(h:¬Zq ((opK P o).run e m)):Blp o=true:=by
 by_cases h1:Blp o=true
 ·exact h1
 ·by_cases h2:reads o=true
  ·exfalso;apply h;cases o with
   | load t a =>
    show Zq (loadM P t ((rdK a).run e) m);unfold loadM
    repeat' (first|trivial|split)
   | lookup t a y ok =>
    unfold opK;dsimp only;split
    ·split
     ·rename_i mk z _ _;show Zq (lookM mk z ok ((rdK a).run e) ((rdK y).run e) m);unfold lookM
      repeat' (first|trivial|split)
     ·trivial
    ·trivial
   | slice t a lo hi mx=>unfold opK;repeat' (first|trivial|exact Bjh .. | (dsimp only;split)|split)
   | _=>cases h2
  ·exact absurd (Bes o (by simpa using h1) (by simpa using h2) e m).s h
theorem Qg{f args y}(h:callK P f args=y)(hb:y ≠ .bad):
  (∃g xs ys,f = .f g xs ys/\xHasBody P g=true/\y = .enter g (xApp xs (xApp args ys)))∨(∃k,f = .y k/\y = .round k args):=by
 cases f with
 | f g xs ys =>
  have h':(match xHasBody P g with|true=>OR.enter g (xApp xs (xApp args ys))|false=>.bad)=y:=h;split at h'
  ·rename_i hb;exact .inl ⟨g,xs,ys,rfl,hb,h'.symm⟩
  ·exact absurd h'.symm hb
 | y k=>exact .inr ⟨k,rfl,h.symm⟩
 | _=>exact absurd h.symm hb
theorem Xj{g}(h:xHasBody P g=true):∃fn,P.funcs[g]?=some fn/\(fn.name == "runtime.NumGoroutine")=false/\fn.body.isNone=false:=by
 unfold xHasBody at h;split at h
 ·rename_i fn hf;split at h
  ·cases h
  ·rename_i hn;refine⟨fn,hf,hn,?_⟩;cases hb:fn.body with
   | none=>rw[hb]at h;cases h
   | some c=>rfl
 ·cases h
theorem Bqm{v g xs ys}(h:V1 R (.f g xs ys) v):∃xs' ys',VR R xs xs'/\VR R ys ys'/\v = .func (.func g) xs'.toArray ys'.toArray:=by cases h with|f g h1 h2 _=>exact⟨_,_,h1,h2,rfl⟩
theorem Cdf{v k}(h:V1 R (.y k) v):∃b c,R k=some (b,c)/\v = .func (.yield b) #[] #[]:=by cases h with|y h1 _=>exact⟨_,_,h1,rfl⟩
theorem Bhz{o f args}(he:EnvR R e e')(hg:Pe R)(h:(opK P o).run e m = .enter f args):
  ∃args',VR R args args'/\∀(Q:Next->Own->Prop) Y Z dd ty pos af g,Q (.enter f args'.toArray) Z->wpS P Y (execOp (Af e') ⟨dd,o,ty,pos,af,g⟩) Z Q:=by
 have hh:=Aao (P:=P) (o:=o) (e:=e) (m:=m) (by rw[h];exact id);cases o with
 | call c =>
  obtain⟨cal,ops,tys⟩:=c;cases cal with
  | value x =>
   have h':callK P ((rdK x).run e) ((rdsK ops.toList).run e) = .enter f args:=by
    rcases Ol h with⟨_,_,_,_,_,_,i⟩|i|i
    ·cases i
    ·cases i
    ·exact i
   have hx:=Dy he hg x;have ha:=Aax he hg ops.toList;rcases Qg h' (by simp) with⟨g,xs,ys,i,q,j⟩|⟨k,_,j⟩
   ·cases j;rw[i]at hx;obtain⟨xs',ys',u,v,hv⟩:=Bqm hx;obtain⟨fn,hf,hn,hb⟩:=Xj q;refine⟨xs'++(ops.toList.map (Af e')++ys'),?_,fun Q Y Z dd ty pos af gd hQ=>?_⟩
    ·rw[Me,Me];exact u.app (ha.app v)
    ·show wpS P Y ((Deferred.ofValue (Af e' x) (ops.map (Af e'))).bind fun d=>invoke d.target d.args) Z Q;rw[hv];show wpS P Y (callFunc f ((xs'.toArray++ops.map (Af e'))++ys'.toArray)) Z Q;refine Mr hf hn hb ?_;have p:(xs'.toArray++ops.map (Af e'))++ys'.toArray=(xs'++(ops.toList.map (Af e')++ys')).toArray:=by
      apply Array.ext';simp
     rw[p];exact hQ
   ·cases j
  | builtin b=> cases hh
  | invoke r n=>cases hh
 | go c=>exfalso;unfold opK at h;dsimp only at h;split at h<;>cases h
 | defer c =>
  exfalso;unfold opK at h;dsimp only at h;split at h
  ·dsimp only at h;split at h<;>cases h
  ·cases h
 | send a b=>exfalso;unfold opK at h;dsimp only at h;split at h<;>cases h
 | recv t a ok =>
  exfalso;unfold opK at h;dsimp only at h;split at h
  ·split at h
   ·dsimp only at h;split at h<;>cases h
   ·cases h
  ·cases h
 | _=>cases hh
theorem Bia{o k args}(he:EnvR R e e')(hg:Pe R)(h:(opK P o).run e m = .round k args):
  ∃args' b c,R k=some (b,c)/\VR R args args'/\∀(Q:Next->Own->Prop) Y Z dd ty pos af g,wpS P Y (Instr.yield b args'.toArray) Z Q->wpS P Y (execOp (Af e') ⟨dd,o,ty,pos,af,g⟩) Z Q:=by
 have hh:=Aao (P:=P) (o:=o) (e:=e) (m:=m) (by rw[h];exact id);cases o with
 | call c =>
  obtain⟨cal,ops,tys⟩:=c;cases cal with
  | value x =>
   have h':callK P ((rdK x).run e) ((rdsK ops.toList).run e) = .round k args:=by
    rcases Ol h with⟨_,_,_,_,_,_,f⟩|f|f
    ·cases f
    ·cases f
    ·exact f
   have hx:=Dy he hg x;have ha:=Aax he hg ops.toList;rcases Qg h' (by simp) with⟨g,xs,ys,f,p,i⟩|⟨q,f,i⟩
   ·cases i
   ·cases i;rw[f]at hx;obtain⟨b,c,hR,hv⟩:=Cdf hx;refine⟨ops.toList.map (Af e'),b,c,hR,ha,fun Q Y Z dd ty pos af gd hQ=>?_⟩;show wpS P Y ((Deferred.ofValue (Af e' x) (ops.map (Af e'))).bind fun d=>invoke d.target d.args) Z Q;rw[hv];show wpS P Y (Instr.yield b (#[]++ops.map (Af e'))) Z Q;have j:(#[]++ops.map (Af e'))=(ops.toList.map (Af e')).toArray:=by
     apply Array.ext';simp
    rw[j];exact hQ
  | builtin b=>cases hh
  | invoke r n=>cases hh
 | go c=>exfalso;unfold opK at h;dsimp only at h;split at h<;>cases h
 | defer c =>
  exfalso;unfold opK at h;dsimp only at h;split at h
  ·dsimp only at h;split at h<;>cases h
  ·cases h
 | send a b=>exfalso;unfold opK at h;dsimp only at h;split at h<;>cases h
 | recv t a ok =>
  exfalso;unfold opK at h;dsimp only at h;split at h
  ·split at h
   ·dsimp only at h;split at h<;>cases h
   ·cases h
  ·cases h
 | _=>cases hh
theorem Bol{o f args}(h:(opK P o).run e m = .go f args):
  ∃x ops tys,o = .go ⟨.value x,ops,tys⟩/\f=(rdK x).run e/\args=(rdsK ops.toList).run e:=by
 have hh:=Aao (P:=P) (o:=o) (e:=e) (m:=m) (by rw[h];exact id);cases o with
 | go c =>
  obtain⟨cal,ops,tys⟩:=c;cases cal with
  | value x =>
   have h':OR.go ((rdK x).run e) ((rdsK ops.toList).run e) = .go f args:=h;cases h';exact⟨x,ops,tys,rfl,rfl,rfl⟩
  | builtin b=>cases h
  | invoke r n=>cases h
 | call c =>
  exfalso;obtain⟨cal,ops,tys⟩:=c;cases cal with
  | value x =>
   have h':callK P ((rdK x).run e) ((rdsK ops.toList).run e) = .go f args:=by
    rcases Ol h with⟨_,_,_,_,_,_,d⟩|d|d
    ·cases d
    ·cases d
    ·exact d
   rcases Qg h' (by simp) with⟨_,_,_,_,_,g⟩|⟨_,_,g⟩<;>cases g
  | builtin b=>cases hh
  | invoke r n=>cases hh
 | defer c =>
  exfalso;unfold opK at h;dsimp only at h;split at h
  ·dsimp only at h;split at h<;>cases h
  ·cases h
 | send a b=>exfalso;unfold opK at h;dsimp only at h;split at h<;>cases h
 | recv t a ok =>
  exfalso;unfold opK at h;dsimp only at h;split at h
  ·split at h
   ·dsimp only at h;split at h<;>cases h
   ·cases h
  ·cases h
 | _=>cases hh
theorem Axr{o k ok}(h:(opK P o).run e m = .recv k ok):
  ∃t x d el z,o = .recv t x ok/\P.underlying t=some (.chan d el)/\Fw P el z/\(rdK x).run e = .c k:=by
 have hh:=Aao (P:=P) (o:=o) (e:=e) (m:=m) (by rw[h];exact id);cases o with
 | recv t a ok' =>
  unfold opK at h;dsimp only at h;split at h
  ·rename_i d el hT;split at h
   ·rename_i z hz;dsimp only at h;split at h
    ·rename_i k1 hk;cases h;obtain⟨v,hv,_⟩:=Rf hz;exact⟨t,a,d,el,v,rfl,hT,hv,hk⟩
    ·cases h
   ·cases h
  ·cases h
 | call c =>
  exfalso;obtain⟨cal,ops,tys⟩:=c;cases cal with
  | value x =>
   have h':callK P ((rdK x).run e) ((rdsK ops.toList).run e) = .recv k ok:=by
    rcases Ol h with⟨_,_,_,_,_,_,f⟩|f|f
    ·cases f
    ·cases f
    ·exact f
   rcases Qg h' (by simp) with⟨_,_,_,_,_,g⟩|⟨_,_,g⟩<;>cases g
  | builtin b=>cases hh
  | invoke r n=>cases hh
 | defer c =>
  exfalso;unfold opK at h;dsimp only at h;split at h
  ·dsimp only at h;split at h<;>cases h
  ·cases h
 | send a b=>exfalso;unfold opK at h;dsimp only at h;split at h<;>cases h
 | go c=>exfalso;unfold opK at h;dsimp only at h;split at h<;>cases h
 | _=>cases hh
theorem Bom{o k x}(h:(opK P o).run e m = .send k x):
  ∃a b,o = .send a b/\(rdK a).run e = .c k/\(rdK b).run e=x:=by
 have hh:=Aao (P:=P) (o:=o) (e:=e) (m:=m) (by rw[h];exact id);cases o with
 | send a b =>
  unfold opK at h;dsimp only at h;split at h
  ·rename_i k1 hk;cases h;exact⟨a,b,rfl,hk,rfl⟩
  ·cases h
 | recv t a ok =>
  exfalso;unfold opK at h;dsimp only at h;split at h
  ·split at h
   ·dsimp only at h;split at h<;>cases h
   ·cases h
  ·cases h
 | call c =>
  exfalso;obtain⟨cal,ops,tys⟩:=c;cases cal with
  | value y =>
   have h':callK P ((rdK y).run e) ((rdsK ops.toList).run e) = .send k x:=by
    rcases Ol h with⟨_,_,_,_,_,_,d⟩|d|d
    ·cases d
    ·cases d
    ·exact d
   rcases Qg h' (by simp) with⟨_,_,_,_,_,f⟩|⟨_,_,f⟩<;>cases f
  | builtin b=>cases hh
  | invoke r n=>cases hh
 | defer c =>
  exfalso;unfold opK at h;dsimp only at h;split at h
  ·dsimp only at h;split at h<;>cases h
  ·cases h
 | go c=>exfalso;unfold opK at h;dsimp only at h;split at h<;>cases h
 | _=>cases hh
theorem Bbg{o x}(h:(opK P o).run e m = .dclose x):
  ∃t tys,o = .defer ⟨.builtin .close,#[.tmp t],tys⟩/\e.get t=some x:=by
 have hh:=Aao (P:=P) (o:=o) (e:=e) (m:=m) (by rw[h];exact id);cases o with
 | defer c =>
  obtain⟨cal,ops,tys⟩:=c;unfold opK at h;dsimp only at h;split at h
  ·rename_i t ho;dsimp only at h;split at h
   ·rename_i y hy;cases h;refine⟨t,tys,?_,hy⟩;have:ops = #[.tmp t]:=by apply Array.ext';simpa using ho
    rw[this]
   ·cases h
  ·cases h
 | recv t a ok =>
  exfalso;unfold opK at h;dsimp only at h;split at h
  ·split at h
   ·dsimp only at h;split at h<;>cases h
   ·cases h
  ·cases h
 | call c =>
  exfalso;obtain⟨cal,ops,tys⟩:=c;cases cal with
  | value y =>
   have h':callK P ((rdK y).run e) ((rdsK ops.toList).run e) = .dclose x:=by
    rcases Ol h with⟨_,_,_,_,_,_,d⟩|d|d
    ·cases d
    ·cases d
    ·exact d
   rcases Qg h' (by simp) with⟨_,_,_,_,_,f⟩|⟨_,_,f⟩<;>cases f
  | builtin b=>cases hh
  | invoke r n=>cases hh
 | send a b=>exfalso;unfold opK at h;dsimp only at h;split at h<;>cases h
 | go c=>exfalso;unfold opK at h;dsimp only at h;split at h<;>cases h
 | _=>cases hh
end
end
section
open Go
def xOkL(l:List CV):Bool:=CV.rec_1 (motive_1:=fun _=>Bool) (motive_2:=fun _=>Bool) false (fun _=>true) (fun _ _=>true) (fun _=>true) true (fun _ _=>true) true (fun _ _ _ _ _=>true) true (fun _=>true) true (fun _=>true) true (fun _ _ _ a b=>a&&b) (fun _=>true) true (fun _ _ a=>a) (fun _ a=>a) (fun _ a=>a) true (fun _ _ a b=>a&&b) l
theorem Tw(a:CV)(l:List CV):xOkL (a::l)=(xOkV a&&xOkL l):=rfl
theorem Bzo(g:Nat)(xs ys:List CV):xOkV (.f g xs ys)=(xOkL xs&&xOkL ys):=rfl
theorem Bzn(t:Nat)(v:CV):xOkV (.a t v)=xOkV v:=rfl
theorem Bzp(l:List CV):xOkV (.g l)=xOkL l:=rfl
theorem Bzq(l:List CV):xOkV (.t l)=xOkL l:=rfl
theorem VR.uniq{R l v}(h:VR R l v):∀{v':List Value},VR R l v'->xOkL l=true->v=v':=by
 induction h with
 | nil=>intro v' h' _;cases h';rfl
 | bad _ _ ih=>intro v' h' hk;cases hk
 | b x _ ih=>intro v' h' hk;cases h' with|b _ h'=>rw[ih h' hk]
 | i k n _ ih=>intro v' h' hk;cases h' with|i _ _ h'=>rw[ih h' hk]
 | s x _ ih=>intro v' h' hk;cases h' with|s _ h'=>rw[ih h' hk]
 | pn _ ih=>intro v' h' hk;cases h' with|pn h'=>rw[ih h' hk]
 | p h1 _ ih=>intro v' h' hk;cases h' with|p h2 h'=>rw[h1]at h2;cases h2;rw[ih h' hk]
 | sn _ ih=>intro v' h' hk;cases h' with|sn h'=>rw[ih h' hk]
 | slK h1 _ ih=>intro v' h' hk;cases h' with|slK h2 h'=>rw[h1]at h2;cases h2;rw[ih h' hk]
 | slU h1 _ ih=>intro v' h' hk;cases h' with|slU h2 h'=>rw[h1]at h2;cases h2;rw[ih h' hk]
 | mn _ ih=>intro v' h' hk;cases h' with|mn h'=>rw[ih h' hk]
 | m h1 _ ih=>intro v' h' hk;cases h' with|m h2 h'=>rw[h1]at h2;cases h2;rw[ih h' hk]
 | cn _ ih=>intro v' h' hk;cases h' with|cn h'=>rw[ih h' hk]
 | c h1 _ ih=>intro v' h' hk;cases h' with|c h2 h'=>rw[h1]at h2;cases h2;rw[ih h' hk]
 | fn _ ih=>intro v' h' hk;cases h' with|fn h'=>rw[ih h' hk]
 | f g h1 h2 h3 ih1 ih2 ih3 =>
  intro v' h' hk;rw[Tw,Bzo,Pc,Pc]at hk;cases h' with|f _ g1 g2 g3=>rw[ih1 g1 hk.1.1,ih2 g2 hk.1.2,ih3 g3 hk.2]
 | y h1 _ ih=>intro v' h' hk;cases h' with|y h2 h'=>rw[h1]at h2;cases h2;rw[ih h' hk]
 | n _ ih=>intro v' h' hk;cases h' with|n h'=>rw[ih h' hk]
 | a t h1 h2 ih1 ih2 =>
  intro v' h' hk;rw[Tw,Bzn,Pc]at hk;cases h' with|a _ g1 g2 =>
   have:=ih1 g1 (by rw[Tw,hk.1];rfl);cases this;rw[ih2 g2 hk.2]
 | g h1 h2 ih1 ih2 =>
  intro v' h' hk;rw[Tw,Bzp,Pc]at hk;cases h' with|g g1 g2=>rw[ih1 g1 hk.1,ih2 g2 hk.2]
 | t h1 h2 ih1 ih2 =>
  intro v' h' hk;rw[Tw,Bzq,Pc]at hk;cases h' with|t g1 g2=>rw[ih1 g1 hk.1,ih2 g2 hk.2]
theorem V1.uniq{R x v v'}(h:V1 R x v)(h':V1 R x v')(hk:xOkV x=true):v=v':=by have:=VR.uniq h h' (by rw[Tw,hk];rfl);cases this;rfl
def plainV:CV->Value
 | .b x=>.bool x
 | .i k n=>.int k n
 | .s x=>.string ⟨x.toArray⟩
 | _=>undef
theorem Box{R x v}(hx:xPlainV x=true)(h:V1 R x v):v=plainV x:=by
 cases x with
 | b y=>cases h;rfl
 | i k n=>cases h;rfl
 | s y=>cases h;rfl
 | _=>cases hx
theorem Bow(R:XR){x}(hx:xPlainV x=true):V1 R x (plainV x):=by
 cases x with
 | b y=>exact .b _ .nil
 | i k n=>exact .i _ _ .nil
 | s y=>exact .s _ .nil
 | _=>cases hx
theorem Axv(R:XR):∀{l:List CV},(∀x∈l,xPlainV x=true)->VR R l (l.map plainV)
 | [],_=>.nil
 | x::l,h=>VR.cons_iff.2 ⟨Bow R (h x mC),Axv R fun y hy=>h y (lZ0 _ hy)⟩
end
section
open Go Go.Conc
structure Kept(m m':Mem):Prop where
 nx:m.nx<=m'.nx
 ex:∃w,m'.log=w++m.log/\m'.ln=m.ln+w.length/\∀k,k<m.nx->k∉w->m'.obj k=m.obj k
 outs:∃w,m'.outs=w++m.outs/\∀x∈w,xPlainV x=true
theorem Anr{m m':Mem}{k}(h:m'.M.get k=m.M.get k):m'.obj k=m.obj k:=by unfold Mem.obj;rw[h]
theorem LogOk.kept{m m'}(h:LogOk m m'):Kept m m' :=
 ⟨h.nx,let ⟨w,h1,h2,h3⟩:=h.ex;⟨w,h1,h2,fun k hk hn=>Anr (h3 k hk hn)⟩,[],by rw[h.outs];rfl,by simp⟩
theorem Kept.refl(m:Mem):Kept m m:=(LogOk.refl m).kept
theorem Kept.trans{m m' m''}(h:Kept m m')(h':Kept m' m''):Kept m m'':=by
 obtain⟨w,a,b,c⟩:=h.ex;obtain⟨w',d,e,f⟩:=h'.ex;obtain⟨u,g,i⟩:=h.outs;obtain⟨u',j,n⟩:=h'.outs;refine⟨Tj h.nx h'.nx,⟨w'++w,by rw[d,a,lZ9],by rw[e,b,lZ4];omega,fun k hk hn=>?_⟩,u'++u,by rw[j,g,lZ9],fun x hx=>?_⟩
 ·rw[f k (Pa hk h.nx) (fun hm=>hn (Iz _ hm)),c k hk (fun hm=>hn (lZ5 _ hm))]
 ·exact(Gv.1 hx).elim (n x) (i x)
theorem Kept.rest{m m'}(h:Kept m m'):Kept m (xRest m' m.outs):=⟨h.nx,h.ex,[],rfl,by simp⟩
structure GoT(C:Ctx) where
 Go:List CV->Frame->List Frame->Ro->Own->Prop
 suf:List CV->Prop
 bind:∀{o S fr cs Y Z},GoesH C S fr cs Y Z->(∀fr cs Y Z,S fr cs Y Z->Go o fr cs Y Z)->Go o fr cs Y Z
 less:∀w o,suf (w++o)->suf o
 rk:XR->Prop
 rkm:∀R R',XR.le R R'->rk R->rk R'
def goT(C:Ctx)(S:Cy):GoT C:=⟨fun _=>GoesH C S,fun _=>True,fun h hk=>h.bind hk,fun _ _ h=>h,fun _=>True,fun _ _ _ h=>h⟩
def Ayj(P:Program)(c kc:Nat)(fin:List CV):GoT (Wn P) :=
  ⟨fun o fr cs Y Z => ∀l, fin=l++o -> SendI P c (l.reverse.map plainV) fr cs Y Z, fun o => ∃l, fin=l++o, fun h hk l hl => SendI.of_goes h fun fr cs Y Z hs => hk fr cs Y Z hs l hl,
   fun w o ⟨l,h⟩=>⟨l++w,by rw[h,lZ9]⟩,
   fun R=>∃cc,R kc=some (c,cc),fun _ _ hR ⟨cc,h⟩=>⟨cc,hR _ _ h⟩⟩
section
variable{C:Ctx}{G:GoT C}{o o' o1:List CV}{fr fr':Frame}{cs cs':List Frame}{Y:Ro}{Z:Own}
theorem GoT.less_of(G:GoT C){m m'}(h:Kept m m')(hs:G.suf m'.outs):G.suf m.outs:=by obtain⟨w,a,_⟩:=h.outs;rw[a]at hs;exact G.less w _ hs
theorem GoT.move(G:GoT C)(h:∀W,stepG C.P C.main (Conc.G fr cs) W = .go (Conc.G fr' cs') W #[])(hk:G.Go o fr' cs' Y Z):G.Go o fr cs Y Z :=
 G.bind (Eh h (.stop (S:=fun a b c d=>a=fr'/\b=cs'/\c=Y/\d=Z) ⟨rfl,rfl,rfl,rfl⟩)) (by rintro _ _ _ _ ⟨rfl,rfl,rfl,rfl⟩;exact hk)
end
def Reach{C:Ctx}(G:GoT C)(b:FB)(n:Nat)(c:Code)(o:List CV)(e:Env)(ds:List Deferred)(Y:Ro)(Z:Own)(ex:Ex)(o':List CV)(Q:Env->List Deferred->Ro->Own->Prop):Prop :=
 ∀tm k cs,EnvOf n tm e->(∀tm' e' ds' Y' Z' todo,EnvOf n tm' e'->Q e' ds' Y' Z'->Pl ex k todo->G.Go o' (Fr b tm' ds' todo) cs Y' Z')->G.Go o (Fr b tm ds (.code c::k)) cs Y Z
section
variable{C:Ctx}{G:GoT C}{b:FB}{n:Nat}{o o1 o':List CV}{e:Env}{ds:List Deferred}{Y:Ro}{Z:Own}{ex:Ex}{Q Q':Env->List Deferred->Ro->Own->Prop}
theorem Reach.mono{c}(h:Reach G b n c o e ds Y Z ex o' Q)(hq:∀e ds Y Z,Q e ds Y Z->Q' e ds Y Z):Reach G b n c o e ds Y Z ex o' Q' :=
 fun tm k cs ht hk=>h tm k cs ht fun tm' e' ds' Y' Z' i d f g=>hk tm' e' ds' Y' Z' i d (hq _ _ _ _ f) g
theorem Reach.wp{S:Cy}{c Q}(h:∀S:Cy,Reach (goT C S) b n c o e ds Y Z ex o' (fun e ds Y Z=>Q ex e ds Y Z)):WpC C b n c Q e ds Y Z:=fun tm k cs ht =>
 h _ tm k cs ht fun tm' e' ds' Y' Z' g a d f=>.stop (.inl ⟨rfl,ex,tm',e',ds',g,a,d,f,rfl⟩)
theorem Reach.of_wp{c}(h:WpC C b n c (fun ex' e ds Y Z=>ex'=ex/\Q e ds Y Z) e ds Y Z):Reach G b n c o e ds Y Z ex o Q:=fun tm k cs ht hk =>
 G.bind (h.stops tm k cs ht) (by rintro _ _ _ _ ⟨rfl,ex,tm',e',ds',g,a,⟨rfl,d⟩,f,rfl⟩;exact hk _ _ _ _ _ _ a d f)
theorem Byn(h:Q e ds Y Z):Reach G b n .skip o e ds Y Z .normal o Q:=fun tm k cs ht hk =>
 G.move (fr':=Fr b tm ds k) (cs':=cs) (fun W=>by simp[Conc.G,stepG,stepG.exec,Fr]) (hk tm e ds Y Z k ht h rfl)
theorem Cbk(h:Q e ds Y Z):Reach G b n .ret o e ds Y Z .ret o Q:=fun tm k cs ht hk=>hk tm e ds Y Z _ ht h ⟨[],rfl⟩
theorem Byk{id}(h:Q e ds Y Z):Reach G b n (.exit id) o e ds Y Z (.exit id) o Q:=fun tm k cs ht hk=>hk tm e ds Y Z _ ht h ⟨[],by simp,rfl⟩
theorem Cbl{x y}(h:Reach G b n x o e ds Y Z .normal o1 (fun e ds Y Z=>Reach G b n y o1 e ds Y Z ex o' Q)):Reach G b n (.seq x y) o e ds Y Z ex o' Q:=fun tm k cs ht hk=>by
 refine G.move (fr':=Fr b tm ds (.code x :: .code y::k)) (cs':=cs) (fun W=>by simp[Conc.G,stepG,stepG.exec,Fr]) ?_;refine h tm (.code y::k) cs ht fun tm' e' ds' Y' Z' f a c d=>?_;cases d;exact c tm' k cs a hk
theorem Bym{x y}(hx:ex ≠ .normal)(h:Reach G b n x o e ds Y Z ex o' Q):Reach G b n (.seq x y) o e ds Y Z ex o' Q:=fun tm k cs ht hk=>by
 refine G.move (fr':=Fr b tm ds (.code x :: .code y::k)) (cs':=cs) (fun W=>by simp[Conc.G,stepG,stepG.exec,Fr]) ?_;exact h tm (.code y::k) cs ht fun tm' e' ds' Y' Z' f a c d=>hk _ _ _ _ _ _ a c (He hx (fun _=>rfl) d)
theorem Bpg{q x y t}(hc:Af e q = .bool t)(h1:t=true->Reach G b n x o e ds Y Z ex o' Q)(h0:t=false->Reach G b n y o e ds Y Z ex o' Q):Reach G b n (.cond q x y) o e ds Y Z ex o' Q:=fun tm k cs ht hk=>by
 have hev:(Fr b tm ds (.code (.cond q x y)::k)).eval q = .bool t:=by rw[ht.eval];exact hc
 refine G.move (fr':=Fr b tm ds (.code (if t then x else y)::k)) (cs':=cs) (fun W=>?_) ?_
 ·simp only[Fr]at hev;simp[Conc.G,stepG,stepG.exec,Fr,hev]
 ·cases t with
  | true=>exact h1 rfl tm k cs ht hk
  | false=>exact h0 rfl tm k cs ht hk
theorem Bug{id x}(h:Reach G b n x o e ds Y Z .normal o' Q):Reach G b n (.block id x) o e ds Y Z .normal o' Q:=fun tm k cs ht hk=>by
 refine G.move (fr':=Fr b tm ds (.code x :: .inBlock id::k)) (cs':=cs) (fun W=>by simp[Conc.G,stepG,stepG.exec,Fr]) ?_;refine h tm (.inBlock id::k) cs ht fun tm' e' ds' Y' Z' f a c d=>?_;cases d;exact G.move (fr':=Fr b tm' ds' k) (cs':=cs) (fun W=>by simp[Conc.G,stepG,stepG.exec,Fr]) (hk _ _ _ _ _ _ a c rfl)
theorem Bpd{id x}(h:Reach G b n x o e ds Y Z (.exit id) o' Q):Reach G b n (.block id x) o e ds Y Z .normal o' Q:=fun tm k cs ht hk=>by
 refine G.move (fr':=Fr b tm ds (.code x :: .inBlock id::k)) (cs':=cs) (fun W=>by simp[Conc.G,stepG,stepG.exec,Fr]) ?_;refine h tm (.inBlock id::k) cs ht fun tm' e' ds' Y' Z' f a c d=>?_;obtain⟨pre,hp,rfl⟩:=d;refine G.move (fr':=Fr b tm' ds' k) (cs':=cs) (fun W=>?_) (hk _ _ _ _ _ _ a c rfl);have:exitTo id (pre ++ .inBlock id::k)=some k:=by rw[Mj hp];simp[exitTo]
 simp[Conc.G,stepG,stepG.exec,Fr,this]
theorem Bpf{id id' x}(hid:id'≠id)(h:Reach G b n x o e ds Y Z (.exit id') o' Q):Reach G b n (.block id x) o e ds Y Z (.exit id') o' Q:=fun tm k cs ht hk=>by
 refine G.move (fr':=Fr b tm ds (.code x :: .inBlock id::k)) (cs':=cs) (fun W=>by simp[Conc.G,stepG,stepG.exec,Fr]) ?_;refine h tm (.inBlock id::k) cs ht fun tm' e' ds' Y' Z' f a c d=>?_;obtain⟨pre,hp,rfl⟩:=d;refine hk _ _ _ _ _ _ a c ⟨pre++[.inBlock id],fun y hy=>?_,by simp⟩;rcases Gv.1 hy with hy|hy
 ·exact hp y hy
 ·rw[Nh.1 hy];simp[Wc,Ne.symm hid]
theorem Bpe{id x}(h:Reach G b n x o e ds Y Z .ret o' Q):Reach G b n (.block id x) o e ds Y Z .ret o' Q:=fun tm k cs ht hk=>by
 refine G.move (fr':=Fr b tm ds (.code x :: .inBlock id::k)) (cs':=cs) (fun W=>by simp[Conc.G,stepG,stepG.exec,Fr]) ?_;refine h tm (.inBlock id::k) cs ht fun tm' e' ds' Y' Z' f a c d=>?_;obtain⟨pre,rfl⟩:=d;exact hk _ _ _ _ _ _ a c ⟨pre++[.inBlock id],by simp⟩
theorem Buh{l:Nat}(h:Q e ds Y Z):Reach G b n (.label l) o e ds Y Z .normal o Q:=fun tm k cs ht hk =>
 G.move (fr':=Fr b tm ds k) (cs':=cs) (fun W=>by simp[Conc.G,stepG,stepG.exec,Fr]) (hk tm e ds Y Z k ht h rfl)
theorem Bui{x:Code}(h:Reach G b n x o e ds Y Z ex o' Q):Reach G b n (.scope x) o e ds Y Z ex o' Q:=fun tm k cs ht hk=>by
 refine G.move (fr':=Fr b tm ds (.code x :: .inScope x::k)) (cs':=cs) (fun W=>by simp[Conc.G,stepG,stepG.exec,Fr]) ?_;refine h tm (.inScope x::k) cs ht fun tm' e' ds' Y' Z' g c d f=>?_;by_cases hn:ex = .normal
 ·subst hn;cases f;exact G.move (fr':=Fr b tm' ds' k) (cs':=cs) (fun W=>by simp[Conc.G,stepG,stepG.exec,Fr]) (hk _ _ _ _ _ _ c d rfl)
 ·exact hk _ _ _ _ _ _ c d (He hn (fun _=>rfl) f)
def LoopR(G:GoT C)(b:FB)(n:Nat)(x:Code)(o:List CV)(e:Env)(ds:List Deferred)(Y:Ro)(Z:Own)(ex:Ex)(o':List CV)(Q:Env->List Deferred->Ro->Own->Prop):Prop :=
 ∀tm k cs,EnvOf n tm e->(∀tm' e' ds' Y' Z' todo,EnvOf n tm' e'->Q e' ds' Y' Z'->Pl ex k todo->G.Go o' (Fr b tm' ds' todo) cs Y' Z')->G.Go o (Fr b tm ds (.code x :: .inLoop x::k)) cs Y Z
theorem Bnj{x}(hx:ex ≠ .normal)(h:Reach G b n x o e ds Y Z ex o' Q):LoopR G b n x o e ds Y Z ex o' Q:=fun tm k cs ht hk =>
 h tm (.inLoop x::k) cs ht fun tm' e' ds' Y' Z' f a c d=>hk _ _ _ _ _ _ a c (He hx (fun _=>rfl) d)
theorem Bhp{x}(h:Reach G b n x o e ds Y Z .normal o1 (fun e ds Y Z=>LoopR G b n x o1 e ds Y Z ex o' Q)):LoopR G b n x o e ds Y Z ex o' Q:=fun tm k cs ht hk=>by
 refine h tm (.inLoop x::k) cs ht fun tm' e' ds' Y' Z' f a c d=>?_;cases d;exact G.move (fr':=Fr b tm' ds' (.code x :: .inLoop x::k)) (cs':=cs) (fun W=>by simp[Conc.G,stepG,stepG.exec,Fr]) (c tm' k cs a hk)
theorem Byl{x}(h:LoopR G b n x o e ds Y Z ex o' Q):Reach G b n (.loop x) o e ds Y Z ex o' Q:=fun tm k cs ht hk =>
 G.move (fr':=Fr b tm ds (.code x :: .inLoop x::k)) (cs':=cs) (fun W=>by simp[Conc.G,stepG,stepG.exec,Fr]) (h tm k cs ht hk)
theorem LoopR.mono{c}(h:LoopR G b n c o e ds Y Z ex o' Q)(hq:∀e ds Y Z,Q e ds Y Z->Q' e ds Y Z):LoopR G b n c o e ds Y Z ex o' Q' :=
 fun tm k cs ht hk=>h tm k cs ht fun tm' e' ds' Y' Z' i d f g=>hk tm' e' ds' Y' Z' i d (hq _ _ _ _ f) g
theorem Beu{ops i rest K}(hs:Fu n ops=true)(hk:b.kind ≠ .early)(h:OpH C b ops i K e ds Y Z){tm k cs}(ht:EnvOf n tm e):
  GoesH C (fun fr cs' Y' Z'=>cs'=cs/\∃tm' e' ds',EnvOf n tm' e'/\K e' ds' Y' Z'/\fr=Fr b tm' ds' (.inRegion ops rest::k)) (Fr b tm ds (.inRegion ops (i::rest)::k)) cs Y Z:=by
 unfold OpH at h;cases ho:ops[i]? with
 | none=>simp only[ho]at h
 | some op =>
  simp only[ho]at h;have hev:=ht.eval b ds (.inRegion ops (i::rest)::k);split at h
  ·rename_i hw;refine .step (fun fr' cs' Z'=>∃nx,NextH C (fun v=>K (Ja e op.dst v)) b.round ds Y nx Z'/\Ss C.P (Fr b tm ds (.inRegion ops (i::rest)::k)) cs nx fr' cs') (fun W x=>?_) ?_
   ·obtain⟨nx,Z',W',es,m,g,p,q⟩:=Rr _ Z _ W #[] h x;have hd:∀c,op.op = .defer c->b.round=none:=by
     intro c hc;have hx:∃d,nx = .defer d:=by
      have w:execOp (Af e) op=(resolve (Af e) c op.type).bind fun d=>pure (Next.defer d):=by
       unfold execOp;rw[hc];rfl
      rw[w,Sem.runT_bind']at m;split at m
      ·rename_i a' w' es' _;have:(Result.ok (Next.defer a') w',es')=(Result.ok nx W',es):=m;simp only[Prod.mk.injEq,Result.ok.injEq]at this;exact⟨a',this.1.1.symm⟩
      ·simp at m
     obtain⟨d,rfl⟩:=hx;exact g.1
    have hnx:∃fr' cs',Ss C.P (Fr b tm ds (.inRegion ops (i::rest)::k)) cs nx fr' cs':=by
     cases nx<;>simp only[NextH]at g<;>exact⟨_,_,rfl,rfl⟩
    obtain⟨fr',cs',es',t,j,u⟩:=Sx (s:=execOp (Af e) op) (by exact hk) (by simp[Fr]) m hnx;refine⟨fr',cs',W',es',Z',?_,p,fun ev he=>Atg q (u ev he),nx,g,j⟩;rw[Np ho (by rw[Ij hs ht];exact hw) hd,hev];exact t
   ·rintro fr' cs' Z' ⟨nx,g,j⟩;cases nx<;>simp only[NextH]at g
    case value v =>
     obtain⟨rfl,rfl⟩:=j;rw[Ju ho];exact .stop ⟨rfl,_,_,_,Jj hs ht ho v,g,rfl⟩
    case skip =>
     obtain⟨rfl,rfl⟩:=j;rw[Ju ho];exact .stop ⟨rfl,_,_,_,Jj hs ht ho undef,g,rfl⟩
    case defer d =>
     obtain⟨rfl,rfl⟩:=j;have:Frame.finish {Fr b tm ds (.inRegion ops (i::rest)::k) with defers:=d::(Fr b tm ds (.inRegion ops (i::rest)::k)).defers} undef=(Fr b tm (d::ds) (.inRegion ops (i::rest)::k)).finish undef:=rfl;rw[this,Ju ho];exact .stop ⟨rfl,_,_,_,Jj hs ht ho undef,g.2,rfl⟩
    case enter f args =>
     obtain⟨rfl,rfl⟩:=j;refine(g _ cs).bind ?_;rintro _ _ Y' Z'' ⟨v,rfl,rfl,hv⟩;rw[Ju ho];exact .stop ⟨rfl,_,_,_,Jj hs ht ho v,hv,rfl⟩
    case round l f tmps assign body =>
     obtain⟨rfl,rfl⟩:=j;refine(g _ cs).bind ?_;rintro _ _ Y' Z'' ⟨v,rfl,rfl,hv⟩;rw[Ju ho];exact .stop ⟨rfl,_,_,_,Jj hs ht ho v,hv,rfl⟩
  ·rename_i hw;refine Eh (fun W=>Abu ho (by rw[Ij hs ht];simpa using hw) W) ?_;rw[Ju ho];exact .stop ⟨rfl,_,_,_,Jj hs ht ho undef,h,rfl⟩
def Ops(G:GoT C)(b:FB)(n:Nat)(l₀ rest:List Oper)(o:List CV)(e:Env)(ds:List Deferred)(Y:Ro)(Z:Own)(o':List CV)(Q:Env->List Deferred->Ro->Own->Prop):Prop :=
 ∀pre,l₀=pre++rest->∀tm k cs,EnvOf n tm e->(∀tm' e' ds' Y' Z',EnvOf n tm' e'->Q e' ds' Y' Z'->G.Go o' (Fr b tm' ds' k) cs Y' Z')->G.Go o (Fr b tm ds (.inRegion l₀.toArray (List.range' pre.length rest.length)::k)) cs Y Z
theorem Bvt{l₀}(h:Q e ds Y Z):Ops G b n l₀ [] o e ds Y Z o Q:=fun pre _ tm k cs ht hk =>
 G.move (fr':=Fr b tm ds k) (cs':=cs) (fun W=>by simp[Conc.G,stepG,stepG.exec,Fr]) (hk tm e ds Y Z ht h)
theorem Boa{l₀ rest op}(hs:Fu n l₀.toArray=true)(hk:b.kind ≠ .early)(h:∀pre,l₀=pre++op::rest->OpH C b l₀.toArray pre.length (fun e ds Y Z=>Ops G b n l₀ rest o e ds Y Z o' Q) e ds Y Z):Ops G b n l₀ (op::rest) o e ds Y Z o' Q:=fun pre a tm k cs ht hq=>by
 rw[Gb,Agl];refine G.bind (Beu hs hk (h pre a) ht) ?_;rintro _ _ Y' Z' ⟨rfl,tm',e',ds',c,d,rfl⟩;have:=d (pre++[op]) (by rw[a];simp) tm' k _ c hq;rw[lZ4,Xo]at this;exact this
theorem Bxv{l₀ rest op}(hs:Fu n l₀.toArray=true)(hk:b.kind ≠ .early)(hw:Bz l₀.toArray op e=true)(h:wpS C.P Y (execOp (Af e) op) Z (NextH C (fun v ds Y Z=>Ops G b n l₀ rest o (Ja e op.dst v) ds Y Z o' Q) b.round ds Y)):Ops G b n l₀ (op::rest) o e ds Y Z o' Q :=
 Boa hs hk fun pre a=>by
  unfold OpH;have ho:l₀.toArray[pre.length]?=some op:=by subst a;simp
  rw[ho];simp only[hw,if_true];exact h
theorem Bob{l₀ rest op}(hs:Fu n l₀.toArray=true)(hk:b.kind ≠ .early)(hw:Bz l₀.toArray op e=false)(h:Ops G b n l₀ rest o (Ja e op.dst undef) ds Y Z o' Q):Ops G b n l₀ (op::rest) o e ds Y Z o' Q :=
 Boa hs hk fun pre a=>by
  unfold OpH;have ho:l₀.toArray[pre.length]?=some op:=by subst a;simp
  rw[ho];simp only[hw,Aiw,if_false];exact h
theorem Axy{l₀ id}(h:Ops G b n l₀ l₀ o e ds Y Z o' Q):Reach G b n (.region id l₀.toArray false) o e ds Y Z .normal o' Q:=fun tm k cs ht hq=>by
 refine G.move (fr':=Fr b tm ds (.inRegion l₀.toArray (List.range l₀.toArray.size)::k)) (cs':=cs) (fun W=>by simp[Conc.G,stepG,stepG.exec,Fr]) ?_;rw[Aiy,Awn];exact h [] rfl tm k cs ht fun tm' e' ds' Y' Z' a c=>hq _ _ _ _ _ _ a c rfl
end
end
section
open Go Go.Conc
inductive DsR(R:XR):List CD->List Deferred->Prop
 | nil:DsR R [] []
 | mark {k b c:Nat} {l:List CD} {l':List Deferred}:R k=some (b,c)->DsR R l l'->DsR R (.mark k::l) ({target:=.collected b,args:=#[]}::l')
 | close {k b c:Nat} {tys:Array TypeId} {ty:TypeId} {l:List CD} {l':List Deferred}:R k=some (b,c)->DsR R l l'->DsR R (.close k::l) (Lj b tys ty #[false]::l')
theorem DsR.mono{R R'}(hR:XR.le R R'){l l'}(h:DsR R l l'):DsR R' l l':=by
 induction h with
 | nil=>exact .nil
 | mark h _ ih=>exact .mark (hR _ _ h) ih
 | close h _ ih=>exact .close (hR _ _ h) ih
structure Sim(R:XR)(st:St)(e:Env)(ds:List Deferred)(Y:Ro)(Z Z9:Own):Prop where
 env:EnvR R st.e e
 mem:MemX R st.m Y Z Z9
 ds:DsR R st.ds ds
def RdOk{C:Ctx}(G:GoT C)(R:XR)(rd:Option Nat)(b:FB):Prop:=G.rk R/\match rd with
 | none=>b.round=none
 | some k=>∃l c,b.round=some l/\R k=some (l,c)
theorem RdOk.mono{C}{G:GoT C}{R R' rd b}(h:RdOk G R rd b)(hR:XR.le R R'):RdOk G R' rd b:=by
 obtain⟨a,h⟩:=h;refine⟨G.rkm _ _ hR a,?_⟩;cases rd with
 | none=>exact h
 | some k=>obtain⟨l,c,d,e⟩:=h;exact⟨l,c,d,hR _ _ e⟩
def Gk:Ex->St->R
 | .normal,s=>.n s
 | .exit id,s=>.x id s
 | .ret,s=>.r s
def Bvi{C:Ctx}(G:GoT C)(b:FB)(n:Nat)(rd:Option Nat)(c:Code)(st:St)(ex:Ex)(st':St):Prop :=
 Kept st.m st'.m/\(G.suf st'.m.outs->∀R e ds Y Z Z9,NoRecv Z9->RdOk G R rd b->Sim R st e ds Y Z Z9 ->
  Reach G b n c st.m.outs e ds Y Z ex st'.m.outs (fun e' ds' Y' Z'=>∃R',XR.le R R'/\Ro.le Y Y'/\Sim R' st' e' ds' Y' Z' Z9))
structure FnsOk(C:Ctx)(F:Fns):Prop where
 call:∀g args m x m',F.call g args m = .v x m'->Kept m m'/\∀R args' Y Z Z9,NoRecv Z9->VR R args args'->MemX R m Y Z Z9 ->
  CallsH C g args'.toArray Y Z (fun v Y' Z'=>∃R',XR.le R R'/\Ro.le Y Y'/\V1 R' x v/\MemX R' m' Y' Z' Z9)
 code:∀n rd c st ex st',F.code n rd c st=Gk ex st'->∀b S,b.kind ≠ .early->Bvi (goT C S) b n rd c st ex st'
section
variable{C:Ctx}{R:XR}{m:Mem}{Y:Ro}{Z Z9:Own}
theorem MemX.rest{o}(h:MemX R m Y Z Z9):MemX R (xRest m o) Y Z Z9:=by obtain⟨L,G,h⟩:=h;exact⟨L,G,h.perm,h.nd,h.own,h.all,h.ro,h.gar,h.lt,h.glob⟩
theorem Om{e e' d x v}(h:EnvR R e e')(hv:V1 R x v):EnvR R ((dstK d).run e x) (Ja e' d v):=by
 cases d with
 | none=>exact h
 | some d=>exact h.set hv
theorem Pj{l o e e'}(h:EnvR R e e')(hk:(gokK l o).run e=true):Bz l.toArray o e'=(guardK l o).run e:=by
 unfold gokK at hk;unfold Bz guardK;cases hg:o.guard with
 | none=>rfl
 | some jw =>
  obtain⟨j,w⟩:=jw;rw[hg]at hk;simp only at hk ⊢;unfold Ht;rw[Jw];cases hd:(l[j]?).bind (·.dst) with
  | none=>rw[hd]at hk;cases hk
  | some d =>
   rw[hd]at hk;simp only at hk ⊢;split at hk
   ·rename_i x hx;rw[hx];have:=Aoe (h d _ hx);rw[this];cases x<;>cases w<;>rfl
   ·rename_i x hx;rw[hx];obtain⟨l',_,hv⟩:=Cbu (h d _ hx);rw[hv];rfl
   ·cases hk
theorem Abb{n}:∀{l:List Oper},xSlotsN n l=true->Fu n l.toArray=true:=by
 intro l h;unfold Fu;rw[Bmv];induction l with
 | nil=>rfl
 | cons o l ih =>
  rw[Aqo,Pc];unfold xSlotsN at h;cases hd:o.dst with
  | none=>rw[hd]at h;exact⟨rfl,ih h⟩
  | some d =>
   rw[hd]at h;simp only at h;split at h
   ·rename_i hb;exact⟨by simp only[decide_eq_true_eq];exact lZ7 hb,ih h⟩
   ·cases h
theorem Aly{n:Nat}:∀{ps:List Nat} {args:List CV} {args':List Value} {tm:Array Value} {env:Tr CV} {e:Env},ps.length=args.length->xAllLt n ps=true->VR R args args'->EnvOf n tm e->EnvR R env e ->
  ∃e',EnvOf n ((ps.toArray.zip args'.toArray).foldl (fun tmps (t,a)=>tmps.setIfInBounds t a) tm) e'/\EnvR R (xPutP ps args env) e'
 | [],[],args',tm,env,e,_,_,hv,h1,h2=>by
  cases hv;exact⟨e,by simpa using h1,h2⟩
 | t::ps,a::args,[],tm,env,e,_,_,hv,h1,h2=>by cases hv
 | t::ps,a::args,a'::args',tm,env,e,hl,hlt,hv,h1,h2=>by
  obtain⟨v1,v2⟩:=VR.cons_iff.1 hv;have b:(match Nat.ble (Nat.succ t) n with|true=>xAllLt n ps|false=>false)=true:=hlt;split at b
  ·rename_i hb;have ht:t<n:=lZ7 hb;obtain⟨e',f,g⟩:=Aly (by simpa using hl) b v2 (h1.put ht a') (h2.set (d:=t) v1);refine⟨e',?_,g⟩;have c:(((t::ps).toArray.zip (a'::args').toArray).foldl (fun tmps (x:Nat×Value)=>tmps.setIfInBounds x.1 x.2) tm)=((ps.toArray.zip args'.toArray).foldl (fun tmps (x:Nat×Value)=>tmps.setIfInBounds x.1 x.2) (tm.setIfInBounds t a')):=by
    have h:(t::ps).toArray.zip (a'::args').toArray=((t,a')::ps.zip args').toArray:=by simp
    have i:ps.toArray.zip args'.toArray=(ps.zip args').toArray:=by simp
    rw[h,i,List.foldl_toArray,List.foldl_toArray];rfl
   exact c ▸ f
  ·cases b
 | [],_::_,_,_,_,_,hl,_,_,_,_=>by cases hl
 | _::_,[],_,_,_,_,hl,_,_,_,_=>by cases hl
end
section
variable{C:Ctx}{F:Fns}{st:St}{o:Op}
def Auw(C:Ctx)(o:Op)(st:St)(x:CV)(m':Mem)(ds':List CD):Prop :=
 Kept st.m m'/\m'.outs=st.m.outs/\ds'=st.ds/\∀R e ds Y Z Z9 rd dd ty pos af g,NoRecv Z9->Sim R st e ds Y Z Z9->wpS C.P Y (execOp (Af e) ⟨dd,o,ty,pos,af,g⟩) Z
  (NextH C (fun v ds1 Y' Z'=>ds1=ds/\∃R',XR.le R R'/\Ro.le Y Y'/\V1 R' x v/\MemX R' m' Y' Z' Z9) rd ds Y)
theorem Bop{x y m m' l l'}(h:OV.v x m l = .v y m' l'):x=y/\m=m'/\l=l':=by cases h;exact⟨rfl,rfl,rfl⟩
def allR:XR:=fun k=>some (k,0)
theorem Bkv(x:CV):∃v,V1 allR x v :=
 CV.rec (motive_1:=fun x=>∃v,V1 allR x v) (motive_2:=fun l=>∃l',VR allR l l')
  ⟨undef,.bad _ .nil⟩ (fun x=>⟨_,.b x .nil⟩) (fun k n=>⟨_,.i k n .nil⟩) (fun s=>⟨_,.s s .nil⟩) ⟨_,.pn .nil⟩ (fun k off=>⟨_,.p (k:=k) (off:=off) rfl .nil⟩) ⟨_,.sn .nil⟩
  (fun k off ln kn c=>by cases kn with
   | true=>exact⟨_,.slK (k:=k) (off:=off) (ln:=ln) (cp:=c) rfl .nil⟩
   | false=>exact⟨_,.slU (k:=k) (off:=off) (ln:=ln) (a:=c) rfl .nil⟩)
  ⟨_,.mn .nil⟩ (fun k=>⟨_,.m (k:=k) rfl .nil⟩) ⟨_,.cn .nil⟩ (fun k=>⟨_,.c (k:=k) rfl .nil⟩) ⟨_,.fn .nil⟩
  (fun g xs ys ⟨_,d⟩ ⟨_,e⟩=>⟨_,.f g d e .nil⟩) (fun k=>⟨_,.y (k:=k) rfl .nil⟩) ⟨_,.n .nil⟩ (fun t v ⟨_,h⟩=>⟨_,.a t h .nil⟩) (fun l ⟨_,h⟩=>⟨_,.g h .nil⟩) (fun l ⟨_,h⟩=>⟨_,.t h .nil⟩)
  ⟨_,.nil⟩ (fun x l ⟨_,h⟩ ⟨_,h'⟩=>⟨_,VR.cons_iff.2 ⟨h,h'⟩⟩) x
theorem Bxa(e:Tr CV):∃e':Env,EnvR allR e e':=by refine⟨fun t=>match e.get t with|some v=>(Bkv v).choose|none=>undef,fun t v h=>?_⟩;simp only[h];exact(Bkv v).choose_spec
theorem Bni{P o e m m' x}(h:(opK P o).run e m = .v x m'):LogOk m m'/\(xMild o=true->m'.nx=m.nx->m'=m):=by
 obtain⟨e',he⟩:=Bxa e;rcases Bet o allR e e' m x m' he (fun k _=>rfl) h with⟨rfl,_⟩|⟨a,b,_⟩
 ·exact⟨.refl _,fun _ _=>rfl⟩
 ·exact⟨a,fun hm hn=>absurd hn (b hm)⟩
theorem Ccj{x y m1 m' ds'}(he:(opK C.P o).run st.e st.m = .v x m1)(h:OV.v x m1 st.ds = .v y m' ds'):Auw C o st y m' ds':=by
 obtain⟨rfl,rfl,rfl⟩:=Bop h;have hk:=(Bni he).1;refine⟨hk.kept,hk.outs,rfl,fun R e ds Y Z Z9 rd dd ty pos af g hn hs=>?_⟩;rcases Bet o R st.e e st.m x m1 hs.env hs.mem.globR he with⟨rfl,v,hv,hw⟩|⟨_,_,hw⟩
 ·exact Eu (by rintro nx Z' ⟨rfl,rfl⟩;exact⟨rfl,R,.refl,.refl,hv,hs.mem⟩) _ _ (hw Y Z dd ty pos af g)
 ·refine Eu ?_ _ _ (hw Y Z Z9 dd ty pos af g hs.mem);rintro nx Z' ⟨R',v,a,d,b,c⟩;rcases d with rfl|⟨rfl,rfl⟩
  ·exact⟨rfl,R',a,.refl,b,c⟩
  ·exact⟨rfl,R',a,.refl,b,c⟩
theorem Can{x y k m' ds'}(he:(opK C.P o).run st.e st.m = .rd x k)(h:OV.v x st.m st.ds = .v y m' ds'):Auw C o st y m' ds':=by obtain⟨rfl,rfl,rfl⟩:=Bop h;refine⟨.refl _,rfl,rfl,fun R e ds Y Z Z9 rd dd ty pos af g hn hs=>?_⟩;obtain⟨v,hv,hw⟩:=Bbh o R st.e e st.m x k hs.env hs.mem.globR he R st.m Y Z Z9 hs.mem rfl rfl;exact Eu (by rintro nx Z' ⟨rfl,rfl⟩;exact⟨rfl,R,.refl,.refl,hv,hs.mem⟩) _ _ (hw dd ty pos af g)
theorem Bkr{f args y m' ds'}(hF:FnsOk C F)(he:(opK C.P o).run st.e st.m = .enter f args)(h:(match F.call f args st.m with | .v x m=>OV.v x (xRest m st.m.outs) st.ds | .bad=>.bad) = .v y m' ds'):Auw C o st y m' ds':=by
 split at h
 ·rename_i x m1 hc;obtain⟨rfl,rfl,rfl⟩:=Bop h;obtain⟨hk,j⟩:=hF.call f args st.m x m1 hc;refine⟨hk.rest,rfl,rfl,fun R e ds Y Z Z9 rd dd ty pos af g hn hs=>?_⟩;obtain⟨a,hv,hw⟩:=Bhz hs.env hs.mem.globR he;refine hw _ Y Z dd ty pos af g ?_;refine(j R a Y Z Z9 hn hv hs.mem).mono ?_;rintro v Y' Z' ⟨R',b,c,d,i⟩;exact⟨rfl,R',b,c,d,i.rest⟩
 ·cases h
theorem MemX.at{R m Y Z Z9}(h:MemX R m Y Z Z9){k o}(hk:m.M.get k=some (.own o))(hd:o ≠ .dead):
  ∃(b c:Nat) (r:Res) (i:Nat),R k=some (b,c)/\Z[i]?=some (b,r)/\ObjR R c o r/\∀r' o',ObjR R c o' r'->MemX R (m.put k o') Y (Z.set i (b,r')) Z9:=by obtain⟨L,G,h⟩:=h;obtain⟨b,c,r,i,a,d,e,f⟩:=h.at hk hd;exact⟨b,c,r,i,a,d,e,fun r' o' ho=>h.put f a d ho⟩
end
end
section
open Go Go.Conc
section
variable{C:Ctx}{F:Fns}{st:St}{o:Op}
theorem FnsOk.kept(hF:FnsOk C F){n rd c s s' ex}(h:F.code n rd c s=Gk ex s'):Kept s.m s'.m :=
 (hF.code n rd c s ex s' h ⟨0,.normal,none⟩ (fun _ _ _ _=>True) (by simp)).1
theorem FnsOk.wp(hF:FnsOk C F){n rd c s s' ex}(h:F.code n rd c s=Gk ex s'){b}(hb:b.kind ≠ .early){R e ds Y Z Z9}(hn:NoRecv Z9)(hr:RdOk (goT C fun _ _ _ _=>True) R rd b)(hs:Sim R s e ds Y Z Z9):
  WpC C b n c (fun ex' e' ds' Y' Z'=>ex'=ex/\∃R',XR.le R R'/\Ro.le Y Y'/\Sim R' s' e' ds' Y' Z' Z9) e ds Y Z :=
 Reach.wp (S:=fun _ _ _ _=>True) (o:=s.m.outs) (o':=s'.m.outs) (ex:=ex) fun S=>((hF.code n rd c s ex s' h b S hb).2 trivial R e ds Y Z Z9 hn hr hs).mono fun e ds Y Z h=>⟨rfl,h⟩
theorem Ze{R c busy n pd env ps as_ body dk r}(h:ObjR R c (.loop busy pd n env ps as_ body dk) r):
  ∃L e' b c',r = .obj (.loop L)/\L.state=stB busy/\L.pending=pd/\EnvOf n L.tmps e'/\EnvR R env e'/\L.params=ps.toArray/\L.assign=as_/\L.body=body/\R dk=some (b,c')/\L.defers=b:=by
 cases h with
 | loop h1 h2 h3 h4 h5 h6 h7 h8 h9=>exact⟨_,_,_,_,rfl,h1,h2,h3,h4,h5,h6,h7,h8,h9⟩
theorem Bks{k args y m' ds'}(hF:FnsOk C F)(he:(opK C.P o).run st.e st.m = .round k args)(h:doOR F st (.round k args) = .v y m' ds'):Auw C o st y m' ds':=by
 simp only[doOR]at h;split at h
 ·rename_i pd0 n env ps as_ body dk0 hg0;split at h
  ·rename_i hlen hlt;split at h
   ·rename_i st1 hc1;split at h
    ·rename_i pd1 n1 env1 ps1 as1 body1 dk1 hds1 hg1;have fin:∀ex a,F.code n (some k) body ⟨st1.e,st1.m.put k (.loop 1 pd1 n1 env1 ps1 as1 body1 dk1),[]⟩=Gk ex a->xEndRound (xRest a.m st.m.outs) st.ds k (Pf ex) = .v y m' ds'->Auw C o st y m' ds':=by
      intro ex a f p;unfold xEndRound at p;split at p
      ·rename_i b3 pd3 n3 env3 ps3 as3 body3 dk3 hg3;obtain⟨rfl,rfl,rfl⟩:=Bop p;have X:a.m.M.get k=some (.own (.loop b3 pd3 n3 env3 ps3 as3 body3 dk3)):=hg3;have k1:=hF.kept (ex:=.normal) hc1;have k3:=hF.kept f;refine⟨(((k1.trans (LogOk.put _ _ _).kept).trans k3).rest).trans (LogOk.put _ _ _).kept,rfl,rfl,fun R e ds Y Z Z9 rd dd ty pos af g hn hs=>?_⟩;obtain⟨a0,b,c,hR,hv,hw⟩:=Bia hs.env hs.mem.globR he;refine hw _ Y Z dd ty pos af g ?_;obtain⟨b',c',r,i,z,U,V,_⟩:=hs.mem.at hg0 (by simp);rw[hR]at z;cases z;obtain⟨L,e0,db,dc,rfl,l1,l2,l3,l4,B,l6,l7,l8,l9⟩:=Ze V;have YQ:ps.length=args.length:=by
        have:=Hr hlen;rw[Ia,Ia]at this;exact this.symm
       have hl':=hv.len;refine Afw (L:=L) U (by rw[B];simp;omega) ?_;rw[B,l6,l7];obtain⟨e1,w1,w2⟩:=Aly YQ hlt hv l3 l4;refine Abr (n:=n) w1 ?_;refine Adw (hF.wp (ex:=.normal) hc1 (b:=⟨L.fn,.normal,some b⟩) (by simp) (R:=R) hn ⟨trivial,b,c,rfl,hR⟩ ⟨w2,hs.mem,.nil⟩) ?_;rintro a8 e2 K a9 ab ⟨rfl,J,q,q2,t⟩;obtain⟨b1,c1,r1,i1,x,N,O,T⟩:=t.mem.at hg1 (by simp);rw[q _ _ hR]at x;cases x;obtain⟨H,a6,a1,a3,rfl,t1,t2,t3,t4,t5,t6,t7,t8,t9⟩:=Ze O;have W:K=[]:=by
        have:=t.ds;rw[hds1]at this;cases this;rfl
       refine⟨rfl,W,i1,H,N,t1,?_⟩;refine Adw (hF.wp f (b:=⟨L.fn,.normal,some b⟩) (by simp) (R:=J) hn ⟨trivial,b,c,rfl,q _ _ hR⟩ ⟨t.env,T _ _ (.loop rfl t2 t3 t4 t5 t6 t7 t8 t9),.nil⟩) ?_;rintro j e3 a5 aa ac ⟨rfl,w,D,q4,ZQ⟩;obtain⟨b2,c2,r2,i2,E,u2,u3,u4⟩:=ZQ.mem.at X (by simp);rw[D _ _ (q _ _ hR)]at E;cases E;obtain⟨u,a7,a2,a4,rfl,v1,v2,v3,v4,v5,v6,v7,v8,v9⟩:=Ze u3;refine⟨i2,u,u2,rfl,w,q.trans D,q2.trans q4,?_,?_⟩
       ·cases j<;>exact .b _ .nil
       ·have hob:ObjR w c (.loop (match Pf j with|none=>0|some _=>2) (Pf j) n3 env3 ps3 as3 body3 dk3) (.obj (.loop {u with state:=if (Pf j).isNone then .ready else .done,pending:=Pf j})):=by
         refine .loop ?_ rfl v3 v4 v5 v6 v7 v8 v9;cases j<;>rfl
        have:=u4 _ _ hob;obtain⟨I,G,d⟩:=this;exact⟨I,G,d.perm,d.nd,d.own,d.all,d.ro,d.gar,d.lt,d.glob⟩
      ·cases p
     split at h
     ·rename_i a f;exact fin .normal a f h
     ·rename_i id a f;exact fin (.exit id) a f h
     ·rename_i a f;exact fin .ret a f h
     ·cases h
    ·cases h
   ·cases h
  ·cases h
 ·cases h
theorem Aan{y m' ds'}(hF:FnsOk C F)(h:doOR F st ((opK C.P o).run st.e st.m) = .v y m' ds'):Auw C o st y m' ds':=by
 cases he:(opK C.P o).run st.e st.m with
 | v x m=>rw[he]at h;exact Ccj he h
 | rd x k=>rw[he]at h;exact Can he h
 | enter f args=>rw[he]at h;exact Bkr hF he h
 | round k args=>rw[he]at h;exact Bks hF he h
 | go f args=>rw[he]at h;cases h
 | recv k ok=>rw[he]at h;cases h
 | send k x=>rw[he]at h;cases h
 | dclose x=>rw[he]at h;cases h
 | bad=>rw[he]at h;cases h
end
def Abs{C:Ctx}(G:GoT C)(F:Fns)(dx:DX):Prop:=∀(op:Oper) (st:St) x m' ds' rd,dx.run F rd st ((opK C.P op.op).run st.e st.m) = .v x m' ds'->Kept st.m m' /\
 ∀b n l₀ rest o' Q R e ds Y Z Z9,NoRecv Z9->RdOk G R rd b->Sim R st e ds Y Z Z9->Fu n l₀.toArray=true->b.kind ≠ .early->Bz l₀.toArray op e=true->G.suf m'.outs ->
  (∀R' v ds1 Y' Z',XR.le R R'->Ro.le Y Y'->V1 R' x v->MemX R' m' Y' Z' Z9->DsR R' ds' ds1->Ops G b n l₀ rest m'.outs (Ja e op.dst v) ds1 Y' Z' o' Q) ->
  Ops G b n l₀ (op::rest) st.m.outs e ds Y Z o' Q
theorem Ate{C}{G:GoT C}{F:Fns}{op st x m' ds' rd}(hd:Auw C op.op st x m' ds'):Kept st.m m' /\
 ∀b n l₀ rest o' Q R e ds Y Z Z9,NoRecv Z9->RdOk G R rd b->Sim R st e ds Y Z Z9->Fu n l₀.toArray=true->b.kind ≠ .early->Bz l₀.toArray op e=true->G.suf m'.outs ->
  (∀R' v ds1 Y' Z',XR.le R R'->Ro.le Y Y'->V1 R' x v->MemX R' m' Y' Z' Z9->DsR R' ds' ds1->Ops G b n l₀ rest m'.outs (Ja e op.dst v) ds1 Y' Z' o' Q) ->
  Ops G b n l₀ (op::rest) st.m.outs e ds Y Z o' Q:=by obtain⟨c,d,f,g⟩:=hd;refine⟨c,fun b n l₀ rest o' Q R e ds Y Z Z9 hn hr hs hsl hk hw _ hc=>?_⟩;refine Bxv hsl hk hw ?_;obtain⟨dd,k,ty,pos,af,gd⟩:=op;refine Eu (fun nx Z' hx=>hx.mono ?_) _ _ (g R e ds Y Z Z9 b.round dd ty pos af gd hn hs);rintro v ds1 Y' Z' ⟨rfl,R',a,h,i,j⟩;rw[<-d];exact hc R' v _ Y' Z' a h i j (f ▸ hs.ds.mono a)
section
variable{C:Ctx}{G:GoT C}{F:Fns}{dx:DX}
theorem Afb(hx:Abs G F dx){l₀:List Oper}:∀(r:List Oper) (st:St) (rd:Option Nat) (ex:Ex) (st':St),(textK C.P dx l₀ r).run F rd st=Gk ex st'->ex = .normal/\Kept st.m st'.m /\
  (G.suf st'.m.outs->∀b n R e ds Y Z Z9,Fu n l₀.toArray=true->b.kind ≠ .early->NoRecv Z9->RdOk G R rd b->Sim R st e ds Y Z Z9 ->
   Ops G b n l₀ r st.m.outs e ds Y Z st'.m.outs (fun e' ds' Y' Z'=>∃R',XR.le R R'/\Ro.le Y Y'/\Sim R' st' e' ds' Y' Z' Z9))
 | [],st,rd,ex,st',h=>by
  have h':Go.Proofs.YtekhlbdfjkndnaaGreatDoor.R.n st=Gk ex st':=h;cases ex with
  | normal=>cases h';exact⟨rfl,.refl _,fun _ b n R e ds Y Z Z9 _ _ _ _ hs=>Bvt ⟨R,.refl,.refl,hs⟩⟩
  | exit id=>cases h'
  | ret=>cases h'
 | o::r,st,rd,ex,st',h=>by
  have h':(match (gokK l₀ o).run st.e with
   | false=>Go.Proofs.YtekhlbdfjkndnaaGreatDoor.R.bad
   | true=>match (guardK l₀ o).run st.e with
    | false=>(textK C.P dx l₀ r).run F rd ⟨(dstK o.dst).run st.e .undef,st.m,st.ds⟩
    | true=>match dx.run F rd st ((opK C.P o.op).run st.e st.m) with
     | .v x m ds=>(textK C.P dx l₀ r).run F rd ⟨(dstK o.dst).run st.e x,m,ds⟩
     | .bad=>.bad)=Gk ex st':=h
  split at h'
  ·cases ex<;>cases h'
  ·rename_i hgk;split at h'
   ·rename_i hg;obtain⟨d,a,f⟩:=Afb hx r _ _ _ _ h';refine⟨d,a,fun c b n R e ds Y Z Z9 hsl hk hn hr hs=>?_⟩;refine Bob hsl hk (by rw[Pj hs.env hgk];exact hg) ?_;exact f c b n R _ ds Y Z Z9 hsl hk hn hr ⟨Om hs.env (.t .nil .nil),hs.mem,hs.ds⟩
   ·rename_i hg;split at h'
    ·rename_i x m1 ds1 hd;obtain⟨w,hop⟩:=hx o st x m1 ds1 rd hd;obtain⟨d,a,f⟩:=Afb hx r _ _ _ _ h';refine⟨d,w.trans a,fun c b n R e ds Y Z Z9 hsl hk hn hr hs=>?_⟩;refine hop b n l₀ r _ _ R e ds Y Z Z9 hn hr hs hsl hk (by rw[Pj hs.env hgk];exact hg) (G.less_of a c) fun R' v i Y' Z' g y z B D=>?_;have:=f c b n R' (Ja e o.dst v) i Y' Z' Z9 hsl hk hn (hr.mono g) ⟨Om (hs.env.mono g) z,B,D⟩;exact fun pre hp tm k cs ht hq=>this pre hp tm k cs ht fun tm' e' ds' Y'' Z'' j ⟨R'',p,q,u⟩=>hq tm' e' ds' Y'' Z'' j ⟨R'',g.trans p,y.trans q,u⟩
    ·cases ex<;>cases h'
end
end
section
open Go Go.Conc
theorem Oa{l li j}:j∈Dl l li↔j∈Region.ready .any l.toArray li.toArray:=by rw[Hh]
theorem Mw(li:List Bool)(j:Nat)(d:Bool):li.toArray.getD j d=li.getD j d:=by simp[Bas,Oz]
theorem Ml(li:List Bool)(i:Nat):li.toArray.setIfInBounds i true=(li.set i true).toArray:=by simp
theorem Zk{l li i j}(h:j∈Dl l li)(hne:j≠i):j∈Dl l (li.set i true):=by rw[Oa]at *;rw[<-Ml];exact ready_mono h hne
theorem Arg{l li j}(h:j∈Dl l li):li.getD j true=false:=by
 rw[Oa]at h;have:=(mem_ready.1 h).1
 rwa[Mw]at this
theorem Xd{li:List Bool}{i j}(h:i≠j)(d:Bool):(li.set i true).getD j d=li.getD j d:=by rw[Oz,Oz,List.getElem?_set_ne h]
theorem Arb{K:List Nat}:∀{n:Nat} {l u w:List Nat},xNoneOf K n l=true->l=u++w->u.length=n->∀k∈K,k∉u
 | 0,l,[],w,_,_,_,k,_,hm=>by cases hm
 | 0,l,_::_,w,_,_,h,_,_,_=>by cases h
 | n+1,l,[],w,_,_,h,_,_,_=>by cases h
 | n+1,l,a::u,w,h,hl,hn,k,hk,hm=>by
  subst hl;have h':(match K.any (Nat.beq a) with|true=>false|false=>xNoneOf K n (u++w))=true:=h;split at h'
  ·cases h'
  ·rename_i hany;rcases lZ8.1 hm with rfl|hm
   ·have:=Bdl.1 hany k hk;exact this (by simp)
   ·exact Arb h' rfl (by simpa using hn) k hk hm
section
variable{C:Ctx}{R:XR}{m:Mem}{Y:Ro}{Z Z9:Own}
theorem MemX.frame{p}(h:MemX R m Y Z Z9):MemX R m Y (p::Z) (p::Z9):=by obtain⟨L,G,h⟩:=h;refine⟨L,G,?_,h.nd,h.own,h.all,h.ro,h.gar,h.lt,h.glob⟩;have a:=h.perm.cons p;refine a.trans ?_;rw[<-lZ9,<-lZ9];exact List.perm_middle.symm
theorem MemX.adopt{b c r o}(h:MemX R m Y Z ((b,r)::Z9))(ho:ObjR (R.add m.nx (b,c)) c o r):XR.le R (R.add m.nx (b,c))/\MemX (R.add m.nx (b,c)) (m.add o) Y Z Z9:=by
 obtain⟨L,G,h⟩:=h;have hle:=h.fresh (b,c);have hlt:∀p∈L,p.1<m.nx:=fun p hp=>by
  obtain⟨d,o1,a,_⟩:=h.own p hp;exact h.lt _ _ a
 refine⟨hle,(m.nx,b,r)::L,G,?_,Tb.2 ⟨fun hm=>?_,h.nd⟩,fun p hp=>?_,fun j oj hj hd=>?_,fun j oj hj=>?_,h.gar,fun j q hj=>?_,fun j hj=>hle _ _ (h.glob j hj)⟩
 ·have a:=h.perm;refine a.trans ?_;rw[Ic,<-lZ9,<-lZ9];exact Amo
 ·obtain⟨p,hp,e⟩:=Lp.1 hm;exact absurd (hlt p hp) (by omega)
 ·rcases lZ8.1 hp with rfl|hp
  ·exact⟨c,o,XR.add_same,by rw[Rw,if_pos rfl],ho⟩
  ·obtain⟨d,o1,a,f,g⟩:=h.own p hp;exact⟨d,o1,hle _ _ a,by rw[Rw,if_neg (Aif (hlt p hp))];exact f,g.mono hle⟩
 ·rw[Rw]at hj;by_cases hjk:j=m.nx
  ·subst hjk;exact⟨_,Vb ..⟩
  ·rw[if_neg hjk]at hj;obtain⟨q,hq⟩:=h.all j oj hj hd;exact⟨q,lZ0 _ hq⟩
 ·rw[Rw]at hj;by_cases hjk:j=m.nx
  ·rw[if_pos hjk]at hj;cases hj
  ·rw[if_neg hjk]at hj;obtain⟨i,d,k,a,f,g⟩:=h.ro j oj hj;exact⟨i,d,k,hle _ _ a,f,g.mono hle⟩
 ·unfold XR.add at hj;by_cases hjk:j=m.nx
  ·subst hjk;exact Aqm _
  ·rw[if_neg hjk]at hj;exact Aws (h.lt j q hj)
theorem MemX.known(h:MemX R m Y Z Z9){k o}(hk:m.obj k=some o)(hd:o ≠ .dead):∃q,R k=some q:=by
 obtain⟨L,G,h⟩:=h;unfold Mem.obj at hk;split at hk
 ·rename_i o' hg;cases hk;obtain⟨b,c,r,i,a,_⟩:=h.at hg hd;exact⟨_,a⟩
 ·rename_i o' hg;obtain⟨b,c,x,a,_⟩:=h.ro k _ hg;exact⟨_,a⟩
 ·cases hk
theorem Byq{P o e x k}(h:(opK P o).run e m = .rd x k):∃ob,m.obj k=some ob/\ob ≠ .dead:=by
 have hr:reads o=true:=by
  by_cases h2:reads o=true
  ·exact h2
  ·exfalso;by_cases h1:Blp o=true
   ·have:=Afx (P:=P) (o:=o);cases o with
    | call c =>
     obtain⟨cal,az,ts⟩:=c;cases cal with
     | value f =>
      rcases Ol h with⟨_,_,_,_,_,_,d⟩|d|d
      ·cases d
      ·cases d
      ·have:=Alf (P:=P) ((rdK f).run e) ((rdsK az.toList).run e);rw[d]at this;exact this
     | builtin b=>cases h1
     | invoke r n=>cases h1
    | go c=>unfold opK at h;dsimp only at h;split at h<;>cases h
    | defer c =>
     unfold opK at h;dsimp only at h;split at h
     ·dsimp only at h;split at h<;>cases h
     ·cases h
    | send a b=>unfold opK at h;dsimp only at h;split at h<;>cases h
    | recv t a ok =>
     unfold opK at h;dsimp only at h;split at h
     ·split at h
      ·dsimp only at h;split at h<;>cases h
      ·cases h
     ·cases h
    | _=>cases h1
   ·have:=(Bes (P:=P) o (by simpa using h1) (by simpa using h2) e m).r;rw[h]at this;exact this
 cases o with
 | load t a =>
  have h':loadM P t ((rdK a).run e) m = .rd x k:=h;unfold loadM at h';split at h'
  ·split at h'
   ·rename_i l hl;split at h'
    ·obtain⟨_,rfl⟩:=Aen h';rw[Auc]at hl;split at hl
     ·rename_i ob ho;exact⟨ob,ho,fun e=>by subst e;cases hl⟩
     ·cases hl
    ·cases h'
   ·cases h'
  ·cases h'
 | lookup t a y ok =>
  unfold opK at h;dsimp only at h;split at h
  ·split at h
   ·rename_i mk z _ _;have h':lookM mk z ok ((rdK a).run e) ((rdK y).run e) m = .rd x k:=h;unfold lookM at h';split at h'
    ·split at h'
     ·rename_i es hes hok;split at h'
      ·obtain⟨_,rfl⟩:=Aen h';exact⟨_,hes,by simp⟩
      ·obtain⟨_,rfl⟩:=Aen h';exact⟨_,hes,by simp⟩
      ·cases h'
     ·cases h'
    ·cases h'
   ·cases h
  ·cases h
 | slice t a lo hi mx =>
  unfold opK at h;dsimp only at h;split at h
  ·split at h
   ·dsimp only at h;split at h
    ·split at h
     ·exact Bbs h
     ·cases h
    ·split at h
     ·split at h<;>cases h
     ·cases h
    ·cases h
   ·cases h
  ·split at h
   ·dsimp only at h;split at h
    ·split at h
     ·split at h<;>cases h
     ·cases h
    ·cases h
   ·cases h
  ·cases h
 | _=>cases hr
theorem Bfs{P t z c}(hz:xZeroT P t=some z)(hc:z.cells=some c):∃vs:List Value,(∀R,VR R c vs) /\
  ∀(e':Env) Y Z (Q:Next->Own->Prop) dd ty pos af g,(∀r,Q (.value (.pointer (some ⟨r,0,none⟩))) ((r,.obj (.cells vs.toArray t (0,0)))::Z))->wpS P Y (execOp (Af e') ⟨dd,.alloc t,ty,pos,af,g⟩) Z Q:=by obtain⟨v,hv,rfl⟩:=Rf hz;refine⟨v.cells.toList,fun R=>(vOf R v).cells hc,fun e' Y Z Q dd ty pos af g hq=>?_⟩;show wpS P Y ((Instr.alloc t true (.tuple #[])).bind fun v=>Sem.pure (Next.value v)) Z Q;rw[Ad];show wpS P Y ((zeroValue t).bind _) Z _;rw[Ad];refine Jz hv ?_;show wpS P Y ((newVar t v).bind _) Z _;rw[Ad];refine Ik fun r=>?_;have:=hq r;rw[Adz]at this;exact this
end
theorem Btu{C b ops j d oj p e ds Y Z}(hj:ops[j]?=some oj)(h1:d∉oj.looksAt ops)(h2:oj.dst≠some d)(hsel:∀cs b,oj.op ≠ .select cs b){K K'}(hK:∀e ds Y Z,K e ds Y Z->K' (Ja e (some d) p) ds Y Z)(h:OpH C b ops j K e ds Y Z):OpH C b ops j K' (Ja e (some d) p) ds Y Z:=by
 have a:∀d',some d=some d'->d'∉oj.looksAt ops:=fun d' hd=>by cases hd;exact h1
 have hcm:∀u,Ja (Ja e (some d) p) oj.dst u=Ja (Ja e oj.dst u) (some d) p:=fun u=>Vx e p u (fun d' hd=>by cases hd;exact h2);unfold OpH at *;simp only[hj]at *;rw[Sd oj e (some d) p a];split
 ·rename_i hw;rw[if_pos hw]at h;rw[Ru oj hsel e (some d) p a];exact Eu (fun nx Z' hn=>hn.mono fun u ds Y Z hh=>by rw[hcm];exact hK _ _ _ _ hh) _ _ h
 ·rename_i hw;rw[if_neg hw]at h;rw[hcm];exact hK _ _ _ _ h
theorem Bca{P ops S d o v p e}(h1:d∉o.looksAt ops)(hsel:∀cs b,o.op ≠ .select cs b)(h:YieldsH P ops S o v e):YieldsH P ops S o v (Ja e (some d) p):=by
 have a:∀d',some d=some d'->d'∉o.looksAt ops:=fun d' hd=>by cases hd;exact h1
 unfold YieldsH at *;rw[Ru o hsel e (some d) p a,Sd o e (some d) p a];exact h
end
section
open Go Go.Conc
def Aip{α:Type}(C:Ctx)(b:FB)(ops:Array Oper)(Q:Env->List Deferred->Ro->Own->Prop)(wt:Nat->α->Bool)(S:α->Ro->Own->Prop):Nat->List α->Array Bool->Env->List Deferred->Ro->Own->Prop
 | 0,lv,listed,e,ds,Y,Z=>Region.ready .any ops listed=[]/\Q e ds Y Z/\∀p∈lv,S p Y Z
 | fuel+1,lv,listed,e,ds,Y,Z=>(∀p∈lv,S p Y Z)/\(Region.ready .any ops listed=[]->Q e ds Y Z) /\
  ∀i∈Region.ready .any ops listed,OpH C b ops i (fun e' ds' Y' Z'=>Aip C b ops Q wt S fuel (lv.filter fun p=>!wt i p) (listed.setIfInBounds i true) e' ds' Y' Z') e ds Y Z
section
variable{α:Type}{C:Ctx}{b:FB}{ops:Array Oper}{Q:Env->List Deferred->Ro->Own->Prop}{wt:Nat->α->Bool}{S:α->Ro->Own->Prop}
theorem Ape:∀{fuel:Nat} {lv lv':List α} {listed:Array Bool} {e:Env} {ds:List Deferred} {Y:Ro} {Z:Own},(∀p∈lv',p∈lv)->Aip C b ops Q wt S fuel lv listed e ds Y Z->Aip C b ops Q wt S fuel lv' listed e ds Y Z
 | 0,_,_,_,_,_,_,_,hs,⟨h1,h2,h3⟩=>⟨h1,h2,fun p hp=>h3 p (hs p hp)⟩
 | _+1,_,_,_,_,_,_,_,hs,⟨h1,h2,h3⟩=>⟨fun p hp=>h1 p (hs p hp),h2,fun i hi=>(h3 i hi).mono fun _ _ _ _ h=>Ape (fun p hp=>by
   obtain⟨h4,h5⟩:=Rg.1 hp;exact Rg.2 ⟨hs p h4,h5⟩) h⟩
theorem Akt:∀{fuel:Nat} {lv:List α} {listed:Array Bool} {e:Env} {ds:List Deferred} {Y:Ro} {Z:Own},Aip C b ops Q wt S fuel lv listed e ds Y Z->El C b ops Q [] (fun _ _=>True) fuel listed e ds Y Z
 | 0,_,_,_,_,_,_,⟨h1,h2,_⟩=>⟨h1,h2⟩
 | _+1,_,_,_,_,_,_,⟨_,h2,h3⟩=>.inr ⟨_,_,.same,id,h2,fun i hi=>(h3 i hi).mono fun _ _ _ _ h=>⟨fun _=>trivial,Akt h⟩⟩
theorem Afk{lv:List α}{listed:Array Bool}{e:Env}{ds:List Deferred}{Y:Ro}{Z:Own}(hr:Region.ready .any ops listed=[])(h:Q e ds Y Z)(hS:∀p∈lv,S p Y Z):∀fuel,Aip C b ops Q wt S fuel lv listed e ds Y Z
 | 0=>⟨hr,h,hS⟩
 | _+1=>⟨hS,fun _=>h,by rw[hr];simp⟩
theorem Abw{i:Nat}{oi:Oper}{v:Value}{p:α}(hi:ops[i]?=some oi)(hsel:∀(j:Nat) (o:Oper) cs b,ops[j]?=some o->o.op ≠ .select cs b)
  (hwt:∀j oj,ops[j]?=some oj->(∀e∈oj.after,Region.binds .any e=true->e.on≠i)->wt j p=false) :
  ∀(fuel:Nat) (lv:List α) (listed:Array Bool) (e:Env) (ds:List Deferred) (Y:Ro) (Z:Own),
   (∀j oj,ops[j]?=some oj->j≠i->listed.getD j true=false->(∀e∈oj.after,Region.binds .any e=true->e.on≠i)->oi.apart ops oj=true) ->
   i∈Region.ready .any ops listed->YieldsH C.P ops (S p) oi v e ->
   Aip C b ops Q wt S fuel (p::lv) (listed.setIfInBounds i true) (Ja e oi.dst v) ds Y Z->Aip C b ops Q wt S (fuel+1) lv listed e ds Y Z:=by
 intro fuel;induction fuel with
 | zero =>
  rintro lv listed e ds Y Z _ hr hy ⟨f,c,d⟩;refine⟨fun q hq=>d q (lZ0 _ hq),fun h=>(by rw[h]at hr;cases hr),fun j hj=>?_⟩;by_cases hji:j=i
  ·subst hji;exact hy.opH hi (d p mC) ⟨f,c,fun q hq=>d q (lZ0 _ (Rg.1 hq).1)⟩
  ·have:=ready_mono hj hji;rw[f]at this;cases this
 | succ fuel ih =>
  intro lv listed e ds Y Z t hr hy H;have H':=H;obtain⟨HS,B,c⟩:=H;refine⟨fun q hq=>HS q (lZ0 _ hq),fun h=>(by rw[h]at hr;cases hr),fun j hj=>?_⟩;by_cases hji:j=i
  ·subst hji;exact hy.opH hi (HS p mC) (Ape (fun q hq=>lZ0 _ (Rg.1 hq).1) H')
  ·have a:=c j (ready_mono hj hji);obtain⟨u,oj,hoj,y⟩:=mem_ready.1 hj;have w:∀e∈oj.after,Region.binds .any e=true->e.on≠i:=fun e he hb heq=>by
    have a:=y e he hb;have g:=(mem_ready.1 hr).1;rw[heq]at a;rcases Tk i listed.size with h'|h'
    ·simp[h']at g a;rw[g]at a;cases a
    ·simp[Bhf h']at a
   have hwj:=hwt j oj hoj w;have x:=Akg hoj (t j oj hoj hji u w) (fun cs b=>hsel i oi cs b hi) (fun cs b=>hsel j oj cs b hoj) hy a;have z:∀k ok,ops[k]?=some ok->k≠i->(listed.setIfInBounds j true).getD k true=false ->
     (∀e∈ok.after,Region.binds .any e=true->e.on≠i)->oi.apart ops ok=true:=fun k ok hk hki hun hno=>by
    refine t k ok hk hki ?_ hno;by_cases hjk:j=k
    ·subst hjk;exact u
    ·rw[getD_set_ne true hjk]at hun;exact hun
   refine OpH.mono x fun e' ds' Y' Z' m=>ih (lv.filter fun p=>!wt j p) (listed.setIfInBounds j true) e' ds' Y' Z' z (ready_mono hr (Ne.symm hji)) m.1 ?_;rw[Array.setIfInBounds_comm _ _ hji];have n:=m.2;rw[List.filter_cons_of_pos (by rw[hwj];rfl)]at n;exact n
theorem Aks{lv:List α}{rs:List Nat}{fuel:Nat}{listed:Array Bool}{e:Env}{ds:List Deferred}{Y:Ro}{Z:Own}(hr:Region.ready .any ops listed=rs)(hne:rs≠[])(hS:∀p∈lv,S p Y Z)
  (h:∀i∈rs,OpH C b ops i (fun e' ds' Y' Z'=>Aip C b ops Q wt S fuel (lv.filter fun p=>!wt i p) (listed.setIfInBounds i true) e' ds' Y' Z') e ds Y Z):Aip C b ops Q wt S (fuel+1) lv listed e ds Y Z :=
 ⟨hS,fun a=>absurd (hr ▸ a) hne,hr ▸ h⟩
end
end
section
open Go Go.Conc
structure RG(C:Ctx) where
 b:FB
 l:List Oper
 pz:List Nat
 R0:XR
 Y0:Ro
 Z0:Own
 sf:St
abbrev LvE:=Nat×Option (Nat×Option CO×XR)
def wtL(l:List Oper)(j:Nat)(p:LvE):Bool:=xWaits l j p.1
def LvS(p:LvE)(Y:Ro)(Z:Own):Prop:=match p.2 with
 | none=>True
 | some (q,ob,Rt)=>∃R9 m8 Z8,MemX R9 m8 Y Z Z8/\XR.le Rt R9/\m8.obj q=ob
def LvOk(K:List (Nat×Nat))(m:Mem)(R:XR)(lv:List LvE):Prop:=∀p∈lv,∀q ob Rt,p.2=some (q,ob,Rt)->XR.le Rt R/\m.obj q=ob/\(p.1,q)∈K/\q<m.nx
theorem LvOk.S{K:List (Nat×Nat)}{m:Mem}{R:XR}{lv:List LvE}{Y:Ro}{Z Z9:Own}(h:LvOk K m R lv)(hm:MemX R m Y Z Z9):∀p∈lv,LvS p Y Z:=fun p hp=>by
 unfold LvS;split
 ·trivial
 ·rename_i q ob Rt he;obtain⟨a,b,_⟩:=h p hp q ob Rt he;exact⟨R,m,Z9,hm,a,b⟩
theorem Atq{wt:Nat->Bool}{n:Nat}{lg:List Nat}:∀{K K':List (Nat×Nat)},xKeep wt n lg K=some K'->∀a∈K,wt a.1=false->a∈K'/\xNoneOf [a.2] n lg=true
 | b::K,K',h,a,ha,hw=>by
  have h':(match wt b.1 with
   | true=>xKeep wt n lg K
   | false=>match xNoneOf [b.2] n lg with
    | true=>match xKeep wt n lg K with|some r=>some (b::r)|none=>none
    | false=>none)=some K':=h
  split at h'
  ·rename_i hb;rcases lZ8.1 ha with rfl|ha
   ·rw[hb]at hw;cases hw
   ·exact Atq h' a ha hw
  ·split at h'
   ·rename_i hno;split at h'
    ·rename_i r hr;cases h';rcases lZ8.1 ha with rfl|ha
     ·exact⟨Vb ..,hno⟩
     ·obtain⟨c,d⟩:=Atq hr a ha hw;exact⟨lZ0 _ c,d⟩
    ·cases h'
   ·cases h'
theorem LvOk.step{l:List Oper}{i:Nat}{K K':List (Nat×Nat)}{m m1:Mem}{R R':XR}{lv:List LvE}(h:LvOk K m R lv)(hk:Kept m m1)(hR:XR.le R R')(hn:xKeep (xWaits l i) (Nat.sub m1.ln m.ln) m1.log K=some K'):LvOk K' m1 R' (lv.filter fun p=>!wtL l i p):=fun p hp q ob Rt he=>by
 obtain⟨j,a⟩:=Rg.1 hp;obtain⟨c,d,e,b⟩:=h p j q ob Rt he;have hw:xWaits l i p.1=false:=by
  unfold wtL at a;cases hx:xWaits l i p.1 with
  | false=>rfl
  | true=>rw[hx]at a;cases a
 obtain⟨f,g⟩:=Atq hn _ e hw;obtain⟨w,k,t,n⟩:=hk.ex;have hq:q∉w:=Arb g k (by show w.length=m1.ln-m.ln;omega) q (Nh.2 rfl);exact⟨c.trans hR,by rw[n q b hq];exact d,f,Pa b hk.nx⟩
theorem LvOk.sub{K:List (Nat×Nat)}{m:Mem}{R:XR}{lv lv':List LvE}(h:LvOk K m R lv)(hs:∀p∈lv',p∈lv):LvOk K m R lv':=fun p hp=>h p (hs p hp)
theorem Auq{l:List Oper}{i:Nat}{p:LvE}(hp:p.1=i):∀j oj,l.toArray[j]?=some oj->(∀e∈oj.after,Region.binds .any e=true->e.on≠i)->wtL l j p=false:=fun j oj hj hn=>by
 unfold wtL xWaits;rw[Jw]at hj;rw[hj,hp];simp only;rw[Bdl];intro e he hb;simp only[Pc,beq_iff_eq]at hb;exact hn e (by simpa using he) hb.1 hb.2
section
variable{C:Ctx}
structure RG.Ok(g:RG C):Prop where
 sel:Apw g.l=true
 nr:NoRecv g.Z0
def RG.Q(g:RG C):Env->List Deferred->Ro->Own->Prop:=fun e ds Y Z=>∃R',XR.le g.R0 R'/\Ro.le g.Y0 Y/\Sim R' g.sf e ds Y Z g.Z0
def RG.A(g:RG C)(fuel:Nat)(lv:List LvE)(li:List Bool)(e:Env)(ds:List Deferred)(Y:Ro)(Z:Own):Prop:=Aip C g.b g.l.toArray g.Q (wtL g.l) LvS fuel lv li.toArray e ds Y Z
structure RG.At(g:RG C)(st:St)(R:XR)(e:Env)(ds:List Deferred)(Y:Ro)(Z σp:Own):Prop where
 le:XR.le g.R0 R
 rle:Ro.le g.Y0 Y
 sim:Sim R st e ds Y Z σp
variable{g:RG C}{F:Fns}{st:St}{R:XR}{e:Env}{ds:List Deferred}{Y:Ro}{Z σp:Own}{u:List Nat}{o:Oper}{x:CV}{i:Nat}{K:List (Nat×Nat)}
def Asm(g:RG C)(i:Nat)(o:Oper)(K':List (Nat×Nat))(st:St)(x:CV)(R:XR)(e:Env):Prop :=
 ∃v p,p.1=i/\V1 R x v/\YieldsH C.P g.l.toArray (LvS p) o v e/\∀q ob Rt,p.2=some (q,ob,Rt)->XR.le Rt R/\st.m.obj q=ob/\(i,q)∈K'/\q<st.m.nx
theorem Bva{q}(hat:g.At st R e ds Y Z σp)(he:(opK C.P o.op).run st.e st.m = .rd x q)(hok:xOkV x=true)(hw:Bz g.l.toArray o e=true):
  Asm g i o ((i,q)::K) st x R e:=by
 obtain⟨ob,ho,hd⟩:=Byq he;obtain⟨qq,hR⟩:=hat.sim.mem.known ho hd;have key:=Bbh o.op R st.e e st.m x q hat.sim.env hat.sim.mem.globR he;obtain⟨c,b,_⟩:=key R st.m Y Z σp hat.sim.mem rfl rfl;have hlt:q<st.m.nx:=let ⟨_,_,h⟩:=hat.sim.mem;h.lt _ _ hR
 refine⟨c,(i,some (q,st.m.obj q,R)),rfl,b,.inl ⟨hw,fun Y' Z' hS=>?_⟩,fun q' ob' Rt' h=>by cases h;exact⟨.refl,rfl,Vb ..,hlt⟩⟩;obtain⟨d,p,u,f,a,j⟩:=hS;obtain⟨t,k,n⟩:=key d p Y' Z' u f j (by rw[a _ _ hR,hR]);have:t=c:=k.uniq (b.mono a) hok;subst this;obtain⟨dd,op,ty,pos,af,gd⟩:=o;exact n dd ty pos af gd
theorem Bzg{m1}(hat:g.At st R e ds Y Z σp)(he:(opK C.P o.op).run st.e st.m = .v x m1)(hm:xMild o.op=true)(hn:m1.nx=st.m.nx)(hw:Bz g.l.toArray o e=true):
  Asm g i o K st x R e:=by
 rcases Bet o.op R st.e e st.m x m1 hat.sim.env hat.sim.mem.globR he with⟨_,v,hv,h⟩|⟨_,h,_⟩
 ·refine⟨v,(i,none),rfl,hv,.inl ⟨hw,fun Y' Z' _=>?_⟩,fun _ _ _ h=>by cases h⟩;obtain⟨dd,op,ty,pos,af,gd⟩:=o;exact h Y' Z' dd ty pos af gd
 ·exact absurd hn (h hm)
theorem Biw(hw:Bz g.l.toArray o e=false):Asm g i o K st .undef R e:=⟨undef,(i,none),rfl,.t .nil .nil,.inr ⟨hw,rfl⟩,fun _ _ _ h=>by cases h⟩
def UqOk(C:Ctx)(l:List Oper)(o:Oper)(st:St)(x:CV)(m1:Mem)(ds1:List CD):Prop :=
 ((guardK l o).run st.e=false/\x = .undef/\m1=st.m/\ds1=st.ds)∨((guardK l o).run st.e=true/\Auw C o.op st x m1 ds1)
theorem UqOk.kept{l m1 ds1}(h:UqOk C l o st x m1 ds1):Kept st.m m1/\m1.outs=st.m.outs/\ds1=st.ds:=by
 rcases h with⟨_,_,rfl,rfl⟩|⟨_,a,b,c,_⟩
 ·exact⟨.refl _,rfl,rfl⟩
 ·exact⟨a,b,c⟩
theorem Bff{b i l m1 ds1}(h:UqOk C l o st x m1 ds1)(hi:l[i]?=some o)(hk:(gokK l o).run st.e=true)(hn:NoRecv σp)(hs:Sim R st e ds Y Z σp):
  OpH C b l.toArray i (fun e' ds' Y' Z'=>ds'=ds/\∃R' v,XR.le R R'/\Ro.le Y Y'/\e'=Ja e o.dst v/\V1 R' x v/\MemX R' m1 Y' Z' σp) e ds Y Z:=by
 have hw:=Pj hs.env hk;unfold OpH;rw[Jw,hi];simp only;rcases h with⟨a,rfl,rfl,rfl⟩|⟨a,_,_,_,c⟩
 ·rw[if_neg (by rw[hw,a];simp)];exact⟨trivial,R,undef,.refl,.refl,rfl,.t .nil .nil,hs.mem⟩
 ·rw[if_pos (by rw[hw,a])];obtain⟨dd,op,ty,pos,af,gd⟩:=o;refine Eu (fun nx Z' hx=>hx.mono ?_) _ _ (c R e ds Y Z σp b.round dd ty pos af gd hn hs);rintro v ds1 Y' Z' ⟨rfl,R',d,f,g,j⟩;exact⟨rfl,R',v,d,f,rfl,g,j⟩
end
structure FlO where
 op:Op
 af:Array Edge
 vl:Nat->Value
 cx:Nat->CV
 t:TypeId
 vs:Env->List Value
structure FlD(P:Program)(l:List Oper)(f d:Nat)(w:FlO):Prop where
 at_:∃ty pos,l[f]?=some ⟨some d,w.op,ty,pos,w.af,none⟩
 val:∀(R:XR) n r,R n=some (r,0)->V1 R (w.cx n) (w.vl r)
 raw:∀(R:XR) e e' m,EnvR R e e'->Pe R->xIsV ((opK P w.op).run e m)=true->∀Y Z (Q:Next->Own->Prop) dd ty pos af g,(∀r,Q (.value (w.vl r)) ((r,.obj (.cells (w.vs e').toArray w.t (0,0)))::Z))->wpS P Y (execOp (Af e') ⟨dd,w.op,ty,pos,af,g⟩) Z Q
 run:∀(R:XR) e e' m x m',EnvR R e e'->Pe R->(opK P w.op).run e m = .v x m'->∃c,x=w.cx m.nx/\m'=m.add (.cells c)/\VR R c (w.vs e')
 simple:∀e m,simpleRd ((opK P w.op).run e m)
 free:∀(j:Nat) oj,l[j]?=some oj->j≠f->(∀e∈w.af,Region.binds .any e=true->e.on≠j)->(∀e∈oj.after,Region.binds .any e=true->e.on≠f)->d∉oj.looksAt l.toArray/\oj.dst≠some d/\∀e v,w.vs (Ja e oj.dst v)=w.vs e
theorem Bxf{P:Program}{o:Op}(h:(∃t,o = .alloc t)∨∃t n ps,o = .buildSlice t n ps)(af:Array Edge):∃w:FlO,w.op=o/\w.af=af/\(∀(R:XR) n r,R n=some (r,0)->V1 R (w.cx n) (w.vl r)) /\
  (∀(R:XR) e e' m,EnvR R e e'->Pe R->xIsV ((opK P o).run e m)=true->∀Y Z (Q:Next->Own->Prop) dd ty pos af g,(∀r,Q (.value (w.vl r)) ((r,.obj (.cells (w.vs e').toArray w.t (0,0)))::Z))->wpS P Y (execOp (Af e') ⟨dd,o,ty,pos,af,g⟩) Z Q) /\
  (∀(R:XR) e e' m x m',EnvR R e e'->Pe R->(opK P o).run e m = .v x m'->∃c,x=w.cx m.nx/\m'=m.add (.cells c)/\VR R c (w.vs e'))/\∀e (dst:Option Tmp) v,(∀d,dst=some d->(.tmp d:Operand)∉o.operands.toList)->w.vs (Ja e dst v)=w.vs e:=by
 have isV:∀{y:OR},xIsV y=true->∃x m',y = .v x m':=fun {y} h=>by
  cases y with
  | v x m=>exact⟨x,m,rfl⟩
  | _=>cases h
 rcases h with⟨t,rfl⟩|⟨t,n,ps,rfl⟩
 ·by_cases hz:∃z c,xZeroT P t=some z/\z.cells=some c
  ·obtain⟨z,c,hz,hc⟩:=hz;obtain⟨vs,D,E⟩:=Bfs hz hc;have B:∀e m,(opK P (.alloc t)).run e m = .v (.p m.nx 0) (m.add (.cells c)):=fun e m=>by unfold opK;simp only[hz,hc]
   refine⟨⟨.alloc t,af,fun r=>.pointer (some ⟨r,0,none⟩),fun n=>.p n 0,t,fun _=>vs⟩,rfl,rfl,fun R n r hr=>.p hr .nil,fun R e e' m _ _ _ Y Z Q dd ty pos af g hq=>E _ Y Z Q dd ty pos af g hq,fun R e e' m x m' _ _ h=>?_,fun _ _ _ _=>rfl⟩;rw[B]at h;obtain⟨rfl,rfl⟩:=Hs h;exact⟨c,rfl,rfl,D R⟩
  ·have hb:∀e m,(opK P (.alloc t)).run e m = .bad:=fun e m=>by
    unfold opK;simp only;split
    ·rename_i z hz';split
     ·rename_i c hc;exact absurd ⟨z,c,hz',hc⟩ hz
     ·rfl
    ·rfl
   refine⟨⟨.alloc t,af,fun r=>.pointer (some ⟨r,0,none⟩),fun n=>.p n 0,t,fun _=>[]⟩,rfl,rfl,fun R n r hr=>.p hr .nil,fun R e e' m _ _ h=>?_,fun R e e' m x m' _ _ h=>?_,fun _ _ _ _=>rfl⟩
   ·rw[hb]at h;cases h
   ·rw[hb]at h;cases h
 ·by_cases hk:∃el z,P.underlying t=some (.slice el)/\xSzT P el=some z
  ·obtain⟨el,z,hT,hz⟩:=hk;have C:∃zs:List Value,∀(R:XR) e e' m x m',EnvR R e e'->Pe R->(opK P (.buildSlice t n ps)).run e m = .v x m' ->
     ∃c a,x = .sl m.nx 0 n true n/\m'=m.add (.cells c)/\VR R c a/\Instr.fill (fun i=>some (i*z,z)) zs.toArray (ps.toList.map fun p=>(p.1,Af e' p.2))=some a.toArray /\
      ∀Y Z (Q:Next->Own->Prop) dd ty pos af g,(∀r,Q (.value (.slice (some ⟨r,0,none⟩) n n)) ((r,.obj (.cells a.toArray el (0,0)))::Z))->wpS P Y (execOp (Af e') ⟨dd,.buildSlice t n ps,ty,pos,af,g⟩) Z Q:=Aph hT hz
   obtain⟨zs,hzs⟩:=C;refine⟨⟨.buildSlice t n ps,af,fun r=>.slice (some ⟨r,0,none⟩) n n,fun k=>.sl k 0 n true n,el,fun e=>((Instr.fill (fun i=>some (i*z,z)) zs.toArray (ps.toList.map fun p=>(p.1,Af e p.2))).getD #[]).toList⟩,rfl,rfl,fun R n r hr=>.slK hr .nil,fun R e e' m he hg h Y Z Q dd ty pos af g hq=>?_,fun R e e' m x m' he hg h=>?_,fun e dst v hd=>?_⟩
   ·obtain⟨x,m',hv⟩:=isV h;obtain⟨c,a,_,_,_,b,u⟩:=hzs R e e' m x m' he hg hv;refine u Y Z Q dd ty pos af g fun r=>?_;have:=hq r;simp only[b,Amz]at this;exact this
   ·obtain⟨c,a,f,j,q,b,_⟩:=hzs R e e' m x m' he hg h;refine⟨c,f,j,?_⟩;simp only[b,Amz];exact q
   ·have:(ps.toList.map fun p=>(p.1,Af (Ja e dst v) p.2))=ps.toList.map fun p=>(p.1,Af e p.2):=Aqh fun p hp=>by
     rw[Aer fun d hd' he=>hd d hd' ?_];rw[<-he];simp only[Op.operands,Bmu];exact Rk hp
    simp only[this]
  ·have hb:∀e m,(opK P (.buildSlice t n ps)).run e m = .bad:=fun e m=>by
    unfold opK;simp only;split
    ·rename_i el hT;split
     ·rename_i z _ _ hz' _ _;exact absurd ⟨el,z,hT,hz'⟩ hk
     ·rfl
    ·rfl
   refine⟨⟨.buildSlice t n ps,af,fun r=>.slice (some ⟨r,0,none⟩) n n,fun k=>.sl k 0 n true n,t,fun _=>[]⟩,rfl,rfl,fun R n r hr=>.slK hr .nil,fun R e e' m _ _ h=>?_,fun R e e' m x m' _ _ h=>?_,fun _ _ _ _=>rfl⟩
   ·rw[hb]at h;cases h
   ·rw[hb]at h;cases h
theorem Bxe{P l f}(h:xFloat l=some f):∃d w,FlD P l f d w:=by
 have he:xEarly l f=true:=by
  unfold xFloat at h;split at h
  ·rename_i f' hf;subst h;have:=List.mem_of_find?_eq_some hf;unfold xCands at this;obtain⟨a,b,p⟩:=Lp.1 this;cases p;exact(Rg.1 b).2
  ·cases h
 unfold xEarly at he;cases hf:l[f]? with
 | none=>rw[hf]at he;cases he
 | some o =>
  rw[hf]at he;simp only[Pc]at he;obtain⟨b,c⟩:=he;obtain⟨dst,op,ty,pos,af,gd⟩:=o;simp only at b c;obtain⟨d,hd,hg,ho⟩:∃d,dst=some d/\gd=none/\((∃t,op = .alloc t)∨∃t n ps,op = .buildSlice t n ps):=by
   split at b
   ·exact⟨_,rfl,rfl,.inl ⟨_,rfl⟩⟩
   ·exact⟨_,rfl,rfl,.inr ⟨_,_,_,rfl⟩⟩
   ·cases b
  subst hd hg;obtain⟨w,u,x,y,z,B,C⟩:=Bxf (P:=P) ho af;subst u x;refine⟨d,w,⟨ty,pos,hf⟩,y,z,B,fun e m=>Bes _ ?_ ?_ e m,fun j oj hj hne q hno=>?_⟩
  ·rcases ho with⟨t,ho⟩|⟨t,n,ps,ho⟩<;>rw[ho]<;>rfl
  ·rcases ho with⟨t,ho⟩|⟨t,n,ps,ho⟩<;>rw[ho]<;>rfl
  ·have hap:=Region.free_spec (md:=.any) (ops:=l.toArray) (by rw[Jw];exact hf) (Ahw c) j oj (by rw[Jw];exact hj) hne (by
    rw[Mw,Oz];have hj':j<l.length:=(lZ1.1 hj).1;unfold xDeps;rw[Pb,Awp hj'];simp only[Aoy,Amz];rw[Bdl];intro e he hb;rw[Pc]at hb;exact q e (by simpa using he) hb.1 (by simpa using hb.2)) hno
   obtain⟨g,i,k⟩:=Oper.apart_spec hap;refine⟨g d rfl,i d rfl,fun e v=>C e oj.dst v fun d' hd' hm=>k d' hd' ?_⟩;exact Iz _ (List.mem_filterMap.2 ⟨.tmp d',by simpa using hm,rfl⟩)
section
variable{C:Ctx}{P:Program}{l:List Oper}{f d:Nat}{w:FlO}{li:List Bool}
theorem Arc{i o}(hi:i∈Dl l li)(ho:l[i]?=some o)(hf:li.getD f true=false):∀e∈o.after,Region.binds .any e=true->e.on≠f:=fun e he hb heq=>by
 rw[Oa]at hi;obtain⟨_,o',ho',b⟩:=mem_ready.1 hi;rw[Jw,ho]at ho';cases ho';have a:=b e he hb;rw[Mw,heq]at a;rw[Oz]at a hf;cases hx:li[f]? with
 | none=>rw[hx]at a;cases a
 | some y=>rw[hx]at a hf;simp only[Amz]at a hf;rw[a]at hf;cases hf
def DepOk(w:FlO)(li:List Bool):Prop:=∀e∈w.af,Region.binds .any e=true->li.getD e.on false=true
theorem DepOk.set(h:DepOk w li)(i:Nat):DepOk w (li.set i true):=fun e he hb=>by
 have:=h e he hb;rw[Oz]at this ⊢;rw[Vc];split
 ·split
  ·rfl
  ·rename_i h1 h2;rw[<-h1]at this;rw[Sr (by omega)]at this;exact this
 ·exact this
theorem DepOk.ne{i:Nat}(h:DepOk w li)(hi:i∈Dl l li):∀e∈w.af,Region.binds .any e=true->e.on≠i:=fun e he hb heq=>by
 have a:=h e he hb;have b:=Arg hi;rw[heq]at a;rw[Oz]at a b;cases hx:li[i]? with
 | none=>rw[hx]at a;cases a
 | some y=>rw[hx]at a b;simp only[Amz]at a b;rw[a]at b;cases b
theorem Za(h:FlD P l f d w)(hf:li.getD f true=false)(hd:DepOk w li):f∈Dl l li:=by rw[Oa,mem_ready];obtain⟨ty,pos,ha⟩:=h.at_;refine⟨by rw[Mw];exact hf,_,by rw[Jw];exact ha,fun e he hb=>?_⟩;rw[Mw];exact hd e he hb
theorem Bgs(h:FlD P l f d w)(hf:f∈Dl l li):DepOk w li:=by rw[Oa]at hf;obtain⟨_,o',ho',a⟩:=mem_ready.1 hf;obtain⟨ty,pos,ha⟩:=h.at_;rw[Jw,ha]at ho';cases ho';exact fun e he hb=>by have:=a e he hb;rw[Mw]at this;exact this
end
end
section
open Go Go.Conc
section
variable{C:Ctx}{F:Fns}
def Bjm(g:RG C)(fl:Option Nat)(r:List (Nat×Bool×Bool))(K:List (Nat×Nat))(st:St):Prop:=∀li,xGood g.l fl g.pz r li=true ->
 (∀fuel lv R e ds Y Z,r.length<=fuel->g.At st R e ds Y Z g.Z0->LvOk K st.m R lv->g.A fuel lv li e ds Y Z) /\
 (∀f d w rB fuel lv R e ds Y Z,fl=some f->li.getD f true=false->FlD C.P g.l f d w->DepOk w li->r.length<=fuel+1->g.At st R e ds Y Z ((rB,.obj (.cells (w.vs e).toArray w.t (0,0)))::g.Z0)->LvOk K st.m R lv->(∀p∈lv,wtL g.l f p=false) ->
  g.A fuel lv (li.set f true) (Ja e (some d) (w.vl rB)) ds Y Z)
theorem Agb{l fl pz i tk fp r li}(h:xGood l fl pz ((i,tk,fp)::r) li=true):
  i∈Dl l li/\xGood l fl pz r (li.set i true)=true/\(tk=true->i∈pz/\xTake l li i=true/\∀f,fl=some f->f≠i)/\(tk=false->xOnly l fl li i=true/\(xFp l fl li i=true->fp=true)):=by
 unfold xGood at h;cases tk with
 | true =>
  simp only[Pc]at h;obtain⟨⟨b,a⟩,c⟩:=h;refine⟨by simpa using b,c,fun _=>⟨by simpa using a.1.1,a.1.2,fun f hf e=>?_⟩,fun ht=>by cases ht⟩;subst hf e;have:=a.2;simp at this
 | false =>
  simp only[Pc]at h;obtain⟨⟨b,a⟩,c⟩:=h;refine⟨by simpa using b,c,fun ht=>(by cases ht),fun _=>⟨a.1,fun hx=>?_⟩⟩;have:=a.2;rw[hx]at this;exact this
theorem Btt{l fl i j li}(h:xOnly l fl li i=true)(hj:j∈Dl l li):j=i∨(fl=some j/\li.getD j true=false/\j≠i):=by
 unfold xOnly xRest0 at h;cases fl with
 | none =>
  have:=Te.1 h j hj;exact .inl (Hr this).symm
 | some f =>
  simp only at h;cases hb:Nat.beq f i with
  | true =>
   rw[hb]at h;have:=Te.1 h j hj;exact .inl (Hr this).symm
  | false =>
   rw[hb]at h;by_cases hjf:j=f
   ·subst hjf;exact .inr ⟨rfl,Arg hj,fun e=>by subst e;simp at hb⟩
   ·have:=Te.1 h j (Zk hj hjf);exact .inl (Hr this).symm
theorem Bok{l f i j li}(h:xOnly l (some f) li i=true)(hne:f≠i)(hj:j∈Dl l (li.set f true)):j=i:=by
 unfold xOnly xRest0 at h;simp only at h;have hb:Nat.beq f i=false:=by
  cases hb:Nat.beq f i with
  | true=>exact absurd (Hr hb) hne
  | false=>rfl
 rw[hb]at h;have:=Te.1 h j hj;exact(Hr this).symm
theorem Ahg{g:RG C}{fl i fp r o st st1 K K' x}(hg:g.Ok)(hi:g.l[i]?=some o)(hst:st1=⟨(dstK o.dst).run st.e x,st.m,st.ds⟩)(hK:∀a∈K,a∈K')(hy:∀R e ds Y Z σp,g.At st R e ds Y Z σp->Asm g i o K' st x R e)(ih:Bjm g fl r K' st1):Bjm g fl ((i,true,fp)::r) K st:=by
 intro li hgd;obtain⟨hr,hgr,ht,_⟩:=Agb hgd;obtain⟨_,htk,hnf⟩:=ht rfl;obtain⟨ihA,ihB⟩:=ih _ hgr;have y:=Region.noSelect_spec (Alr hg.sel);have G:Ahv g.l li i=true:=by
  unfold xTake at htk;rw[Pc]at htk;exact htk.2
 have hfs:=Region.free_spec (md:=.any) (ops:=g.l.toArray) (i:=i) (oi:=o) (by rw[Jw];exact hi) (Ahw G);have hi':g.l.toArray[i]?=some o:=by rw[Jw];exact hi
 refine⟨fun b lv R e ds Y Z t hat hlv=>?_,fun f d w rB b lv R e ds Y Z hfl hfu hfd hdp t hat hlv hlf=>?_⟩
 ·obtain⟨v,p,hp,hv,hyv,hpk⟩:=hy R e ds Y Z _ hat;have u:LvOk K' st1.m R (p::lv):=fun p' hp' q ob Rt he=>by
   subst hst;rcases lZ8.1 hp' with rfl|hp'
   ·obtain⟨c,h,k,n⟩:=hpk q ob Rt he;exact⟨c,h,hp ▸ k,n⟩
   ·obtain⟨c,h,k,n⟩:=hlv p' hp' q ob Rt he;exact⟨c,h,hK _ k,n⟩
  cases b with
  | zero=>simp at t
  | succ b =>
   refine Abw hi' y (Auq hp) b lv _ e ds Y Z hfs (Oa.1 hr) hyv ?_;rw[Ml];refine ihA b (p::lv) R _ ds Y Z (by simpa using t) ?_ u;subst hst;exact⟨hat.le,hat.rle,Om hat.sim.env hv,hat.sim.mem,hat.sim.ds⟩
 ·obtain⟨v,p,hp,hv,hyv,hpk⟩:=hy R e ds Y Z _ hat;have u:LvOk K' st1.m R (p::lv):=fun p' hp' q ob Rt he=>by
   subst hst;rcases lZ8.1 hp' with rfl|hp'
   ·obtain⟨c,h,k,n⟩:=hpk q ob Rt he;exact⟨c,h,hp ▸ k,n⟩
   ·obtain⟨c,h,k,n⟩:=hlv p' hp' q ob Rt he;exact⟨c,h,hK _ k,n⟩
  have hne:f≠i:=hnf f hfl;have H:∀p'∈p::lv,wtL g.l f p'=false:=fun p' hp'=>by
   rcases lZ8.1 hp' with rfl|hp'
   ·obtain⟨ty,pos,ha⟩:=hfd.at_;exact Auq hp f _ (by rw[Jw];exact ha) (hdp.ne hr)
   ·exact hlf p' hp'
  obtain⟨D,E,F⟩:=hfd.free i o hi (Ne.symm hne) (hdp.ne hr) (Arc hr hi hfu);have z:(li.set i true).getD f true=false:=by rw[Xd (Ne.symm hne)];exact hfu
  cases b with
  | zero =>
   exfalso;have I:r=[]:=Bmc.1 (by simpa using t);subst I;have:=Za (li:=li.set i true) hfd z (hdp.set i);have B:(match Dl g.l (li.set i true) with|[]=>true|_=>false)=true:=hgr;split at B
   ·rename_i h0;rw[h0]at this;cases this
   ·cases B
  | succ b =>
   refine Abw hi' y (Auq hp) b lv _ _ ds Y Z ?_ ?_ (Bca D (fun cs bb=>y i o cs bb hi') hyv) ?_
   ·intro j oj hj hji hun hno;refine hfs j oj hj hji ?_ hno;rw[Mw]at hun ⊢;by_cases hjf:f=j
    ·subst hjf;exact hfu
    ·rw[Xd hjf]at hun;exact hun
   ·exact Oa.1 (Zk hr (Ne.symm hne))
   ·rw[Ml,List.set_comm _ _ hne,Vx e _ v (fun d' hd=>by cases hd;exact E)];refine ihB f d w rB b (p::lv) R _ ds Y Z hfl z hfd (hdp.set i) (by simpa using t) ?_ u H;rw[F];subst hst;exact⟨hat.le,hat.rle,Om hat.sim.env hv,hat.sim.mem,hat.sim.ds⟩
theorem Bif{g:RG C}{fl i fp r o st st1 K K' x m1 ds1}(hg:g.Ok)(hi:g.l[i]?=some o)(hkp:Kept st.m m1)(hn:xKeep (xWaits g.l i) (Nat.sub m1.ln st.m.ln) m1.log K=some K')(hfl:∀f,fl=some f->∃d w,FlD C.P g.l f d w)(hfo:fp=true->∀f d w,fl=some f->FlD C.P g.l f d w->xIsV ((opK C.P w.op).run st.e st.m)=true)(hk:(gokK g.l o).run st.e=true)(hst:st1=⟨(dstK o.dst).run st.e x,m1,ds1⟩)(hdo:UqOk C g.l o st x m1 ds1)(hal:∀f d w,fl=some f->f=i->FlD C.P g.l f d w->∀(R:XR) e,EnvR R st.e e->Pe R->∃c,x=w.cx st.m.nx/\m1=st.m.add (.cells c)/\VR R c (w.vs e))(ih:Bjm g fl r K' st1):Bjm g fl ((i,false,fp)::r) K st:=by
 intro li hgd;have a3:=hgd;obtain⟨hr,hgr,_,ht⟩:=Agb hgd;obtain⟨hon,YQ⟩:=ht rfl;obtain⟨ihA,ihB⟩:=ih _ hgr;have a2:=Region.noSelect_spec (Alr hg.sel);have hi':g.l.toArray[i]?=some o:=by rw[Jw];exact hi
 have hds:=hdo.kept.2.2;have B:∀f d w rB a lv R e ds Y Z,fl=some f->li.getD f true=false->FlD C.P g.l f d w->DepOk w li->r.length+1<=a+1->g.At st R e ds Y Z ((rB,.obj (.cells (w.vs e).toArray w.t (0,0)))::g.Z0)->LvOk K st.m R lv->(∀p∈lv,wtL g.l f p=false) ->
   g.A a lv (li.set f true) (Ja e (some d) (w.vl rB)) ds Y Z:=by
  intro f d wo rB a lv R e ds Y Z F hfu hfd hdp n hat hlv hlf;by_cases hne:f=i
  ·obtain⟨c,hx,ZQ,hcv⟩:=hal f d wo F hne hfd R e hat.sim.env hat.sim.mem.globR;subst hne;obtain⟨ty,pos,E⟩:=hfd.at_;rw[hi]at E;cases E;have hfr:XR.le R (R.add st.m.nx (rB,0)):=let ⟨_,_,hm0⟩:=hat.sim.mem;hm0.fresh _
   have had:=hat.sim.mem.adopt (b:=rB) (c:=0) (r:=.obj (.cells (wo.vs e).toArray wo.t (0,0))) (o:=.cells c) (.cells (hcv.mono hfr) (Aoq _));have y:LvOk K' st1.m (R.add st.m.nx (rB,0)) lv:=by
    have k:=hlv.step (l:=g.l) hkp hfr hn;rw[List.filter_eq_self.2 fun p hp=>by rw[hlf p hp];rfl]at k;subst hst;exact k
   refine ihA a lv (R.add st.m.nx (rB,0)) _ ds Y Z (by omega) ?_ y;subst hst hx ZQ;refine⟨hat.le.trans had.1,hat.rle,?_,had.2,?_⟩
   ·exact(hat.sim.env.mono had.1).set (hfd.val _ _ _ XR.add_same)
   ·rw[hds];exact hat.sim.ds.mono had.1
  ·obtain⟨O,T,U⟩:=hfd.free i o hi (Ne.symm hne) (hdp.ne hr) (Arc hr hi hfu);have L:(li.set i true).getD f true=false:=by rw[Xd (Ne.symm hne)];exact hfu
   cases a with
   | zero =>
    exfalso;have a0:r=[]:=Bmc.1 (by omega);subst a0;have:=Za (li:=li.set i true) hfd L (hdp.set i);have M:(match Dl g.l (li.set i true) with|[]=>true|_=>false)=true:=hgr;split at M
    ·rename_i k;rw[k]at this;cases this
    ·cases M
   | succ a =>
    refine Aks (rs:=Dl g.l (li.set f true)) (Hh _ _) (fun k=>?_) (hlv.S hat.sim.mem) fun j hj=>?_
    ·have:=Zk hr (Ne.symm hne);rw[k]at this;cases this
    ·subst F;have hji:=Bok hon hne hj;subst hji;have hn':NoRecv ((rB,.obj (.cells (wo.vs e).toArray wo.t (0,0)))::g.Z0):=Jb hg.nr;refine Btu hi' O T (fun cs bb=>a2 j o cs bb hi') ?_ (Bff (b:=g.b) hdo hi hk hn' hat.sim);rintro N q z D ⟨rfl,R',v,h,G,rfl,H,I⟩;have u:g.At st1 R' (Ja e o.dst v) q z D ((rB,.obj (.cells (wo.vs (Ja e o.dst v)).toArray wo.t (0,0)))::g.Z0):=by
      rw[U];subst hst;exact⟨hat.le.trans h,hat.rle.trans G,Om (hat.sim.env.mono h) H,I,by rw[hds];exact hat.sim.ds.mono h⟩
     have y:LvOk K' st1.m R' (lv.filter fun p=>!wtL g.l j p):=by
      subst hst;exact hlv.step hkp h hn
     rw[Ml,List.set_comm _ _ hne];exact ihB f d wo rB a _ R' _ q z D rfl L hfd (hdp.set j) (by omega) u y fun p hp=>hlf p (Rg.1 hp).1
 refine⟨fun a lv R e ds Y Z n hat hlv=>?_,fun f d w rB a lv R e ds Y Z F hfu hfd hdp n hat hlv hlf=>B f d w rB a lv R e ds Y Z F hfu hfd hdp (by simpa using n) hat hlv hlf⟩;cases a with
 | zero=>simp at n
 | succ a =>
  refine Aks (rs:=Dl g.l li) (Hh _ _) (fun k=>by rw[k]at hr;cases hr) (hlv.S hat.sim.mem) fun j hj=>?_;rcases Btt hon hj with rfl|⟨hflj,hfu,hne⟩
  ·refine(Bff (b:=g.b) hdo hi hk hg.nr hat.sim).mono ?_;rintro N q z D ⟨rfl,R',v,h,G,rfl,H,I⟩;have u:g.At st1 R' (Ja e o.dst v) q z D g.Z0:=by
    subst hst;exact⟨hat.le.trans h,hat.rle.trans G,Om (hat.sim.env.mono h) H,I,by rw[hds];exact hat.sim.ds.mono h⟩
   have y:LvOk K' st1.m R' (lv.filter fun p=>!wtL g.l j p):=by
    subst hst;exact hlv.step hkp h hn
   rw[Ml];exact ihA a _ R' _ q z D (by simpa using n) u y
  ·obtain⟨d,wo,hfd⟩:=hfl j hflj;have X:fp=true:=YQ (by
    unfold xFp;rw[hflj];have V:Nat.beq j i=false:=by
     cases hb:Nat.beq j i with
     | true=>exact absurd (Hr hb) hne
     | false=>rfl
    have W:(Dl g.l li).contains j=true:=by simpa using hj
    simp only[V,W];rfl)
   have a1:=hfd.raw R st.e e st.m hat.sim.env hat.sim.mem.globR (hfo X j d wo hflj hfd);have hdp:=Bgs hfd hj;obtain⟨ty,pos,E⟩:=hfd.at_;unfold OpH;rw[Jw,E];simp only;rw[if_pos (by rfl)];refine a1 Y Z _ _ _ _ _ _ fun J=>?_;have u:g.At st R e ds Y ((J,.obj (.cells (wo.vs e).toArray wo.t (0,0)))::Z) ((J,.obj (.cells (wo.vs e).toArray wo.t (0,0)))::g.Z0):=⟨hat.le,hat.rle,hat.sim.env,hat.sim.mem.frame,hat.sim.ds⟩;rw[Ml];refine B j d wo J a _ R e ds Y _ hflj hfu hfd hdp (by simpa using n) u (hlv.sub fun p hp=>(Rg.1 hp).1) fun p hp=>?_;have:=(Rg.1 hp).2;simpa using this
end
end
section
open Go Go.Conc
section
variable{C:Ctx}{F:Fns}
theorem Bra{P:Program}{fo:KH}{l:List Oper}{i:Nat}{fp:Bool}{r:List (Nat×Bool×Bool)}{o:Oper}(hi:l[i]?=some o){rd:Option Nat}{K:List (Nat×Nat)}{st:St} :
  (anyK P l fo ((i,true,fp)::r)).run F rd K st=(match (gokK l o).run st.e with
    | true=>match (guardK l o).run st.e with
     | false=>(anyK P l fo r).run F rd K ⟨(dstK o.dst).run st.e .undef,st.m,st.ds⟩
     | true=>match (opK P o.op).run st.e st.m with
      | .rd x q=>match xOkV x with
       | true=>(anyK P l fo r).run F rd ((i,q)::K) ⟨(dstK o.dst).run st.e x,st.m,st.ds⟩
       | false=>.bad
      | .v x m=>match Nat.beq m.nx st.m.nx with
       | true=>(anyK P l fo r).run F rd K ⟨(dstK o.dst).run st.e x,st.m,st.ds⟩
       | false=>.bad
      | _=>.bad
    | false=>.bad):=by rw[anyK];simp only[hi]<;>rfl
theorem Brb{P:Program}{fo:KH}{l:List Oper}{i:Nat}{fp:Bool}{r:List (Nat×Bool×Bool)}{o:Oper}(hi:l[i]?=some o){rd:Option Nat}{K:List (Nat×Nat)}{st:St} :
  (anyK P l fo ((i,false,fp)::r)).run F rd K st=(match (match fp with|true=>fo.run st.e st.m|false=>true),(gokK l o).run st.e with
    | true,true=>match (match (guardK l o).run st.e with|false=>OV.v .undef st.m st.ds|true=>doOR F st ((opK P o.op).run st.e st.m)) with
     | .v x m ds=>match xKeep (xWaits l i) (Nat.sub m.ln st.m.ln) m.log K with
      | some K=>(anyK P l fo r).run F rd K ⟨(dstK o.dst).run st.e x,m,ds⟩
      | none=>.bad
     | .bad=>.bad
    | _,_=>.bad):=by rw[anyK];simp only[hi]<;>rfl
theorem Bft{P fo l i tk fp r}(hi:l[i]?=none){rd K st}:
  (anyK P l fo ((i,tk,fp)::r)).run F rd K st = .bad:=by rw[anyK];simp only[hi]
theorem Fs{ex st}(h:Go.Proofs.YtekhlbdfjkndnaaGreatDoor.R.bad=Gk ex st):False:=by cases ex<;>cases h
def Ccc(C:Ctx)(l:List Oper)(pz:List Nat)(fl:Option Nat)(r:List (Nat×Bool×Bool))(K:List (Nat×Nat))(st:St)(ex:Ex)(st':St):Prop :=
 ex = .normal/\Kept st.m st'.m/\st'.m.outs=st.m.outs/\st'.ds=st.ds/\∀g:RG C,g.Ok->g.l=l->g.pz=pz->g.sf=st'->Bjm g fl r K st
theorem Aku(hF:FnsOk C F){l:List Oper}{pz:List Nat}{fl:Option Nat}(hfl:∀f,fl=some f->∃d w,FlD C.P l f d w):∀(r:List (Nat×Bool×Bool)) (K:List (Nat×Nat)) (st:St) (rd:Option Nat) (ex:Ex) (st':St),
  (∀i tk fp,(i,tk,fp)∈r->tk=true->∀o,l[i]?=some o->xMild o.op=true) ->
  (anyK C.P l (flK C.P l fl) r).run F rd K st=Gk ex st'->Ccc C l pz fl r K st ex st'
 | [],K,st,rd,ex,st',_,h=>by
  have h':Go.Proofs.YtekhlbdfjkndnaaGreatDoor.R.n st=Gk ex st':=h;cases ex with
  | normal =>
   cases h';refine⟨rfl,.refl _,rfl,rfl,?_⟩;rintro g hg rfl rfl hsf li hgd;have y:(match Dl g.l li with|[]=>true|_=>false)=true:=hgd;have z:Dl g.l li=[]:=by
    split at y
    ·assumption
    ·cases y
   refine⟨fun u lv R e ds Y Z _ hat hlv=>?_,fun f d w rB u lv R e ds Y Z _ hfu hfd hdp _ hat _ _=>?_⟩
   ·exact Afk (by rw[Hh];exact z) ⟨R,hat.le,hat.rle,by rw[hsf];exact hat.sim⟩ (hlv.S hat.sim.mem) u
   ·have:=Za (li:=li) hfd hfu hdp;rw[z]at this;cases this
  | exit id=>cases h'
  | ret=>cases h'
 | (i,tk,fp)::r,K,st,rd,ex,st',hmd,h=>by
  cases hi:l[i]? with
  | none=>rw[Bft hi]at h;exact(Fs h).elim
  | some o =>
   have t:∀i tk fp,(i,tk,fp)∈r->tk=true->∀o,l[i]?=some o->xMild o.op=true:=fun i tk fp hm=>hmd i tk fp (lZ0 _ hm);cases tk with
   | true =>
    rw[Bra hi]at h;split at h
    ·rename_i hgk;split at h
     ·rename_i hgd;obtain⟨a,b,k,p,j⟩:=Aku hF (pz:=pz) hfl r K ⟨(dstK o.dst).run st.e .undef,st.m,st.ds⟩ rd ex st' t h;refine⟨a,b,k,p,?_⟩;rintro g hg rfl rfl hsf;exact Ahg hg hi rfl (fun _ ha=>ha) (fun R e ds Y Z σp hat=>Biw (by rw[Pj hat.sim.env hgk];exact hgd)) (j g hg rfl rfl hsf)
     ·rename_i hgd;split at h
      ·rename_i x q he;split at h
       ·rename_i hok;obtain⟨a,b,k,p,j⟩:=Aku hF (pz:=pz) hfl r ((i,q)::K) ⟨(dstK o.dst).run st.e x,st.m,st.ds⟩ rd ex st' t h;refine⟨a,b,k,p,?_⟩;rintro g hg rfl rfl hsf;exact Ahg hg hi rfl (fun _ ha=>lZ0 _ ha) (fun R e ds Y Z σp hat=>Bva hat he hok (by rw[Pj hat.sim.env hgk];exact hgd)) (j g hg rfl rfl hsf)
       ·exact(Fs h).elim
      ·rename_i x m1 he;split at h
       ·rename_i hnx;obtain⟨a,b,k,p,j⟩:=Aku hF (pz:=pz) hfl r K ⟨(dstK o.dst).run st.e x,st.m,st.ds⟩ rd ex st' t h;refine⟨a,b,k,p,?_⟩;rintro g hg rfl rfl hsf;exact Ahg hg hi rfl (fun _ ha=>ha) (fun R e ds Y Z σp hat=>Bzg hat he (hmd i true fp mC rfl o hi) (Hr hnx) (by rw[Pj hat.sim.env hgk];exact hgd)) (j g hg rfl rfl hsf)
       ·exact(Fs h).elim
      ·exact(Fs h).elim
    ·exact(Fs h).elim
   | false =>
    rw[Brb hi]at h;split at h
    ·rename_i hfoc hgk;have hfo:fp=true->∀f d w,fl=some f->FlD C.P l f d w->xIsV ((opK C.P w.op).run st.e st.m)=true:=fun hf f d w hff hfd=>by
      rw[hf]at hfoc;subst hff;obtain⟨ty,pos,ha⟩:=hfd.at_;unfold flK at hfoc;simp only[ha]at hfoc;exact hfoc
     split at h
     ·rename_i x m1 ds1 hov;have hdo:UqOk C l o st x m1 ds1:=by
       split at hov
       ·rename_i hgd;cases hov;exact .inl ⟨hgd,rfl,rfl,rfl⟩
       ·rename_i hgd;exact .inr ⟨hgd,Aan hF hov⟩
      have hal:∀f d w,fl=some f->f=i->FlD C.P l f d w->∀(R:XR) e,EnvR R st.e e->Pe R->∃c,x=w.cx st.m.nx/\m1=st.m.add (.cells c)/\VR R c (w.vs e):=by
       rintro f d w hf rfl hfd R e he hg;obtain⟨ty,pos,ha⟩:=hfd.at_;rw[hi]at ha;cases ha;have hgd:(guardK l ⟨some d,w.op,ty,pos,w.af,none⟩).run st.e=true:=rfl;rw[hgd]at hov;simp only at hov;cases hr:(opK C.P w.op).run st.e st.m with
       | v x' m' =>
        rw[hr]at hov;obtain⟨a,b,_⟩:=Bop hov;subst a b;exact hfd.run R st.e e st.m _ _ he hg hr
       | bad=>rw[hr]at hov;cases hov
       | _=>have:=hfd.simple st.e st.m;rw[hr]at this;exact this.elim
      split at h
      ·rename_i K' hn;obtain⟨a,b,k,p,j⟩:=Aku hF (pz:=pz) hfl r K' ⟨(dstK o.dst).run st.e x,m1,ds1⟩ rd ex st' t h;refine⟨a,hdo.kept.1.trans b,k.trans hdo.kept.2.1,p.trans hdo.kept.2.2,?_⟩;rintro g hg rfl rfl hsf;exact Bif hg hi hdo.kept.1 hn hfl hfo hgk rfl hdo hal (j g hg rfl rfl hsf)
      ·exact(Fs h).elim
     ·exact(Fs h).elim
    ·exact(Fs h).elim
theorem Apd{b:FB}{ops:Array Oper}{Q Q':Env->List Deferred->Ro->Own->Prop}{pz:List Nat}{S:Ro->Own->Prop}(hq:∀e ds Y Z,Q e ds Y Z->Q' e ds Y Z):∀(fuel:Nat) (li:Array Bool) (e:Env) (ds:List Deferred) (Y:Ro) (Z:Own),El C b ops Q pz S fuel li e ds Y Z->El C b ops Q' pz S fuel li e ds Y Z
 | 0,li,e,ds,Y,Z,h=>⟨h.1,hq _ _ _ _ h.2⟩
 | fuel+1,li,e,ds,Y,Z,h=>by
  rcases h with h|⟨Y1,Z1,h1,h2,h3,h4⟩
  ·exact .inl h
  ·exact .inr ⟨Y1,Z1,h1,h2,fun h0=>hq _ _ _ _ (h3 h0),fun i hi=>(h4 i hi).mono fun e ds Y Z h=>⟨h.1,Apd hq fuel _ e ds Y Z h.2⟩⟩
theorem Aqe{l:List Oper}{fl:Option Nat}{pz:List Nat}:∀{r:List (Nat×Bool×Bool)} {li:List Bool},xGood l fl pz r li=true->∀i tk fp,(i,tk,fp)∈r->tk=true->∀o,l[i]?=some o->xMild o.op=true
 | [],_,_,_,_,_,hm,_,_,_=>by cases hm
 | (i0,tk0,fp0)::r,li,h,i,tk,fp,hm,ht,o,ho=>by
  obtain⟨_,h2,h3,_⟩:=Agb h;rcases lZ8.1 hm with h0|h0
  ·cases h0;have:=(h3 ht).2.1;unfold xTake at this;rw[ho]at this;simp only[Pc]at this;exact this.1.1
  ·exact Aqe h2 i tk fp h0 ht o ho
theorem Aeq(l:List Oper)(fl:Option Nat):∀(n:Nat) (li:List Bool),(xPlan l fl n li).length<=n
 | 0,_=>Ib _
 | n+1,li=>by
  unfold xPlan;split
  ·split
   ·split
    ·exact Hn _
    ·exact Awu (Aeq l _ n _)
   ·exact Hn _
  ·split
   ·exact Awu (Aeq l _ n _)
   ·split
    ·exact Awu (Aeq l _ n _)
    ·exact Hn _
theorem Avs(hF:FnsOk C F){l st rd ex st'}(h:(drawK C.P l).run F rd st=Gk ex st'):
  C.P.follows .mixedOrders=true/\ex = .normal/\Kept st.m st'.m/\st'.m.outs=st.m.outs/\∃pz,∀b R e ds Y Z Z9,NoRecv Z9->Sim R st e ds Y Z Z9 ->
   ∃S:Ro->Own->Prop,El C b l.toArray (fun e' ds' Y' Z'=>∃R',XR.le R R'/\Ro.le Y Y'/\Sim R' st' e' ds' Y' Z' Z9) pz S l.length (List.replicate l.length false).toArray e ds Y Z:=by
 unfold drawK at h;split at h
 ·rename_i hsel hmx;refine⟨hmx,?_⟩;simp only at h;split at h
  ·rename_i hgood hany;have hk:∀{k:KD},(∃f,k=⟨f⟩)->True:=fun _=>trivial;generalize hp:xPlan l (xFloat l) l.length (List.replicate l.length false)=p at *;have n:(anyK C.P l (flK C.P l (xFloat l)) p).run F rd [] st=Gk ex st':=by
    rw[hany];exact h
   have hfl:∀f,xFloat l=some f->∃d w,FlD C.P l f d w:=fun f hf=>Bxe hf;obtain⟨c,i,j,q,a⟩:=Aku hF (pz:=xPz p) hfl p [] st rd ex st' (Aqe hgood) n;refine⟨c,i,j,[],fun b R e ds Y Z Z9 hn hs=>?_⟩
   let g:RG C:=⟨b,l,xPz p,R,Y,Z9,st'⟩
   have hg:g.Ok:=⟨hsel,hn⟩;have hA:=(a g hg rfl rfl rfl _ hgood).1;refine⟨fun _ _=>True,Akt (hA l.length [] R e ds Y Z ?_ ⟨.refl,.refl,hs⟩ fun p hp=>(by cases hp))⟩;rw[<-hp];exact Aeq l (xFloat l) l.length _
  ·exact(Fs h).elim
 ·exact(Fs h).elim
end
end
section
open Go Go.Conc
section
variable{C:Ctx}{b:FB}{n:Nat}
theorem Bfr{l₀ id Q Q' e ds Y Z}(k:Nat)(pz:List Nat)(S:Ro->Own->Prop)(hm:C.P.follows .mixedOrders=true)(hs':Fu n l₀.toArray=true)(hk':b.kind ≠ .early)(hd:∃oL,l₀.drop k=[oL])(hg:Adh (l₀.take k)=true)(hc:Amp (l₀.take k) l₀=true)(hQ:∀e ds Y Z,Q' e ds Y Z->Lq C b n l₀.toArray [(l₀.take k).length] (fun e ds Y Z=>Q .normal e ds Y Z) e ds Y Z)(h2:El C b (l₀.take k).toArray Q' pz S (l₀.take k).length (List.replicate (l₀.take k).length false).toArray e ds Y Z):WpC C b n (.region id l₀.toArray true) Q e ds Y Z:=by
 obtain⟨oL,hd⟩:=hd;have hl:l₀.take k++[oL]=l₀:=by rw[<-hd,Zd]
 have f:l₀.toArray.size=(l₀.take k).length+1:=by
  rw[Aiy];have:=congrArg List.length hl;simp only[lZ4,Xo]at this;omega
 intro tm ks cs ht;refine .step (fun fr' cs' Z'=>∃t,fr'=Fr b tm ds (.inRegion l₀.toArray (Region.linearise .any l₀.toArray t)::ks)/\cs'=cs/\Z'=Z) (fun W a=>?_) ?_
 ·refine⟨_,cs,{W with drawn:=W.drawn+1},#[],Z,?_,?_,by simp,W.tape W.drawn (.order b.fn id),rfl,rfl,rfl⟩
  ·simp[Conc.G,stepG,stepG.exec,Fr,choose,Sem.run,Question.forced,Question.cut,Region.schedule,hm]
  ·have:=Trans.refl a;exact⟨⟨a.ro,a.own,a.nd,a.dj⟩,this.size,this.keys,this.kept,this.fresh,this.frame,this.ends,this.chans,this.chansKept,this.crowds,this.crowdsKept,rfl,rfl,rfl⟩
 ·rintro _ _ g ⟨t,rfl,hcs,hZ⟩;replace hZ:=hZ.symm;replace hcs:=hcs.symm;subst hZ hcs;have key:=Aap (C:=C) (b:=b) (n:=n) (l':=l₀.take k) (oL:=oL) (Q:=fun e ds Y Z=>Q .normal e ds Y Z) (pz:=pz) (S:=S) (by rw[hl];exact hs') hk' hg (by rw[hl];exact hc) (fun e ds Y Z h=>by rw[hl];exact hQ e ds Y Z h) (l₀.take k).length t (List.replicate (l₀.take k).length false) e ds Y Z (by simp) (by
   unfold Mh;rw[Te];intro i hi;have:(List.replicate (l₀.take k).length false).getD i false=false:=by
    rw[Oz,Bmb];split<;>rfl
   rw[this];rfl) h2
  rw[hl]at key;have c:Region.linearise .any l₀.toArray t=Region.linearise.go .any l₀.toArray ((l₀.take k).length+1) t (List.replicate (l₀.take k).length false++[false]).toArray []:=by
   unfold Region.linearise;rw[f];congr 1;rw[<-List.replicate_succ',List.toArray_replicate]
  rw[c];refine(key tm ks cs ht).mono ?_;rintro _ _ Y' Z' (⟨rfl,tm',e',ds',d,h2,rfl⟩|hp)
  ·exact .inl ⟨rfl,.normal,tm',e',ds',ks,d,h2,rfl,rfl⟩
  ·exact .inr hp
end
section
variable{C:Ctx}{G:GoT C}{F:Fns}{dx:DX}
def Wx(G:GoT C)(n:Nat)(rd:Option Nat)(c:Code)(st:St)(ex:Ex)(st':St):Prop:=∀b:FB,b.kind ≠ .early->Bvi G b n rd c st ex st'
theorem Avz{l}(h:xGoLast l=true):∃oL,l.drop (l.length-1)=[oL]:=by
 unfold xGoLast at h;cases hl:l.getLast? with
 | none=>rw[hl]at h;cases h
 | some o =>
  refine⟨o,?_⟩;obtain⟨pre,rfl⟩:=List.getLast?_eq_some_iff.1 hl;simp
theorem Byx(hF:FnsOk C F)(hx:Abs G F dx)(hgl:dx.gl=true->(∃S,G=goT C S)/\∀S,Abs (goT C S) F dx){n id l draw rd st ex st'}(h:(regK C.P dx n l draw).run F rd st=Gk ex st'):
  Wx G n rd (.region id l.toArray draw) st ex st':=by
 intro b hb;unfold regK at h;split at h
 ·exact(Fs h).elim
 ·rename_i hsl;have i:=Abb hsl;split at h
  ·obtain⟨rfl,a,d⟩:=Afb hx l st rd ex st' h;exact⟨a,fun hs R e ds Y Z Z9 hn hr c=>Axy (d hs b n R e ds Y Z Z9 i hb hn hr c)⟩
  ·split at h
   ·obtain⟨hm,rfl,a,d,pz,p⟩:=Avs hF h;refine⟨a,fun hs R e ds Y Z Z9 hn hr c=>?_⟩;obtain⟨S,hA⟩:=p b R e ds Y Z Z9 hn c;rw[d];refine Reach.of_wp (Vk pz S hm i hb ?_);refine Apd (fun e ds Y Z h=>⟨rfl,h⟩) _ _ _ _ _ _ ?_;simpa using hA
   ·exact(Fs h).elim
   ·rename_i hgo hgl1;obtain⟨⟨j,hG⟩,hxa⟩:=hgl hgl1;split at h
    ·rename_i f g hng hlb hf hg;have hf':drawK C.P (l.take (l.length-1))=⟨f⟩:=hf;have hg':textK C.P dx l (l.drop (l.length-1))=⟨g⟩:=hg;have h':(match f F rd st with | .n st=>g F rd st|_=>Go.Proofs.YtekhlbdfjkndnaaGreatDoor.R.bad)=Gk ex st':=h;split at h'
     ·rename_i st1 hf1;have hd:(drawK C.P (l.take (l.length-1))).run F rd st=Gk .normal st1:=by rw[hf'];exact hf1
      have ht:(textK C.P dx l (l.drop (l.length-1))).run F rd st1=Gk ex st':=by rw[hg'];exact h'
      obtain⟨hm,_,a,d,pz,p⟩:=Avs hF hd;obtain⟨rfl,D,_⟩:=Afb (hxa j) _ _ _ _ _ ht;refine⟨a.trans D,fun hs R e ds Y Z Z9 hn hr c=>?_⟩;obtain⟨S,hA⟩:=p b R e ds Y Z Z9 hn c;subst hG;have hwp:WpC C b n (.region id l.toArray true) (fun ex' e' ds' Y' Z'=>ex' = .normal/\∃R',XR.le R R'/\Ro.le Y Y'/\Sim R' st' e' ds' Y' Z' Z9) e ds Y Z:=by
       obtain⟨oL,hdr⟩:=Avz hgo;refine Bfr (l.length-1) pz S hm i hb ⟨oL,hdr⟩ hng hlb ?_ hA;rintro w v J K ⟨t,q,I,E⟩ tm k cs H;have hT:=(Afb (hxa (fun fr cs' Y' Z'=>cs'=cs/\∃tm' e' ds',EnvOf n tm' e'/\(Ex.normal=Ex.normal/\∃R',XR.le R R'/\Ro.le Y Y'/\Sim R' st' e' ds' Y' Z' Z9)/\fr=Fr b tm' ds' k)) _ _ _ _ _ ht).2.2 trivial b n t w v J K Z9 i hb hn (hr.mono q) E;have:=hT (l.take (l.length-1)) (Zd _ _).symm tm k cs H fun tm' e' ds' Y' Z' x ⟨u,y,z,B⟩=>.stop ⟨rfl,tm',e',ds',x,⟨rfl,u,q.trans y,I.trans z,B⟩,rfl⟩;rw[hdr]at this;exact GoesH.mono this fun _ _ _ _ h=>.inl h
      exact(Reach.of_wp (G:=goT C j) (o:=st.m.outs) hwp:Reach (goT C j) b n _ st.m.outs e ds Y Z _ st.m.outs _)
     ·exact(Fs h').elim
    ·exact(Fs h).elim
end
end
section
open Go Go.Conc
theorem Aij{P main b tm ds f ps assign body k cs kk fn caps W W' lm es}(hk:b.kind ≠ .early)(hf:(Fr b tm ds (.code (.rangeFunc f ps assign body)::k)).eval f = .func (.func kk) #[] caps.toArray)(h1:P.funcs[kk]?=some fn)(h2:(fn.name == "runtime.NumGoroutine")=false)(h3:fn.body.isNone=false)(hrun:(Instr.enterLoop b.fn tm ps assign body b.round).runT P W #[]=(.ok lm W',es)):
  ∃es',stepG P main (Conc.G (Fr b tm ds (.code (.rangeFunc f ps assign body)::k)) cs) W = .go (Conc.G (Frame.enter P kk (Value.func (.yield lm.1) #[] #[]::caps).toArray .normal) (Fr b tm (lm.2++ds) (.inRangeFunc lm.1::k)::cs)) W' es'/\∀e∈es',Bfo es e:=by
 obtain⟨l,a⟩:=lm;have i:(b.kind==CallKind.early)=false:=by cases h:b.kind<;>simp_all<;>rfl
 have c:(Fr b tm (a++ds) (.inRangeFunc l::k)).eval f = .func (.func kk) #[] caps.toArray:=by
  rw[<-hf];cases f<;>rfl
 have hi:(do let d <-resolve (Fr b tm (a++ds) (.inRangeFunc l::k)).eval {callee:=.value f,args:=#[.const (.func (.yield l) #[] #[])],argTypes:=#[]} 0;invoke d.target d.args:Sem Next).runT P W' #[]=(.ok (.enter kk (Value.func (.yield l) #[] #[]::caps).toArray) W',#[]):=by
  generalize hfr:Fr b tm (a++ds) (.inRangeFunc l::k)=fr at c;have g:(do let d <-resolve fr.eval {callee:=.value f,args:=#[.const (.func (.yield l) #[] #[])],argTypes:=#[]} 0;invoke d.target d.args:Sem Next)=callFunc kk (Value.func (.yield l) #[] #[]::caps).toArray:=by
   show ((Deferred.ofValue (fr.eval f) ((#[.const (.func (.yield l) #[] #[])]:Array Operand).map fr.eval)).bind _)=_;rw[c];show callFunc kk ((#[]++((#[.const (.func (.yield l) #[] #[])]:Array Operand).map fr.eval))++caps.toArray)=_;congr 1;simp[Frame.eval]
  rw[g];exact Vd h1 h2 h3 W' #[]
 refine⟨seen P b.fn es++seen P b.fn #[],?_,fun ev he=>?_⟩
 ·simp only[Fr]at hi;simp only[Conc.G,stepG,stepG.exec,Fr,hrun,stepG.apply,if_true,hi,i,GStep.after];rfl
 ·rcases Array.mem_append.1 he with h|h
  ·exact Lh h
  ·have:=(Lh h).1;simp at this
theorem Auo{P Y l i L Q Z}(hi:Z[i]?=some (l,.obj (.loop L)))(hb:(L.state == .busy)=false)(h:Q L.pending (Z.set i (l,.obj (.loop {L with state:=.exhausted})))):wpS P Y (Instr.endLoop l) Z Q:=by show wpS P Y ((Instr.getLoop l).bind _) _ Q;rw[Ad];show wpS P Y ((getObj l).bind _) _ _;rw[Ad];refine⟨_,.inr (lZ6 hi),rfl,?_⟩;show wpS P Y (if L.state == .busy then _ else _) _ Q;rw[if_neg (by simp[hb])];exact⟨rfl,i,_,hi,rfl,h⟩
section
variable{C:Ctx}{G:GoT C}{F:Fns}{dx:DX}{n:Nat}
theorem Axz(hF:FnsOk C F){ps as_ body g ys ec dk m dsc ex st'}(h:xRange F n ps as_ body g ys ec dk m dsc=Gk ex st'):
  Kept m st'.m/\st'.m.outs=m.outs/\∀(b:FB) (o:List CV) (f:Operand) R e ds Y Z Z9 fn caps db dc l tm k cs,b.kind ≠ .early->NoRecv Z9->EnvOf n tm e->EnvR R ec e->MemX R m Y Z Z9->DsR R dsc ds->R dk=some (db,dc)->VR R ys caps ->
   C.P.funcs[g]?=some fn->(fn.name == "runtime.NumGoroutine")=false->fn.body.isNone=false ->
   (∀tm' e' ds' Y' Z' todo,EnvOf n tm' e'->(∃R',XR.le R R'/\Ro.le Y Y'/\Sim R' st' e' ds' Y' Z' Z9)->Pl ex k todo->G.Go o (Fr b tm' ds' todo) cs Y' Z') ->
   G.Go o (Frame.enter C.P g (Value.func (.yield l) #[] #[]::caps).toArray .normal) (Fr b tm ds (.inRangeFunc l::k)::cs) Y ((l,Res.obj (.loop {state:=.ready,pending:=none,fn:=b.fn,tmps:=tm,params:=ps.toArray,assign:=as_,body,defers:=db}))::Z):=by
 unfold xRange at h;split at h
 ·rename_i x m1 hcall;split at h
  ·rename_i bz pd n' env' ps' as' body' dk' hg1;split at h
   ·exact(Fs h).elim
   ·rename_i hbz;obtain⟨B,hcl⟩:=hF.call _ _ _ _ _ hcall;have D:Kept m m1:=(LogOk.add _ _).kept.trans B;have fin:∀(q:Option Code),q=pd->Kept m (xRest (m1.put m.nx (.loop 3 q n' env' ps' as' body' dk')) m.outs):=fun q _=>(D.trans (LogOk.put _ _ _).kept).rest;have main:∀(ex:Ex),Pf ex=pd->st'=⟨ec,xRest (m1.put m.nx (.loop 3 pd n' env' ps' as' body' dk')) m.outs,dsc⟩->Kept m st'.m/\st'.m.outs=m.outs/\∀(b:FB) (o:List CV) (f:Operand) R e ds Y Z Z9 fn caps db dc l tm k cs,b.kind ≠ .early->NoRecv Z9->EnvOf n tm e->EnvR R ec e->MemX R m Y Z Z9->DsR R dsc ds->R dk=some (db,dc)->VR R ys caps ->
   C.P.funcs[g]?=some fn->(fn.name == "runtime.NumGoroutine")=false->fn.body.isNone=false ->
   (∀tm' e' ds' Y' Z' todo,EnvOf n tm' e'->(∃R',XR.le R R'/\Ro.le Y Y'/\Sim R' st' e' ds' Y' Z' Z9)->Pl ex k todo->G.Go o (Fr b tm' ds' todo) cs Y' Z') ->
   G.Go o (Frame.enter C.P g (Value.func (.yield l) #[] #[]::caps).toArray .normal) (Fr b tm ds (.inRangeFunc l::k)::cs) Y ((l,Res.obj (.loop {state:=.ready,pending:=none,fn:=b.fn,tmps:=tm,params:=ps.toArray,assign:=as_,body,defers:=db}))::Z):=by
     intro ex hpd hst;subst hst;refine⟨fin pd rfl,rfl,fun b o f R e ds Y Z Z9 fn caps db dc l tm k cs hb hn ht he hm hd hdk hv a3 a4 a5 hq=>?_⟩;obtain⟨L0,G0,d⟩:=hm;have E:=d.add (b:=l) (c:=0) (r:=.obj (.loop {state:=.ready,pending:=none,fn:=b.fn,tmps:=tm,params:=ps.toArray,assign:=as_,body,defers:=db})) (o:=.loop 0 none n ec ps as_ body dk)
      (.loop rfl rfl ht (he.mono (d.fresh _)) rfl rfl rfl (d.fresh _ _ _ hdk) rfl)
     have a:XR.le R (R.add m.nx (l,0)):=d.fresh _;have hc:=hcl _ (Value.func (.yield l) #[] #[]::caps) Y _ Z9 hn (.y XR.add_same (hv.mono a)) E;refine G.bind (hc (Fr b tm ds (.inRangeFunc l::k)) cs) ?_;rintro _ cs' Y' Z' ⟨v,rfl,hcs,p,i,I,q3,J⟩;replace hcs:=hcs.symm;subst hcs;have z:(Fr b tm ds (.inRangeFunc l::k)).finish v=Fr b tm ds (.endRangeFunc l::k):=rfl;rw[z];obtain⟨b1,c1,r1,i1,t,K,M,N⟩:=J.at hg1 (by simp);rw[i _ _ XR.add_same]at t;cases t;obtain⟨w,a2,a0,a1,rfl,O,u,T,U,V,X,YQ,ZQ,v9⟩:=Ze M;have hob:=N _ _ (ObjR.loop (busy:=3) (L:={w with state:=.exhausted}) rfl u T U V X YQ ZQ v9);refine G.bind (Lw (s:=Instr.endLoop l) (f:=fun j=>(Fr b tm ds ((j.map Item.code).toList++k),cs)) (Q:=fun j Z''=>j=pd/\MemX p (m1.put m.nx (.loop 3 pd n' env' ps' as' body' dk')) Y' Z'' Z9) (fun W j W' es H=>?_) (Auo K (by
       rw[O];have:bz≠1:=fun e=>by subst e;simp at hbz
       match bz,this with
       | 0,_=>rfl
       | 1,h=>exact absurd rfl h
       | 2,_=>rfl
       | _+3,_=>rfl) ⟨u,hob⟩) (S:=fun fr' cs' Y'' Z''=>Y''=Y'/\fr'=Fr b tm ds ((pd.map Item.code).toList++k)/\cs'=cs/\MemX p (m1.put m.nx (.loop 3 pd n' env' ps' as' body' dk')) Y' Z'' Z9) (by
       rintro j Z'' ⟨rfl,hx⟩;exact .stop ⟨rfl,rfl,rfl,hx⟩)) ?_
     ·exact⟨seen C.P b.fn es ++ #[],by simp[Conc.G,stepG,stepG.exec,Fr,-Sem.runT_eq,H,GStep.after],fun ev he=>Lh (by simpa using he)⟩
     ·rintro _ _ Y'' Z'' ⟨rfl,rfl,rfl,hx⟩;refine hq tm e ds Y'' Z'' _ ht ⟨p,a.trans i,I,he.mono (a.trans i),hx.rest,hd.mono (a.trans i)⟩ ?_;subst hpd;cases ex with
      | normal=>rfl
      | exit id=>exact⟨[],by simp,rfl⟩
      | ret=>exact⟨[],rfl⟩
    split at h
    ·cases ex with
     | normal=>cases h;exact main .normal rfl rfl
     | exit id=>cases h
     | ret=>cases h
    ·split at h
     ·cases ex with
      | normal=>cases h
      | exit id=>cases h;exact main (.exit _) rfl rfl
      | ret=>cases h
     ·cases ex with
      | normal=>cases h
      | exit id=>cases h
      | ret=>cases h;exact main .ret rfl rfl
     ·exact(Fs h).elim
  ·exact(Fs h).elim
 ·exact(Fs h).elim
end
end
section
open Go Go.Conc
section
variable{C:Ctx}{G:GoT C}{F:Fns}{dx:DX}{n:Nat}
theorem Bpk{b c o o' e ds Y Y0 Z Z9 ex R R0 st'}(hR:XR.le R0 R)(hρ:Ro.le Y0 Y)(h:Reach G b n c o e ds Y Z ex o' (fun e' ds' Y' Z'=>∃R',XR.le R R'/\Ro.le Y Y'/\Sim R' st' e' ds' Y' Z' Z9)):Reach G b n c o e ds Y Z ex o' (fun e' ds' Y' Z'=>∃R',XR.le R0 R'/\Ro.le Y0 Y'/\Sim R' st' e' ds' Y' Z' Z9) :=
 h.mono fun _ _ _ _ ⟨R',a,d,f⟩=>⟨R',hR.trans a,hρ.trans d,f⟩
theorem Bur{a b rd st st1 st' ex}(ha:Wx G n rd a st .normal st1)(hb:Wx G n rd b st1 ex st'):Wx G n rd (.seq a b) st ex st':=fun fb hfb=>by
 obtain⟨m,i⟩:=ha fb hfb;obtain⟨c,j⟩:=hb fb hfb;refine⟨m.trans c,fun hs R e ds Y Z Z9 hn hr k=>Cbl ((i (G.less_of c hs) R e ds Y Z Z9 hn hr k).mono ?_)⟩;rintro h g t u ⟨f,d,p,q⟩;exact Bpk d p (j hs f h g t u Z9 hn (hr.mono d) q)
def Bqy(G:GoT C)(n:Nat)(rd:Option Nat)(c:Code)(st:St)(ex:Ex)(st':St):Prop:=∀b:FB,b.kind ≠ .early->Kept st.m st'.m/\(G.suf st'.m.outs->∀R e ds Y Z Z9,NoRecv Z9->RdOk G R rd b->Sim R st e ds Y Z Z9 ->
 LoopR G b n c st.m.outs e ds Y Z ex st'.m.outs (fun e' ds' Y' Z'=>∃R',XR.le R R'/\Ro.le Y Y'/\Sim R' st' e' ds' Y' Z' Z9))
theorem Axh{a:Code}{rd:Option Nat}{f:Fns->Option Nat->St->Go.Proofs.YtekhlbdfjkndnaaGreatDoor.R}(ih:∀st ex st',f F rd st=Gk ex st'->Wx G n rd a st ex st'):∀(k:Nat) (st:St) (ex:Ex) (st':St),xLoopR f F rd k st=Gk ex st'->ex ≠ .normal/\Bqy G n rd a st ex st'
 | 0,st,ex,st',h=>(Fs h).elim
 | k+1,st,ex,st',h=>by
  have h':(match f F rd st with | .n st=>xLoopR f F rd k st|y=>y)=Gk ex st':=h;split at h'
  ·rename_i st1 d;obtain⟨hx,hl⟩:=Axh ih k st1 ex st' h';refine⟨hx,fun b hb=>?_⟩;obtain⟨i,c⟩:=ih st .normal st1 d b hb;obtain⟨j,u⟩:=hl b hb;refine⟨i.trans j,fun hs R e ds Y Z Z9 hn hr g=>Bhp ((c (G.less_of j hs) R e ds Y Z Z9 hn hr g).mono ?_)⟩;rintro t q B C ⟨p,m,x,z⟩;exact(u hs p t q B C Z9 hn (hr.mono m) z).mono fun _ _ _ _ ⟨R',d,v,w⟩=>⟨R',m.trans d,x.trans v,w⟩
  ·rename_i hne;have hx:ex ≠ .normal:=fun e=>by subst e;exact hne _ h'
   refine⟨hx,fun b hb=>?_⟩;obtain⟨i,c⟩:=ih st ex st' h' b hb;exact⟨i,fun hs R e ds Y Z Z9 hn hr g=>Bnj hx (c hs R e ds Y Z Z9 hn hr g)⟩
theorem Aoj{P Y Z fn tm ps assign body}{lb i:Nat}{L Q}(hi:Z[i]?=some (lb,.obj (.loop L)))(h:∀l,Q (l,[]) ((l,.obj (.loop {state:=.ready,pending:=none,fn,tmps:=tm,params:=ps,assign,body,defers:=L.defers}))::Z)):
  wpS P Y (Instr.enterLoop fn tm ps assign body (some lb)) Z Q:=by show wpS P Y ((Instr.getLoop lb).bind _) Z Q;rw[Ad];show wpS P Y ((getObj lb).bind _) Z _;rw[Ad];refine⟨_,.inr (lZ6 hi),rfl,?_⟩;show wpS P Y ((newObj (.loop {state:=.ready,pending:=none,fn,tmps:=tm,params:=ps,assign,body,defers:=L.defers})).bind _) _ Q;rw[Ad];exact .inl ⟨rfl,fun l=>h l⟩
theorem Bis(hF:FnsOk C F){f:Operand}{ps:Array Tmp}{as_ body:Code}{rd:Option Nat}{st st':St}{ex:Ex}{g:FuncId}{ys:List CV}(hf:(rdK f).run st.e = .f g [] ys)(hb:xHasBody C.P g=true)
    (h : (match rd with
          | some l=>match st.m.M.get l with|some (.own (.loop _ _ _ _ _ _ _ dk))=>xRange F n ps.toList as_ body g ys st.e dk st.m st.ds|_=>.bad
          | none=>xRange F n ps.toList as_ body g ys st.e st.m.nx (st.m.add .defd) (.mark st.m.nx::st.ds))=Gk ex st'):Wx G n rd (.rangeFunc f ps as_ body) st ex st':=by
  intro b hbk;obtain⟨fn,j,p,q⟩:=Xj hb;cases rd with
  | none =>
    obtain⟨w,x,y⟩:=Axz (G:=G) hF h;refine⟨(LogOk.add _ _).kept.trans w,fun hs R e ds Y Z Z9 hn hr a tm k cs ht hq=>?_⟩;have hr':b.round=none:=hr.2;have hv:=Dy a.env a.mem.globR f;rw[hf]at hv;obtain⟨xs',d,z,B,v⟩:=Bqm hv;cases z;have hev:(Fr b tm ds (.code (.rangeFunc f ps as_ body)::k)).eval f = .func (.func g) #[] d.toArray:=by rw[ht.eval];exact v
    refine G.bind (Lw (s:=Instr.enterLoop b.fn tm ps as_ body b.round) (f:=fun lm=>(Frame.enter C.P g (Value.func (.yield lm.1) #[] #[]::d).toArray .normal,Fr b tm (lm.2++ds) (.inRangeFunc lm.1::k)::cs))
      (Q:=fun lm Z'=>∃r,lm.2=[{target:=.collected r,args:=#[]}]/\Z'=(lm.1,Res.obj (.loop {state:=.ready,pending:=none,fn:=b.fn,tmps:=tm,params:=ps,assign:=as_,body,defers:=r}))::(r,.obj (.deferred (some [])))::Z)
      (fun W lm W' es u=>Aij hbk hev j p q u) (by rw[hr'];exact Vj fun r l=>⟨r,rfl,rfl⟩)
      (S:=fun fr' cs' Y' Z'=>Y'=Y/\∃l r,fr'=Frame.enter C.P g (Value.func (.yield l) #[] #[]::d).toArray .normal/\cs'=Fr b tm ({target:=.collected r,args:=#[]}::ds) (.inRangeFunc l::k)::cs/\Z'=(l,Res.obj (.loop {state:=.ready,pending:=none,fn:=b.fn,tmps:=tm,params:=ps,assign:=as_,body,defers:=r}))::(r,.obj (.deferred (some [])))::Z)
      (by
        rintro⟨l,mk⟩ Z' ⟨r,i,rfl⟩;simp only at i;subst i;exact .stop ⟨rfl,l,r,rfl,rfl,rfl⟩)) ?_
    rintro _ _ ZQ _ ⟨hρ,l,r,rfl,rfl,rfl⟩;replace hρ:=hρ.symm;subst hρ;obtain⟨L0,G0,D⟩:=a.mem;have hle:=D.fresh (r,0);have O:=D.add (b:=r) (c:=0) (o:=.defd) (r:=.obj (.deferred (some []))) .defd;have:=y b st'.m.outs f _ e ({target:=.collected r,args:=#[]}::ds) Y _ Z9 fn d r 0 l tm k cs hbk hn ht (a.env.mono hle) O (.mark XR.add_same (a.ds.mono hle)) XR.add_same (B.mono hle) j p q
      (fun tm' e' ds' Y' Z' T I ⟨R',J,K,L⟩ N=>hq tm' e' ds' Y' Z' T I ⟨R',hle.trans J,K,L⟩ N)
    rw[x]at this;exact this
  | some l0 =>
    simp only at h;split at h
    · rename_i bz pd n0 env0 ps0 as0 body0 dk hg0
      obtain⟨w,x,y⟩:=Axz (G:=G) hF h;refine⟨w,fun hs R e ds Y Z Z9 hn hr a tm k cs ht hq=>?_⟩;obtain⟨_,lb,lc,hr',hRl⟩:=hr;have hv:=Dy a.env a.mem.globR f;rw[hf]at hv;obtain⟨xs',d,z,B,v⟩:=Bqm hv;cases z;have hev:(Fr b tm ds (.code (.rangeFunc f ps as_ body)::k)).eval f = .func (.func g) #[] d.toArray:=by rw[ht.eval];exact v
      obtain⟨b1,c1,r1,i1,E,U,V,u4⟩:=a.mem.at hg0 (by simp);rw[hRl]at E;cases E;obtain⟨t,a1,a0,H,rfl,v1,v2,v3,v4,v5,v6,v7,X,YQ⟩:=Ze V;refine G.bind (Lw (s:=Instr.enterLoop b.fn tm ps as_ body b.round) (f:=fun lm=>(Frame.enter C.P g (Value.func (.yield lm.1) #[] #[]::d).toArray .normal,Fr b tm (lm.2++ds) (.inRangeFunc lm.1::k)::cs))
        (Q:=fun lm Z'=>lm.2=[]/\Z'=(lm.1,Res.obj (.loop {state:=.ready,pending:=none,fn:=b.fn,tmps:=tm,params:=ps,assign:=as_,body,defers:=t.defers}))::Z)
        (fun W lm W' es u=>Aij hbk hev j p q u) (by rw[hr'];exact Aoj U fun l=>⟨rfl,rfl⟩)
        (S:=fun fr' cs' Y' Z'=>Y'=Y/\∃l,fr'=Frame.enter C.P g (Value.func (.yield l) #[] #[]::d).toArray .normal/\cs'=Fr b tm ds (.inRangeFunc l::k)::cs/\Z'=(l,Res.obj (.loop {state:=.ready,pending:=none,fn:=b.fn,tmps:=tm,params:=ps,assign:=as_,body,defers:=t.defers}))::Z)
        (by
          rintro⟨l,mk⟩ Z' ⟨i,rfl⟩;simp only at i;subst i;exact .stop ⟨rfl,l,rfl,rfl,rfl⟩)) ?_
      rintro _ _ ZQ _ ⟨hρ,l,rfl,rfl,rfl⟩;replace hρ:=hρ.symm;subst hρ;have:=y b st'.m.outs f R e ds Y Z Z9 fn d t.defers H l tm k cs hbk hn ht a.env a.mem a.ds (by rw[YQ];exact X) B j p q hq;rw[x]at this;exact this
    · exact(Fs h).elim
theorem Xb(hF:FnsOk C F)(hx:Abs G F dx)(hgl:dx.gl=true->(∃S,G=goT C S)/\∀S,Abs (goT C S) F dx)(c:Code):∀{rd:Option Nat} {st:St} {ex:Ex} {st':St},(codeK C.P dx n c).run F rd st=Gk ex st'->Wx G n rd c st ex st':=by
 induction c with
 | skip =>
  intro rd st ex st' h b hb;cases ex with
  | normal=>cases h;exact⟨.refl _,fun _ R e ds Y Z Z9 _ _ hs=>Byn ⟨R,.refl,.refl,hs⟩⟩
  | exit id=>cases h
  | ret=>cases h
 | region id ops draw =>
  intro rd st ex st' h;have h':(regK C.P dx n ops.toList draw).run F rd st=Gk ex st':=h;have:=Byx (id:=id) hF hx hgl h';rw[Adz]at this;exact this
 | seq a b iha ihb =>
  intro rd st ex st' h;have h':(match (codeK C.P dx n a).run F rd st with | .n st=>(codeK C.P dx n b).run F rd st|y=>y)=Gk ex st':=h;split at h'
  ·rename_i st1 h1;exact Bur (iha (ex:=.normal) h1) (ihb h')
  ·rename_i hne;have hex:ex ≠ .normal:=fun e=>by subst e;exact hne _ h'
   intro fb hfb;obtain⟨k,i⟩:=iha h' fb hfb;exact⟨k,fun hs R e ds Y Z Z9 hn hr d=>Bym hex (i hs R e ds Y Z Z9 hn hr d)⟩
 | cond q a b iha ihb =>
  intro rd st ex st' h;have h':(match (rdK q).run st.e with | .b true=>(codeK C.P dx n a).run F rd st | .b false=>(codeK C.P dx n b).run F rd st|_=>.bad)=Gk ex st':=h;intro fb hfb;split at h'
  ·rename_i hq;obtain⟨k,i⟩:=iha h' fb hfb;refine⟨k,fun hs R e ds Y Z Z9 hn hr d=>?_⟩;have hv:=Dy d.env d.mem.globR q;rw[hq]at hv;exact Bpg (Aoe hv) (fun _=>i hs R e ds Y Z Z9 hn hr d) (fun h=>by cases h)
  ·rename_i hq;obtain⟨k,i⟩:=ihb h' fb hfb;refine⟨k,fun hs R e ds Y Z Z9 hn hr d=>?_⟩;have hv:=Dy d.env d.mem.globR q;rw[hq]at hv;exact Bpg (Aoe hv) (fun h=>by cases h) (fun _=>i hs R e ds Y Z Z9 hn hr d)
  ·exact(Fs h').elim
 | block id a iha =>
  intro rd st ex st' h;have h':(match (codeK C.P dx n a).run F rd st with | .x j st=>(match Nat.beq j id with|true=>.n st|false=>.x j st)|y=>y)=Gk ex st':=h;intro fb hfb;split at h'
  ·rename_i j st1 h1;split at h'
   ·rename_i hj;have hj:=Hr hj;subst hj;cases ex with
    | normal =>
     cases h';obtain⟨k,i⟩:=iha (ex:=.exit j) h1 fb hfb;exact⟨k,fun hs R e ds Y Z Z9 hn hr d=>Bpd (i hs R e ds Y Z Z9 hn hr d)⟩
    | exit id=>cases h'
    | ret=>cases h'
   ·rename_i hj;have hj':j≠id:=fun e=>by subst e;simp at hj
    cases ex with
    | normal=>cases h'
    | exit id' =>
     cases h';obtain⟨k,i⟩:=iha (ex:=.exit j) h1 fb hfb;exact⟨k,fun hs R e ds Y Z Z9 hn hr d=>Bpf hj' (i hs R e ds Y Z Z9 hn hr d)⟩
    | ret=>cases h'
  ·rename_i hne;cases ex with
   | normal =>
    obtain⟨k,i⟩:=iha (ex:=.normal) h' fb hfb;exact⟨k,fun hs R e ds Y Z Z9 hn hr d=>Bug (i hs R e ds Y Z Z9 hn hr d)⟩
   | exit id'=>exact absurd h' (hne _ _)
   | ret =>
    obtain⟨k,i⟩:=iha (ex:=.ret) h' fb hfb;exact⟨k,fun hs R e ds Y Z Z9 hn hr d=>Bpe (i hs R e ds Y Z Z9 hn hr d)⟩
 | loop a iha =>
  intro rd st ex st' h fb hfb;have h':xLoopR (codeK C.P dx n a).run F rd 1000000 st=Gk ex st':=h;obtain⟨_,hl⟩:=Axh (fun st ex st' h=>iha h) _ _ _ _ h';obtain⟨k,i⟩:=hl fb hfb;exact⟨k,fun hs R e ds Y Z Z9 hn hr d=>Byl (i hs R e ds Y Z Z9 hn hr d)⟩
 | label l =>
  intro rd st ex st' h b hb;cases ex with
  | normal=>cases h;exact⟨.refl _,fun _ R e ds Y Z Z9 _ _ hs=>Buh ⟨R,.refl,.refl,hs⟩⟩
  | exit id=>cases h
  | ret=>cases h
 | scope a iha =>
  intro rd st ex st' h fb hfb;have h':(codeK C.P dx n a).run F rd st=Gk ex st':=h;obtain⟨k,i⟩:=iha h' fb hfb;exact⟨k,fun hs R e ds Y Z Z9 hn hr d=>Bui (i hs R e ds Y Z Z9 hn hr d)⟩
 | exit id =>
  intro rd st ex st' h b hb;cases ex with
  | normal=>cases h
  | exit id=>cases h;exact⟨.refl _,fun _ R e ds Y Z Z9 _ _ hs=>Byk ⟨R,.refl,.refl,hs⟩⟩
  | ret=>cases h
 | ret =>
  intro rd st ex st' h b hb;cases ex with
  | normal=>cases h
  | exit id=>cases h
  | ret=>cases h;exact⟨.refl _,fun _ R e ds Y Z Z9 _ _ hs=>Cbk ⟨R,.refl,.refl,hs⟩⟩
 | rangeFunc f ps as_ body _ _ =>
  intro rd st ex st' h;unfold codeK at h;split at h
  ·rename_i f1 hf1 hlt;have hrd:(rdK f).run=f1:=by rw[hf1]
   simp only at h;split at h
   ·rename_i g ys hfv;split at h
    ·rename_i hbd;exact Bis hF (by rw[hrd];exact hfv) hbd h
    ·exact(Fs h).elim
   ·exact(Fs h).elim
  ·exact(Fs h).elim
 | _=>intro rd st ex st' h;exact(Fs h).elim
end
end
section
open Go Go.Conc
section
variable{R:XR}{m:Mem}{Y:Ro}{Z Z9:Own}{L:List (Nat×Nat×Res)}{G:Own}
theorem MemR.kill2(h:MemR R m Y Z Z9 L G){k b i o o'}(hL:(k,b,Res.obj o)∈L)(hi:Z[i]?=some (b,.obj o)):MemX R (m.put k .dead) Y (Z.set i (b,.obj o')) Z9:=by
 obtain⟨A,B,rfl⟩:=Tp hL;have nd:=h.nd;simp only[Mi,Ic]at nd;have hAB:∀p∈A++B,p.1≠k:=fun p hp e=>by
  rw[Aix]at nd;obtain⟨y,u,v⟩:=nd;rcases Gv.1 hp with hp|hp
  ·exact v p.1 (Rk (f:=Prod.fst) hp) k mC e
  ·exact(Tb.1 u).1 (e ▸ Rk (f:=Prod.fst) hp)
 have dim:∀{p},p∈A++B->p∈A++(k,b,Res.obj o)::B:=fun {p} hp=>(Gv.1 hp).elim (Iz _) fun hp=>lZ5 _ (lZ0 _ hp);refine⟨A++B,(b,.obj o')::G,?_,?_,fun p hp=>?_,fun j oj hj hd=>?_,fun j oj hj=>?_,fun p hp=>?_,h.lt,h.glob⟩
 ·have c:=h.perm;simp only[Mi,Ic,lZ9,Sz]at c ⊢;have w:=Ans (x':=(b,.obj o')) (c.trans Amo) hi;refine w.trans ?_;have x:=(Amo (a:=(b,Res.obj o')) (l₁:=A.map Prod.snd++B.map Prod.snd) (l₂:=G++Z9)).symm;simpa[lZ9]using x
 ·rw[Mi];have:(A.map Prod.fst++B.map Prod.fst).Sublist (A.map Prod.fst++k::B.map Prod.fst):=List.Sublist.append_left (Awl ..) _;exact this.nodup nd
 ·obtain⟨d,o1,g,n,t⟩:=h.own p (dim hp);exact⟨d,o1,g,by rw[Na,if_neg (hAB p hp)];exact n,t⟩
 ·rw[Na]at hj;by_cases hjk:j=k
  ·rw[if_pos hjk]at hj;cases hj;exact absurd rfl hd
  ·rw[if_neg hjk]at hj;obtain⟨q,hq⟩:=h.all j oj hj hd;rcases Gv.1 hq with hq|hq
   ·exact⟨q,Iz _ hq⟩
   ·rcases lZ8.1 hq with e|hq
    ·exact absurd (Prod.mk.inj e).1 hjk
    ·exact⟨q,lZ5 _ hq⟩
 ·rw[Na]at hj;by_cases hjk:j=k
  ·rw[if_pos hjk]at hj;cases hj
  ·rw[if_neg hjk]at hj;exact h.ro j oj hj
 ·rcases lZ8.1 hp with rfl|hp
  ·exact⟨o',rfl⟩
  ·exact h.gar p hp
theorem Ayw:∀(args:List CV) (i:Nat) (e:Tr CV) (t:Nat) (v:CV),(xArgEnv args i e).get t=some v->e.get t=some v∨(i<=t/\args[t-i]?=some v)
 | [],i,e,t,v,h=>.inl h
 | a::args,i,e,t,v,h=>by
  rcases Ayw args (i+1) (e.set i a) t v h with h1|⟨h1,h2⟩
  ·rw[Tr.get_set]at h1;by_cases ht:t=i
   ·rw[if_pos ht]at h1;refine .inr ⟨by omega,?_⟩;subst ht;rw[Aww];exact h1
   ·rw[if_neg ht]at h1;exact .inl h1
  ·refine .inr ⟨by omega,?_⟩;have:t-i=(t-(i+1))+1:=by omega
   rw[this,Xm];exact h2
theorem Bne{α}(t:Nat):(Tr.leaf:Tr α).get t=none:=rfl
theorem Acy{args args'}(h:VR R args args'):EnvR R (xArgEnv args 0 .leaf) (Pn args'):=fun t v ht=>by
 rcases Ayw args 0 .leaf t v ht with h1|⟨_,h2⟩
 ·rw[Bne]at h1;cases h1
 ·obtain⟨v',a,b⟩:=h.at h2;unfold Pn;have:args'[t]?=some v':=a;rw[Oz,this];exact b
theorem Aub{P:Program}{ec:Tr CV}{e:Env}(he:EnvR R ec e)(hm:MemX R m Y Z Z9):∀(l:List ResultVar) (r:List CV),(resK P l).run ec m=some r->∃vs,VR R r vs/\Agf P Y Z e l vs
 | [],r,h=>by
  cases h;exact⟨[],.nil,trivial⟩
 | .tmp t::l,r,h=>by
  have h':(match (resK P l).run ec m with|some r=>some ((match ec.get t with|some v=>v|none=>.bad)::r)|none=>none)=some r:=h;split at h'
  ·rename_i r1 f;cases h';obtain⟨vs,b,d⟩:=Aub he hm l r1 f;exact⟨e t::vs,VR.cons_iff.2 ⟨Dy he hm.globR (.tmp t),b⟩,rfl,d⟩
  ·cases h'
 | .cell a t::l,r,h=>by
  have h':(match ec.get a with
   | some (.p k off)=>match m.row k with
    | some c=>match (partK P t).run (xDrp off c),(resK P l).run ec m with|some v,some r=>some (v::r)|_,_=>none
    | none=>none
   | _=>none)=some r:=h
  split at h'
  ·rename_i k off hg;split at h'
   ·rename_i c hc;split at h'
    ·rename_i v r1 hv hr1;cases h';obtain⟨vs,b,d⟩:=Aub he hm l r1 hr1;have n:(opK P (.load t (.tmp a))).run ec m = .rd v k:=by
      show loadM P t ((rdK (.tmp a)).run ec) m=_;have:(rdK (.tmp a)).run ec = .p k off:=by
       show (match ec.get a with|some v=>v|none=>.bad)=_;rw[hg]
      rw[this];simp only[loadM,hc,hv]
     obtain⟨w,hw,hwp⟩:=Bbh _ R ec e m v k he hm.globR n R m Y Z Z9 hm rfl rfl;refine⟨w::vs,VR.cons_iff.2 ⟨hw,b⟩,fun Q hQ=>?_,d⟩;have f:=hwp none 0 "" #[] none;have g:wpS P Y ((Instr.loadAt t (e a)).bind fun v=>Sem.pure (Next.value v)) Z (fun nx Z'=>nx = .value w/\Z'=Z):=f;rw[Ad]at g;obtain⟨bb,cc,_,hav⟩:=Ayo (he a _ hg);show wpS P Y (do loadVar t (<-asAddr (e a))) Z Q;rw[hav]at g ⊢;have i:wpS P Y (loadVar t ⟨bb,off,none⟩) Z (fun a Z'=>Next.value a = .value w/\Z'=Z):=g;show wpS P Y (loadVar t ⟨bb,off,none⟩) Z Q;refine Eu ?_ _ _ i;rintro w' Z' ⟨i,j⟩;cases i;rw[j];exact hQ
    ·cases h'
   ·cases h'
  ·cases h'
theorem Avq{l m m2}(h:xDefersR l m=some m2):Kept m m2:=by
 induction l generalizing m with
 | nil=>cases h;exact .refl _
 | cons d l ih =>
  cases d with
  | mark k =>
   have h':(match m.M.get k with|some (.own .defd)=>xDefersR l (m.put k .dead)|_=>none)=some m2:=h;split at h'
   ·exact(LogOk.put _ _ _).kept.trans (ih h')
   ·cases h'
  | close k=>cases h
theorem Ali{C fn e K l m m2 ds Z}(h:xDefersR l m=some m2)(hd:DsR R l ds)(hm:MemX R m Y Z Z9)(hk:∀Z',MemX R m2 Y Z' Z9->wpS C.P Y (Hp fn e) Z' (fun v Z''=>K v Y Z'')):Aki C fn K e Y ds Z:=by
 induction hd generalizing m Z with
 | nil=>cases h;exact hk Z hm
 | @mark k b c l ds hR hd ih =>
  have h':(match m.M.get k with|some (.own .defd)=>xDefersR l (m.put k .dead)|_=>none)=some m2:=h;split at h'
  ·rename_i hg;obtain⟨L,G,hm'⟩:=hm;obtain⟨j,n,p,f,a,d,g,i⟩:=hm'.at hg (by simp);rw[hR]at a;cases a;cases g;exact⟨b,f,rfl,d,ih h' (hm'.kill2 i d)⟩
  ·cases h'
 | close hR hd ih=>cases h
end
section
variable{C:Ctx}{F:Fns}
theorem Blh{P g args m m' x}(h:(funK P g).run F args m = .v x m'):∃fn c ex st,P.funcs[g]?=some fn/\fn.body=some c/\args.length<=fn.ntmps/\(codeK P doX fn.ntmps c).run F none ⟨xArgEnv args 0 .leaf,m,[]⟩=Gk ex st/\(∀id,ex ≠ .exit id)/\xFin (resK P fn.results.toList).run st = .v x m':=by
 unfold funK at h;split at h
 ·rename_i fn hf;split at h
  ·rename_i c hc;have h':(match Nat.ble (xLen args) fn.ntmps with
    | true=>match (codeK P doX fn.ntmps c).run F none ⟨xArgEnv args 0 .leaf,m,[]⟩ with
     | .n st=>xFin (resK P fn.results.toList).run st
     | .r st=>xFin (resK P fn.results.toList).run st
     | _=>.bad
    | false=>RV.bad) = .v x m':=h
   split at h'
   ·rename_i hb;have a:=lZ7 hb;rw[Ia]at a;split at h'
    ·rename_i st hst;exact⟨fn,c,.normal,st,hf,hc,a,hst,by simp,h'⟩
    ·rename_i st hst;exact⟨fn,c,.ret,st,hf,hc,a,hst,by simp,h'⟩
    ·cases h'
   ·cases h'
  ·cases h
 ·cases h
theorem Bad(hF:FnsOk C F)(hx:∀S,Abs (goT C S) F doX){g args m m' x}(h:(funK C.P g).run F args m = .v x m'):Kept m m'/\∀R args' Y Z Z9,NoRecv Z9->VR R args args'->MemX R m Y Z Z9 ->
  CallsH C g args'.toArray Y Z (fun v Y' Z'=>∃R',XR.le R R'/\Ro.le Y Y'/\V1 R' x v/\MemX R' m' Y' Z' Z9):=by
 obtain⟨fn,c,ex,st,hf,hc,p,u,hex,a⟩:=Blh h;have b:=fun S=>Xb hF (hx S) (fun _=>⟨⟨S,rfl⟩,hx⟩) c u;unfold xFin at a;split at a
 ·rename_i m2 hd;have k:=(b (fun _ _ _ _=>True) ⟨g,.normal,none⟩ (by simp)).1;have n:=Avq hd;have key:∀r,(resK C.P fn.results.toList).run st.e m2=some r->(∀R vs,VR R r vs->V1 R x (Adi vs))->m2=m'->Kept m m'/\∀R args' Y Z Z9,NoRecv Z9->VR R args args'->MemX R m Y Z Z9 ->
    CallsH C g args'.toArray Y Z (fun v Y' Z'=>∃R',XR.le R R'/\Ro.le Y Y'/\V1 R' x v/\MemX R' m' Y' Z' Z9):=by
   intro r hr hxv q;subst q;refine⟨k.trans n,fun R args' Y Z Z9 hn hv hm=>?_⟩;refine Oy hf hc rfl (by rw[<-hv.len];exact p) ?_;refine Adw (Reach.wp (S:=fun _ _ _ _=>True) (o:=m.outs) (o':=st.m.outs) (ex:=ex) (Q:=fun ex' e' ds' Y' Z'=>ex'=ex/\∃R',XR.le R R'/\Ro.le Y Y'/\Sim R' st e' ds' Y' Z' Z9) fun S =>
    ((b S ⟨g,.normal,none⟩ (by simp)).2 trivial R (Pn args') [] Y Z Z9 hn ⟨trivial,rfl⟩ ⟨Acy hv,hm,.nil⟩).mono fun e ds Y Z h=>⟨rfl,h⟩) ?_
   rintro ex' e' ds' Y' Z' ⟨rfl,R',z,B,hs⟩;refine⟨hex,Ali hd hs.ds hs.mem fun Z'' d=>?_⟩;obtain⟨vs,i,j⟩:=Aub hs.env d _ r hr;exact Vf (by simp) j ⟨R',z,B,hxv R' vs i,d⟩
  split at a
  ·rename_i v hr;cases a;refine key _ hr (fun R vs hvs=>?_) rfl
   match vs,hvs with
   | [],hvs=>cases hvs
   | [w],hvs=>exact hvs
   | w::w'::vs,hvs=>exact absurd hvs.len (by simp)
  ·rename_i l hne hr;cases a;refine key _ hr (fun R vs hvs=>?_) rfl;have f:Adi vs = .tuple vs.toArray:=by
    unfold Adi;split
    ·rename_i v;exfalso;have:=hvs.len
     match l,this,hne with
     | [y],_,hne=>exact hne y rfl
    ·rfl
   rw[f];exact .t hvs .nil
  ·cases a
 ·cases a
end
end
section
open Go Go.Conc
def Avg:Option Cell->Option CO
 | some (.own o)=>some o
 | some (.ro o)=>some o
 | none=>none
theorem Beq(m:Mem)(k:Nat):m.obj k=Avg (m.M.get k):=by
 unfold Mem.obj Avg;cases m.M.get k with
 | none=>rfl
 | some c=>cases c<;>rfl
theorem Acs{t:Tr Cell}{k o}(h:t.get k=some (.own o))(j:Nat):Avg ((t.set k (.ro o)).get j)=Avg (t.get j):=by
 rw[Tr.get_set];by_cases hj:j=k
 ·subst hj;rw[if_pos rfl,h];rfl
 ·rw[if_neg hj]
theorem Tv:∀(n:Nat) (l:List Nat) (t:Tr Cell) (j:Nat),Avg ((xShare n l t).get j)=Avg (t.get j)
 | 0,l,t,j=>rfl
 | n+1,[],t,j=>rfl
 | n+1,k::l,t,j=>by
  have e:xShare (n+1) (k::l) t=(match t.get k with
   | some (.own (.cells c))=>xShare n (xApp (xKeysL c) l) (t.set k (.ro (.cells c)))
   | some (.own (.grow z c))=>xShare n (xApp (xKeysL c) l) (t.set k (.ro (.grow z c)))
   | some (.own (.map es))=>xShare n (xApp (xKeysO (.map es)) l) (t.set k (.ro (.map es)))
   | _=>xShare n l t):=rfl
  rw[e];split
  ·rename_i c hk;rw[Tv,Acs hk]
  ·rename_i z c hk;rw[Tv,Acs hk]
  ·rename_i es hk;rw[Tv,Acs hk]
  ·exact Tv n l t j
theorem Aba:∀(n:Nat) (l:List Nat) (t:Tr Cell) (j:Nat) (o:CO),(xShare n l t).get j=some (.own o)->t.get j=some (.own o)
 | 0,l,t,j,o,h=>h
 | n+1,[],t,j,o,h=>h
 | n+1,k::l,t,j,o,h=>by
  have e:xShare (n+1) (k::l) t=(match t.get k with
   | some (.own (.cells c))=>xShare n (xApp (xKeysL c) l) (t.set k (.ro (.cells c)))
   | some (.own (.grow z c))=>xShare n (xApp (xKeysL c) l) (t.set k (.ro (.grow z c)))
   | some (.own (.map es))=>xShare n (xApp (xKeysO (.map es)) l) (t.set k (.ro (.map es)))
   | _=>xShare n l t):=rfl
  rw[e]at h;have step:∀{l':List Nat} {o':CO},(xShare n l' (t.set k (.ro o'))).get j=some (.own o)->t.get j=some (.own o):=fun {l' o'} h=>by
   have:=Aba n _ _ j o h;rw[Tr.get_set]at this;by_cases hj:j=k
   ·rw[if_pos hj]at this;cases this
   ·rw[if_neg hj]at this;exact this
  split at h
  ·exact step h
  ·exact step h
  ·exact step h
  ·exact Aba n l t j o h
section
variable{R:XR}{m:Mem}{Y:Ro}{Z Z9:Own}
def Mem.withM(m:Mem)(t:Tr Cell):Mem:=⟨t,m.nx,m.log,m.ln,m.outs⟩
theorem Auf{C S fr cs k o}(hm:MemX R m Y Z Z9)(hk:m.M.get k=some (.own o))(ho:∀c r,ObjR R c o r->∃ob,r = .obj ob)(hd:o ≠ .dead)(h:∀Y' Z',Ro.le Y Y'->(∀p∈Z',p∈Z)->MemX R (m.withM (m.M.set k (.ro o))) Y' Z' Z9->GoesH C S fr cs Y' Z'):GoesH C S fr cs Y Z:=by
 obtain⟨L,G,hm⟩:=hm;obtain⟨b,c,r,i,x,F,t,y⟩:=hm.at hk hd;obtain⟨ob,rfl⟩:=ho c r t;obtain⟨A,B,rfl⟩:=Tp y;have nd:=hm.nd;simp only[Mi,Ic]at nd;have hAB:∀p∈A++B,p.1≠k:=fun p hp e=>by
  rw[Aix]at nd;obtain⟨H,z,D⟩:=nd;rcases Gv.1 hp with hp|hp
  ·exact D p.1 (Rk (f:=Prod.fst) hp) k mC e
  ·exact(Tb.1 z).1 (e ▸ Rk (f:=Prod.fst) hp)
 have dim:∀{p},p∈A++B->p∈A++(k,b,Res.obj ob)::B:=fun {p} hp=>(Gv.1 hp).elim (Iz _) fun hp=>lZ5 _ (lZ0 _ hp);have u:=hm.perm;have v:Z.Perm ((b,Res.obj ob)::((A++B).map Prod.snd++(G++Z9))):=by
  simp only[Mi,Ic,lZ9,Sz]at u ⊢;exact u.trans Amo
 refine .ghost (Cfr v) (Rv fun Y' hle hb=>h Y' _ hle (fun p hp=>v.mem_iff.2 (lZ0 _ hp)) ?_);have gt:∀j,(m.withM (m.M.set k (.ro o))).M.get j=if j=k then some (.ro o) else m.M.get j:=fun j=>Tr.get_set ..
 refine⟨A++B,G,.refl _,?_,fun p hp=>?_,fun j oj hj hdj=>?_,fun j oj hj=>?_,hm.gar,hm.lt,hm.glob⟩
 ·rw[Mi];have:(A.map Prod.fst++B.map Prod.fst).Sublist (A.map Prod.fst++k::B.map Prod.fst):=List.Sublist.append_left (Awl ..) _;exact this.nodup nd
 ·obtain⟨a,o1,d,g,n⟩:=hm.own p (dim hp);exact⟨a,o1,d,by rw[gt,if_neg (hAB p hp)];exact g,n⟩
 ·rw[gt]at hj;by_cases hjk:j=k
  ·rw[if_pos hjk]at hj;cases hj
  ·rw[if_neg hjk]at hj;obtain⟨q,hq⟩:=hm.all j oj hj hdj;rcases Gv.1 hq with hq|hq
   ·exact⟨q,Iz _ hq⟩
   ·rcases lZ8.1 hq with e|hq
    ·exact absurd (Prod.mk.inj e).1 hjk
    ·exact⟨q,lZ5 _ hq⟩
 ·rw[gt]at hj;by_cases hjk:j=k
  ·rw[if_pos hjk]at hj;cases hj;subst hjk;exact⟨b,c,ob,x,hb,.of t⟩
  ·rw[if_neg hjk]at hj;obtain⟨w,a,E,d,g,n⟩:=hm.ro j oj hj;exact⟨w,a,E,d,hle _ _ g,n⟩
theorem Px{C:Ctx}{S:Cy}{fr:Frame}{cs:List Frame}:∀(n:Nat) (l:List Nat) (m:Mem) (Y:Ro) (Z:Own),MemX R m Y Z Z9 ->
  (∀Y' Z',Ro.le Y Y'->(∀p∈Z',p∈Z)->MemX R (m.withM (xShare n l m.M)) Y' Z' Z9->GoesH C S fr cs Y' Z')->GoesH C S fr cs Y Z
 | 0,l,m,Y,Z,hm,h=>h Y Z .refl (fun p hp=>hp) hm
 | n+1,[],m,Y,Z,hm,h=>h Y Z .refl (fun p hp=>hp) hm
 | n+1,k::l,m,Y,Z,hm,h=>by
  have e:xShare (n+1) (k::l) m.M=(match m.M.get k with
   | some (.own (.cells c))=>xShare n (xApp (xKeysL c) l) (m.M.set k (.ro (.cells c)))
   | some (.own (.grow z c))=>xShare n (xApp (xKeysL c) l) (m.M.set k (.ro (.grow z c)))
   | some (.own (.map es))=>xShare n (xApp (xKeysO (.map es)) l) (m.M.set k (.ro (.map es)))
   | _=>xShare n l m.M):=rfl
  rw[e]at h;split at h
  ·rename_i c hk;refine Auf hm hk (fun _ _ ho=>by cases ho;exact⟨_,rfl⟩) (by simp) fun Y' Z' a b d=>?_;exact Px n _ _ Y' Z' d fun Y'' Z'' f g i=>h Y'' Z'' (a.trans f) (fun p hp=>b p (g p hp)) i
  ·rename_i z c hk;refine Auf hm hk (fun _ _ ho=>by cases ho;exact⟨_,rfl⟩) (by simp) fun Y' Z' a b d=>?_;exact Px n _ _ Y' Z' d fun Y'' Z'' f g i=>h Y'' Z'' (a.trans f) (fun p hp=>b p (g p hp)) i
  ·rename_i es hk;refine Auf hm hk (fun _ _ ho=>by cases ho;exact⟨_,rfl⟩) (by simp) fun Y' Z' a b d=>?_;exact Px n _ _ Y' Z' d fun Y'' Z'' f g i=>h Y'' Z'' (a.trans f) (fun p hp=>b p (g p hp)) i
  ·exact Px n l m Y Z hm h
theorem To{α}(k:Nat):(Tr.leaf:Tr α).get k=none:=rfl
theorem Xy:∀(t:Tr Cell) (k:Nat),(xOnlyRo t).get k=xRoOf (t.get k)
 | .leaf,k=>rfl
 | .node v l r,k=>by
  show (Tr.node (xRoOf v) (xOnlyRo l) (xOnlyRo r)).get k=_;rw[Tr.get_node,Tr.get_node];split
  ·rfl
  ·split
   ·exact Xy r _
   ·exact Xy l _
theorem Aei:∀(t:Tr Cell) (k:Nat),xNoRcv t=true->xIsRcv (t.get k)=false
 | .leaf,k,_=>rfl
 | .node v l r,k,h=>by
  have h':(match xIsRcv v with|true=>false|false=>match xNoRcv l with|true=>xNoRcv r|false=>false)=true:=h;rw[Tr.get_node];split at h'
  ·cases h'
  ·rename_i hv;split at h'
   ·rename_i hl;split
    ·exact hv
    ·split
     ·exact Aei r _ h'
     ·exact Aei l _ hl
   ·cases h'
theorem Ara(t:Tr Cell)(k:Nat)(vs:List CV)(h:xNoRcv t=true):t.get k≠some (.own (.rcv vs)):=fun e=>by
 have:=Aei t k h;rw[e]at this;cases this
theorem Aih(t:Tr Cell)(k n:Nat)(ms:List Tx)(h:xNoRcv t=true):t.get k≠some (.own (.crowd n ms)):=fun e=>by
 have:=Aei t k h;rw[e]at this;cases this
theorem MemX.child(h:MemX R m Y Z Z9):MemX R ⟨xOnlyRo m.M,m.nx,[],0,[]⟩ Y [] []:=by
 obtain⟨L,G,h⟩:=h;have own:∀k o,xRoOf (m.M.get k)≠some (.own o):=fun k o e=>by
  unfold xRoOf at e;split at e<;>cases e
 refine⟨[],[],.refl _,by simp,fun p hp=>(by cases hp),fun k o hk _=>?_,fun k o hk=>?_,fun p hp=>(by cases hp),h.lt,h.glob⟩
 ·have hk':(xOnlyRo m.M).get k=some (.own o):=hk;rw[Xy]at hk';exact absurd hk' (own k o)
 ·have hk':(xOnlyRo m.M).get k=some (.ro o):=hk;rw[Xy]at hk';unfold xRoOf at hk';split at hk'
  ·rename_i o' hg;cases hk';exact h.ro k _ hg
  ·cases hk'
theorem MemX.noRcv(h:MemX R m Y Z Z9)(hn:NoRecv Z9)(hr:xNoRcv m.M=true):NoRecv Z:=by
 obtain⟨L,G,h⟩:=h;refine⟨fun c vs hm=>?_,fun c k Rs hm=>?_⟩
 ·rcases Gv.1 (h.perm.mem_iff.1 hm) with h1|h1
  ·obtain⟨p,hp,e⟩:=Lp.1 h1;obtain⟨d,o1,f,b,a⟩:=h.own p hp;rw[e]at a;cases a with
   | rcv hv=>exact(Ara _ _ _ hr b).elim
  ·rcases Gv.1 h1 with h1|h1
   ·obtain⟨o,ho⟩:=h.gar _ h1;cases ho
   ·exact hn.recv c vs h1
 ·rcases Gv.1 (h.perm.mem_iff.1 hm) with h1|h1
  ·obtain⟨p,hp,e⟩:=Lp.1 h1;obtain⟨d,o1,f,b,a⟩:=h.own p hp;rw[e]at a;cases a with
   | crowd hv=>exact(Aih _ _ _ _ hr b).elim
  ·rcases Gv.1 h1 with h1|h1
   ·obtain⟨o,ho⟩:=h.gar _ h1;cases ho
   ·exact hn.crowd c k Rs h1
theorem Bbi{x}:∀{i:Nat} {Z τ:Own},Z.Perm (x::τ)->Z[i]?=some x->(Z.eraseIdx i).Perm τ:=fun {i Z τ} h hi=>by
 have b:Z.Perm (x::Z.eraseIdx i):=by
  have hlt:=(lZ1.1 hi).1;clear h;induction Z generalizing i with
  | nil=>cases hlt
  | cons a Z ih =>
   cases i with
   | zero=>cases hi;exact .refl _
   | succ i =>
    rw[Xm]at hi;exact((ih hi (by simpa using hlt)).cons a).trans (.swap ..)
 exact(b.symm.trans h).cons_inv
theorem MemX.gone(h:MemX R m Y Z Z9){k o}(hk:m.M.get k=some (.own o))(hd:o ≠ .dead):∃b c r i,R k=some (b,c)/\Z[i]?=some (b,r)/\ObjR R c o r/\MemX R (m.put k .dead) Y (Z.eraseIdx i) Z9:=by
 obtain⟨L,G,h⟩:=h;obtain⟨b,c,r,i,v,a,w,x⟩:=h.at hk hd;refine⟨b,c,r,i,v,a,w,?_⟩;obtain⟨A,B,rfl⟩:=Tp x;have nd:=h.nd;simp only[Mi,Ic]at nd;have hAB:∀p∈A++B,p.1≠k:=fun p hp e=>by
  rw[Aix]at nd;obtain⟨C,y,z⟩:=nd;rcases Gv.1 hp with hp|hp
  ·exact z p.1 (Rk (f:=Prod.fst) hp) k mC e
  ·exact(Tb.1 y).1 (e ▸ Rk (f:=Prod.fst) hp)
 have dim:∀{p},p∈A++B->p∈A++(k,b,r)::B:=fun {p} hp=>(Gv.1 hp).elim (Iz _) fun hp=>lZ5 _ (lZ0 _ hp);refine⟨A++B,G,?_,?_,fun p hp=>?_,fun j oj hj hd=>?_,fun j oj hj=>?_,h.gar,h.lt,h.glob⟩
 ·have d:=h.perm;simp only[Mi,Ic,lZ9,Sz]at d ⊢;exact Bbi (d.trans Amo) a
 ·rw[Mi];have:(A.map Prod.fst++B.map Prod.fst).Sublist (A.map Prod.fst++k::B.map Prod.fst):=List.Sublist.append_left (Awl ..) _;exact this.nodup nd
 ·obtain⟨g,o1,n,t,u⟩:=h.own p (dim hp);exact⟨g,o1,n,by rw[Na,if_neg (hAB p hp)];exact t,u⟩
 ·rw[Na]at hj;by_cases hjk:j=k
  ·rw[if_pos hjk]at hj;cases hj;exact absurd rfl hd
  ·rw[if_neg hjk]at hj;obtain⟨q,hq⟩:=h.all j oj hj hd;rcases Gv.1 hq with hq|hq
   ·exact⟨q,Iz _ hq⟩
   ·rcases lZ8.1 hq with e|hq
    ·exact absurd (Prod.mk.inj e).1 hjk
    ·exact⟨q,lZ5 _ hq⟩
 ·rw[Na]at hj;by_cases hjk:j=k
  ·rw[if_pos hjk]at hj;cases hj
  ·rw[if_neg hjk]at hj;exact h.ro j oj hj
end
end
section
open Go Go.Conc
section
variable{C:Ctx}{F:Fns}{S:Cy}
theorem Boy(hF:FnsOk C F){l₀:List Oper}:∀(r:List Oper) (st st':St),(preK C.P l₀ r).run F st=some st'->Kept st.m st'.m /\
  ∀b n R e ds Y Z Z9 pre suf tm k cs,Fu n l₀.toArray=true->b.kind ≠ .early->NoRecv Z9->Sim R st e ds Y Z Z9->l₀=pre++(r++suf)->EnvOf n tm e ->
   (∀tm' e' ds' Y' Z' R',EnvOf n tm' e'->XR.le R R'->Ro.le Y Y'->Sim R' st' e' ds' Y' Z' Z9->GoesH C S (Fr b tm' ds' (.inRegion l₀.toArray (List.range' (pre.length+r.length) suf.length)::k)) cs Y' Z') ->
   GoesH C S (Fr b tm ds (.inRegion l₀.toArray (List.range' pre.length (r.length+suf.length))::k)) cs Y Z
 | [],st,st',h=>by
  have h':some st=some st':=h;cases h';refine⟨.refl _,fun b n R e ds Y Z Z9 pre suf tm k cs hsl hk hn hs hl ht hq=>?_⟩;have:=hq tm e ds Y Z R ht .refl .refl hs;simpa using this
 | o::r,st,st',h=>by
  have h':(match (gokK l₀ o).run st.e with
   | false=>none
   | true=>match (guardK l₀ o).run st.e with
    | false=>(preK C.P l₀ r).run F ⟨(dstK o.dst).run st.e .undef,st.m,st.ds⟩
    | true=>match doOR F st ((opK C.P o.op).run st.e st.m) with
     | .v x m ds=>(preK C.P l₀ r).run F ⟨(dstK o.dst).run st.e x,m,ds⟩
     | .bad=>none)=some st':=h
  have key:∀(x:CV) (c:Mem) (a:List CD),(gokK l₀ o).run st.e=true->UqOk C l₀ o st x c a->(preK C.P l₀ r).run F ⟨(dstK o.dst).run st.e x,c,a⟩=some st'->Kept st.m st'.m /\
    ∀b n R e ds Y Z Z9 pre suf tm k cs,Fu n l₀.toArray=true->b.kind ≠ .early->NoRecv Z9->Sim R st e ds Y Z Z9->l₀=pre++(o::r++suf)->EnvOf n tm e ->
     (∀tm' e' ds' Y' Z' R',EnvOf n tm' e'->XR.le R R'->Ro.le Y Y'->Sim R' st' e' ds' Y' Z' Z9->GoesH C S (Fr b tm' ds' (.inRegion l₀.toArray (List.range' (pre.length+(o::r).length) suf.length)::k)) cs Y' Z') ->
     GoesH C S (Fr b tm ds (.inRegion l₀.toArray (List.range' pre.length ((o::r).length+suf.length))::k)) cs Y Z:=by
   intro x c a hgk hu hr;obtain⟨y,ih⟩:=Boy hF r _ _ hr;refine⟨hu.kept.1.trans y,fun b n R e ds Y Z Z9 pre suf tm k cs hsl hk hn hs hl ht hq=>?_⟩;have hi:l₀[pre.length]?=some o:=by rw[hl];simp
   have hrg:List.range' pre.length ((o::r).length+suf.length)=pre.length::List.range' (pre.length+1) (r.length+suf.length):=by
    rw[Gb,show r.length+1+suf.length=(r.length+suf.length)+1 by omega,Agl]
   rw[hrg];refine(Beu hsl hk (Bff (b:=b) hu hi hgk hn hs) ht).bind ?_;rintro _ cs' Y' Z' ⟨rfl,tm',e',ds',u,⟨rfl,R',v,d,z,rfl,B,D⟩,rfl⟩;have w:Sim R' ⟨(dstK o.dst).run st.e x,c,a⟩ (Ja e o.dst v) ds' Y' Z' Z9:=⟨Om (hs.env.mono d) B,D,by
    rw[hu.kept.2.2];exact hs.ds.mono d⟩
   have:=ih b n R' _ ds' Y' Z' Z9 (pre++[o]) suf tm' k cs' hsl hk hn w (by rw[hl];simp) u fun E i g G H f j p q t=>by
    have:=hq E i g G H f j (d.trans p) (z.trans q) t;rw[lZ4,Xo];rw[Gb]at this;rw[show pre.length+1+r.length=pre.length+(r.length+1) by omega];exact this
   rw[lZ4,Xo]at this;exact this
  split at h'
  ·cases h'
  ·rename_i hgk;split at h'
   ·rename_i hg;exact key _ _ _ hgk (.inl ⟨hg,rfl,rfl,rfl⟩) h'
   ·rename_i hg;split at h'
    ·rename_i x m ds hov;exact key _ _ _ hgk (.inr ⟨hg,Aan hF hov⟩) h'
    ·cases h'
theorem Buy{n:Nat}{b:FB}(hb:b.kind ≠ .early)(hr:b.round=none)(hcode:∀c st ex st',(codeK C.P doX n c).run F none st=Gk ex st'->Wx (goT C S) n none c st ex st'):∀(c c':Code) (i:Nat) (l:List Oper),xTail c=some (c',i,l)->∀st st1,(codeK C.P doX n c').run F none st = .n st1 ->
  ∀R e ds Y Z Z9 tm k cs,NoRecv Z9->Sim R st e ds Y Z Z9->EnvOf n tm e ->
   (∀tm' e' ds' Y' Z' R',EnvOf n tm' e'->XR.le R R'->Ro.le Y Y'->Sim R' st1 e' ds' Y' Z' Z9->GoesH C S (Fr b tm' ds' (.code (.region i l.toArray false)::k)) cs Y' Z') ->
   GoesH C S (Fr b tm ds (.code c::k)) cs Y Z:=by
 intro c;induction c with
 | seq x y _ ihy =>
  intro c' i l h st st1 f R e ds Y Z Z9 tm k cs hn hs ht hq;have a:(match xTail y with|some (c,i,l)=>some (Code.seq x c,i,l)|none=>none)=some (c',i,l):=h;cases hy:xTail y with
  | none=>rw[hy]at a;cases a
  | some q =>
   obtain⟨cy,iy,ly⟩:=q;rw[hy]at a;cases a;have g:(match (codeK C.P doX n x).run F none st with | .n st=>(codeK C.P doX n cy).run F none st|z=>z) = .n st1:=f;split at g
   ·rename_i st2 h2;refine Eh (fr':=Fr b tm ds (.code x :: .code y::k)) (cs':=cs) (fun W=>by simp[Conc.G,stepG,stepG.exec,Fr]) ?_;refine((hcode x st .normal st2 h2 b hb).2 trivial R e ds Y Z Z9 hn ⟨trivial,hr⟩ hs) tm (.code y::k) cs ht fun tm' e' ds' Y' Z' L d ⟨R',D,E,H⟩ B=>?_;cases B;exact ihy cy _ _ hy st2 st1 g R' e' ds' Y' Z' Z9 tm' k cs hn H d fun I p m J K j t u v w=>hq I p m J K j t (D.trans u) (E.trans v) w
   ·rename_i hne;exact absurd g (hne _)
 | region id ops draw =>
  intro c' i l h st st1 f R e ds Y Z Z9 tm k cs hn hs ht hq;cases draw with
  | true=>cases h
  | false =>
   have a:some (Code.skip,id,ops.toList)=some (c',i,l):=h;cases a;have d:Go.Proofs.YtekhlbdfjkndnaaGreatDoor.R.n st = .n st1:=f;cases d;have:=hq tm e ds Y Z R ht .refl .refl hs;rw[Adz]at this;exact this
 | _=>intro c' i l h;cases h
end
def Bjq(M:Tr Cell)(x:Nat×Option Nat×List CV):Prop:=M.get x.1=some (.ro (match x.2.1 with|none=>.cells x.2.2|some z=>.grow z x.2.2))
theorem Aez(lo:Nat)(M:Tr Cell):∀(n:Nat) (l:List Nat) (a:List (Nat×Option Nat×List CV)),(∀x∈a,Bjq M x)->∀x∈xRows lo M n l a,Bjq M x
 | 0,l,a,h,x,hx=>h x hx
 | n+1,[],a,h,x,hx=>h x hx
 | n+1,k::l,a,h,x,hx=>by
  have e:xRows lo M (n+1) (k::l) a=(match Nat.ble lo k,xHasK k a with
   | true,false=>match M.get k with
    | some (.ro (.cells c))=>xRows lo M n (xApp (xKeysL c) l) ((k,none,c)::a)
    | some (.ro (.grow z c))=>xRows lo M n (xApp (xKeysL c) l) ((k,some z,c)::a)
    | _=>xRows lo M n l a
   | _,_=>xRows lo M n l a):=rfl
  rw[e]at hx;split at hx
  ·split at hx
   ·rename_i c hc;exact Aez lo M n _ _ (fun y hy=>(lZ8.1 hy).elim (fun e=>by subst e;exact hc) (h y)) x hx
   ·rename_i z c hc;exact Aez lo M n _ _ (fun y hy=>(lZ8.1 hy).elim (fun e=>by subst e;exact hc) (h y)) x hx
   ·exact Aez lo M n _ _ h x hx
  ·exact Aez lo M n _ _ h x hx
theorem Buq{R:XR}{m:Mem}{Y:Ro}{Z Z9:Own}(hm:MemX R m Y Z Z9){x:Nat×Option Nat×List CV}(h:Bjq m.M x):∃b c y,R x.1=some (b,c)/\Y b=some y/\Caf R c x.2.1 x.2.2 y:=by
 obtain⟨L,G,hm⟩:=hm;obtain⟨b,c,y,e,g,f,d⟩:=hm.ro _ _ h;refine⟨b,c,y,e,g,?_⟩;obtain⟨k,z,l⟩:=x;cases y with
 | cells cs t f' =>
  cases z with
  | none =>
   have a:ObjR R c (.cells l) (.obj (.cells cs t f)):=d;generalize hr:Res.obj (.cells cs t f)=r at a;cases a with
   | @cells _ l' t1 fz g1 g2=>cases hr;exact⟨l',t,f',rfl,g1⟩
  | some z =>
   have a:ObjR R c (.grow z l) (.obj (.cells cs t f)):=d;generalize hr:Res.obj (.cells cs t f)=r at a;cases a with
   | @grow _ _ l' rest t1 fz g1 g2 g3 g4=>cases hr;exact⟨l',rest,t,f',rfl,g1,g2,g3⟩
 | _ =>
  exfalso;cases z with
  | none=>cases d
  | some z=>cases d
section
variable{P:Program}{c:Nat}{R:Value->Ro->Prop}{Y:Ro}{Z:Own}{fr fr':Frame}{cs cs':List Frame}
theorem Bnr(h:∀W,stepG P false (Conc.G fr cs) W = .go (Conc.G fr' cs') W #[])(hk:MsgI P c R fr' cs' Y Z):MsgI P c R fr cs Y Z :=
 MsgI.of_goes (Eh (C:=Wn P) h (.stop (S:=fun a b c d=>a=fr'/\b=cs'/\c=Y/\d=Z) ⟨rfl,rfl,rfl,rfl⟩)) (by rintro _ _ _ _ ⟨rfl,rfl,rfl,rfl⟩;exact hk)
theorem Awh{f:FuncId}{fn:Func}{args fs:Array Value}(hf:P.funcs[f]?=some fn)(hn:(fn.name == "runtime.NumGoroutine")=false)(hb:fn.body.isNone=false)(W:World) :
  (invoke (.fn (.func f) fs) args).runT P W #[]=(.ok (.enter f (args++fs)) W,#[]):=by show (callFunc f (args++fs)).runT P W #[]=_;show (program.bind _:Sem Next).runT P W #[]=_;rw[Sem.runT_bind'];show Sem.runT P (match P.funcs[f]? with|none=>_|some fn=>_) W #[]=_;rw[hf];simp only[hn,hb];rfl
theorem Bht{f:FuncId}{fn:Func}{args fs:Array Value}(hf:P.funcs[f]?=some fn)(hn:(fn.name == "runtime.NumGoroutine")=false)(hb:fn.body.isNone=false)
  (h:MsgI P c R (Frame.enter P f (args++fs) .deferred) [Gf P] Y []):MsgI P c R (Gg P {target:=.fn (.func f) fs,args:=args}) [] Y []:=by refine Bnr (fun W=>?_) h;have hr:=Awh (args:=args) (fs:=fs) hf hn hb W;simp[Conc.G,stepG,Gg,unwind,callDeferred,-Sem.runT_eq,hr,GStep.after,seen,Gf]
theorem leaves{b:FB}{tm:Array Value}{ops:Array Oper}{fn:Func}(hf:P.funcs[b.fn]?=some fn)(hk:b.kind = .deferred)(hro:b.round=none)(hr:fn.results = #[]):QuitsIn P 5 (Conc.G (Fr b tm [] [.inRegion ops []]) [Gf P]):=by
 refine .inr ⟨rfl,Conc.G (Fr b tm [] []) [Gf P],fun w=>by simp[Conc.G,stepG,stepG.exec,Fr],?_⟩;refine .inr ⟨rfl,Conc.G {Fr b tm [] [] with mode:=.returning} [Gf P],fun w=>by simp[Conc.G,stepG,stepG.exec,Fr,hro],?_⟩;refine .inr ⟨rfl,Conc.G (Gf P) [],fun w=>?_,.inr ⟨rfl,{Conc.G (Gf P) [] with status:=.finished},fun w=>?_,.inl (rfl:GoStatus.finished=GoStatus.finished)⟩⟩
 ·have hrs:(results fn tm).runT P w #[]=(.ok (.tuple #[]) w,#[]):=by
   unfold results;rw[hr,Bau];rfl
  simp[Conc.G,stepG,Fr,unwind,hf,-Sem.runT_eq,hrs,doReturn,hk,GStep.after,Gf,goexitEntry,seen]
 ·have hc:Frame.catches P (Gf P)=false:=by
   unfold Frame.catches Gf;cases P.funcs[P.funcs.size]?<;>rfl
  simp only[Gf,goexitEntry]at hc;simp[Conc.G,stepG,Gf,unwind,goexitEntry,hc]
end
theorem Bnq{P:Program}{g:Nat}{F:Fns}{args:List CV}{m m1:Mem}{k:Nat}{x:CV}(h:(msgK P g).run F args m=some (k,x,m1)) :
  ∃fn cd c' i l so a y st st1,P.funcs[g]?=some fn/\(fn.name == "runtime.NumGoroutine")=false/\fn.body.isNone=false/\fn.body=some cd/\fn.results = #[]/\args.length<=fn.ntmps/\xTail cd=some (c',i,l)/\l.getLast?=some so/\Fu fn.ntmps l.toArray=true /\
   (∃dd ty pos af,so=⟨dd,.send a y,ty,pos,af,none⟩)/\(codeK P doX fn.ntmps c').run F none ⟨xArgEnv args 0 .leaf,m,[]⟩ = .n st/\(preK P l l.dropLast).run F st=some st1/\st1.ds=[]/\(rdK a).run st1.e = .c k/\(rdK y).run st1.e=x/\st1.m=m1:=by
 unfold msgK at h;split at h
 ·rename_i fn hf hb;obtain⟨fn',hf',hn,hbn⟩:=Xj hb;rw[hf]at hf';cases hf';split at h
  ·rename_i cd hc hr;have d:fn.results = #[]:=by apply Array.ext';simpa using hr
   split at h
   ·rename_i c' i l ht;split at h
    ·rename_i so hl hsl;split at h
     ·rename_i a y hso;have h':(match Nat.ble (xLen args) fn.ntmps with
       | true=>match (codeK P doX fn.ntmps c').run F none ⟨xArgEnv args 0 .leaf,m,[]⟩ with
        | .n st=>match (preK P l l.dropLast).run F st with
         | some st=>match st.ds,(rdK a).run st.e with
          | [],.c k=>some (k,(rdK y).run st.e,st.m)
          | _,_=>none
         | none=>none
        | _=>none
       | false=>none)=some (k,x,m1):=h
      split at h'
      ·rename_i hble;have b:=lZ7 hble;rw[Ia]at b;split at h'
       ·rename_i st hst;split at h'
        ·rename_i st1 hst1;split at h'
         ·rename_i k1 hds hk;cases h';have f:∃dd ty pos af,so=⟨dd,.send a y,ty,pos,af,none⟩:=by
           obtain⟨dd,op,ty,pos,af,gd⟩:=so;unfold xSendOf at hso;simp only at hso;split at hso
           ·cases hso;exact⟨dd,ty,pos,af,rfl⟩
           ·cases hso
          exact⟨fn,cd,c',i,l,so,a,y,st,st1,hf,hn,hbn,hc,d,b,ht,hl,Abb hsl,f,hst,hst1,hds,hk,rfl,rfl⟩
         ·cases h'
        ·cases h'
       ·cases h'
      ·cases h'
     ·cases h
    ·cases h
   ·cases h
  ·cases h
 ·cases h
theorem Bns{P:Program}{F:Fns}(hF:FnsOk (Wn P) F)(hx:∀S,Abs (goT (Wn P) S) F doX){g:Nat}{args:List CV}{m m1:Mem}{k:Nat}{x:CV}(h:(msgK P g).run F args m=some (k,x,m1)) :
  ∀R args' b c Y av fs,av++fs=args'.toArray->VR R args args'->MemX R m Y [] []->R k=some (b,c)->MsgI P b (Auy R (xMsgOf m.nx x m1)) (Gg P {target:=.fn (.func g) fs,args:=av}) [] Y []:=by
 obtain⟨fn,cd,c',i,l,so,a,y,st,j,hf,hnm,hbn,hc,hr,O,ht,hl,hsl,⟨dd,ty,pos,af,hso⟩,a0,V,hds,hk,hxv,T⟩:=Bnq h;intro R args' b c Y av fs K hv hm hR;refine Bht hf hnm hbn ?_;rw[K];have H:Frame.enter P g args'.toArray .deferred=Fr ⟨g,.deferred,none⟩ (args'.toArray++Array.replicate (fn.ntmps-args'.toArray.size) undef) [] [.code cd]:=by
  simp[Frame.enter,hf,hc,Fr]
 rw[H];have hll:l=l.dropLast++[so]:=by
  obtain⟨pre,rfl⟩:=List.getLast?_eq_some_iff.1 hl;simp
 refine MsgI.of_goes (S:=fun fr cs Y Z=>MsgI P b (Auy R (xMsgOf m.nx x m1)) fr cs Y Z) ?_ fun _ _ _ _ h=>h;refine Buy (C:=Wn P) (F:=F) (n:=fn.ntmps) (b:=⟨g,.deferred,none⟩) (by simp) rfl (fun c st ex st' h=>Xb (C:=Wn P) hF (hx _) (fun _=>⟨⟨_,rfl⟩,hx⟩) c h) cd c' i l ht _ st a0 R (Pn args') [] Y [] [] _ [] [Gf P] NoRecv.nil ⟨Acy hv,hm,.nil⟩ (Tn (by rw[<-hv.len];exact O)) ?_;intro tm e ds a1 a3 D I q g3 J;refine Eh (fr':=Fr ⟨g,.deferred,none⟩ tm ds [.inRegion l.toArray (List.range l.toArray.size)]) (cs':=[Gf P]) (fun W=>by simp[Conc.G,stepG,stepG.exec,Fr]) ?_;have hsz:List.range l.toArray.size=List.range' ([]:List Oper).length (l.dropLast.length+[so].length):=by
  rw[Aiy,Awn,<-lZ4,<-hll];rfl
 rw[hsz];obtain⟨_,hp⟩:=Boy (S:=fun fr cs Y Z=>MsgI P b (Auy R (xMsgOf m.nx x m1)) fr cs Y Z) hF l.dropLast st j V;refine hp ⟨g,.deferred,none⟩ fn.ntmps D e ds a1 a3 [] [] [so] tm [] [Gf P] hsl (by simp) NoRecv.nil J (by rw[Agn];exact hll) I ?_;intro t f E a2 a4 p w B w3 d;have N:E=[]:=by
  have:=d.ds;rw[hds]at this;cases this;rfl
 subst N;subst T;refine Px 100000 (xKeysV x) j.m a2 a4 d.mem fun a5 a6 q1 q2 q3=>.stop ?_;have hxs:=Dy d.env d.mem.globR a;rw[hk]at hxs;obtain⟨b2,c2,u,u2⟩:=Bjb hxs;have hRk:p k=some (b,c):=B _ _ (q _ _ hR);rw[hRk]at u;cases u;have hys:=Dy d.env d.mem.globR y;rw[hxv]at hys;have hi:l.toArray[l.dropLast.length]?=some ⟨dd,.send a y,ty,pos,af,none⟩:=by
  rw[Jw,<-hso,hll];simp
 have hrg:List.range' (([]:List Oper).length+l.dropLast.length) [so].length=[l.dropLast.length]:=by
  rw[Nx,Qz];rfl
 rw[hrg];refine .send (v:=Af f y) (z:=.tuple #[]) (fun W=>?_) ?_ ⟨5,?_⟩
 ·have hst:=Np (C:=Wn P) (b:=⟨g,.deferred,none⟩) (ds:=[]) (tm:=t) (k:=[]) (cs:=[Gf P]) (rest:=[]) hi (by rw[Ij hsl w];rfl) (fun c' h'=>by cases h') W;refine hst.trans ?_;have hev:=w.eval ⟨g,.deferred,none⟩ [] [.inRegion l.toArray [l.dropLast.length]];rw[hev];have X:(execOp (Af f) ⟨dd,.send a y,ty,pos,af,none⟩).runT P W #[]=(.ok (.comm #[scase b (Af f y) (.tuple #[])] true .send) W,#[]):=by
   show (Sem.pure (Next.comm #[{chan:=Af f a,send:=some (Af f y),zero:=.tuple #[]}] true .send)).runT P W #[]=_;rw[u2];rfl
  simp only[Wn]at *;simp[stepG.apply,-Sem.runT_eq,X,GStep.after,Conc.G,Fr,seen]
 ·refine⟨p,q.trans B,hys,fun r YQ=>?_,?_⟩
  ·have ZQ:r∈xRows m.nx (xShare 100000 (xKeysV x) j.m.M) 1000 (xKeysV x) []:=YQ;exact Buq q3 (Aez _ _ _ _ _ (by simp) r ZQ)
  ·obtain⟨L,G,U⟩:=d.mem;exact U.lt
 ·show QuitsIn P 5 (Conc.G ((Fr ⟨g,.deferred,none⟩ t [] [.inRegion l.toArray [l.dropLast.length]]).finish undef) [Gf P]);rw[Ju hi];exact leaves hf rfl rfl hr
end
section
open Go Go.Conc
section
variable{P:Program}{b:FB}{n:Nat}{l₀ rest:List Oper}{Q:Env->List Deferred->Ro->Own->Prop}{e:Env}{ds:List Deferred}{Y:Ro}{Z:Own}{o o':List CV}{S:Cy}
variable{dd:Option Tmp}{ty t:TypeId}{pos:String}{af:Array Edge}{g:Option (Nat×Bool)}{x:Operand}{v z:Value}
theorem Bip{el dir c}(hT:P.underlying t=some (.chan dir el))(hz:Fw P el z)(hx:Af e x = .chan (some c))(W:World):
  (execOp (Af e) ⟨dd,.recv t x true,ty,pos,af,g⟩).runT P W #[]=(.ok (.comm #[Conc.rcase c z] true (.recv true)) W,#[]):=by
 obtain⟨ti,f,h⟩:=hz;show ((underlying t).bind _:Sem Next).runT P W #[]=_;rw[Sem.runT_bind'];have a:(underlying t).runT P W #[]=(.ok (.chan dir el) W,#[]):=by
  show Sem.runT P (match P.underlying t with|some i=>pure i|none=>_) W #[]=_;rw[hT];rfl
 rw[a];show ((zeroValue el).bind _:Sem Next).runT P W #[]=_;rw[Sem.runT_bind'];have b:(zeroValue el).runT P W #[]=(.ok z W,#[]):=by
  show Sem.runT P ((typeInfo el).bind _) W #[]=_;rw[Sem.runT_bind'];have d:(typeInfo el).runT P W #[]=(.ok ti W,#[]):=by
   show Sem.runT P (match P.info? el with|some i=>pure i|none=>_) W #[]=_;rw[f];rfl
  rw[d];simp only[h];rfl
 rw[b,hx];rfl
theorem Aye{el dir c}(hT:P.underlying t=some (.chan dir el))(hz:Fw P el z)(hx:Af e x = .chan (some c)){i rs tm k cs}(ho:l₀.toArray[i]?=some ⟨dd,.recv t x true,ty,pos,af,g⟩)(hw:Bz l₀.toArray ⟨dd,.recv t x true,ty,pos,af,g⟩ e=true)(hs:Fu n l₀.toArray=true)(hk:b.kind ≠ .early)(ht:EnvOf n tm e):Sv P c z (Fr b tm ds (.inRegion l₀.toArray (i::rs)::k)) cs:=by
 intro W;have hev:=ht.eval b ds (.inRegion l₀.toArray (i::rs)::k);have hst:=Np (C:=Iw P) (b:=b) (ds:=ds) (tm:=tm) (k:=k) (cs:=cs) (rest:=rs) ho (by rw[Ij hs ht];exact hw) (fun c' h'=>by cases h') W;refine hst.trans ?_;rw[hev];have hk':(b.kind==CallKind.early)=false:=by cases hb:b.kind<;>simp_all<;>rfl
 have hr:=Bip (P:=P) (dd:=dd) (ty:=ty) (pos:=pos) (af:=af) (g:=g) hT hz hx W;simp only[Iw]at *;simp[stepG.apply,-Sem.runT_eq,hr,hk',GStep.after,Conc.G,Fr,seen]
theorem Bxw{el dir c i vs}(hs:Fu n l₀.toArray=true)(hk:b.kind ≠ .early)(hw:Bz l₀.toArray ⟨dd,.recv t x true,ty,pos,af,g⟩ e=true)(hT:P.underlying t=some (.chan dir el))(hz:Fw P el z)(hx:Af e x = .chan (some c))(hi:Z[i]?=some (c,Res.recv (v::vs)))(h:Ops (goT (Iw P) S) b n l₀ rest o (Ja e dd (.tuple #[v,.bool true])) ds Y (Z.set i (c,.recv vs)) o' Q):Ops (goT (Iw P) S) b n l₀ (⟨dd,.recv t x true,ty,pos,af,g⟩::rest) o e ds Y Z o' Q:=by
 intro pre a tm k cs ht hq;have ho:l₀.toArray[pre.length]?=some ⟨dd,.recv t x true,ty,pos,af,g⟩:=by subst a;simp
 rw[Gb,Agl];have d:=h (pre++[⟨dd,.recv t x true,ty,pos,af,g⟩]) (by rw[a];simp);rw[lZ4,Xo]at d;refine GoesH.ext (K:=fun fr' cs' Y' Z'=>fr'=(Fr b tm ds (.inRegion l₀.toArray (pre.length::List.range' (pre.length+1) rest.length)::k)).finish (.tuple #[v,.bool true])/\cs'=cs/\Y'=Y/\Z'=Z.set i (c,.recv vs))
  (.inr (.inl ⟨i,c,v,vs,z,Aye hT hz hx ho hw hs hk ht,hi,rfl,rfl,rfl,rfl⟩)) ?_
 rintro _ _ _ _ ⟨rfl,rfl,rfl,rfl⟩;rw[Ju ho];exact d _ k _ (Jj hs ht ho _) hq
theorem Bhu{el dir c i}(hs:Fu n l₀.toArray=true)(hk:b.kind ≠ .early)(hw:Bz l₀.toArray ⟨dd,.recv t x true,ty,pos,af,g⟩ e=true)(hT:P.underlying t=some (.chan dir el))(hz:Fw P el z)(hx:Af e x = .chan (some c))(hi:Z[i]?=some (c,Res.recv []))(h:Ops (goT (Iw P) S) b n l₀ rest o (Ja e dd (.tuple #[z,.bool false])) ds Y (Z.eraseIdx i) o' Q):Ops (goT (Iw P) S) b n l₀ (⟨dd,.recv t x true,ty,pos,af,g⟩::rest) o e ds Y Z o' Q:=by
 intro pre a tm k cs ht hq;have ho:l₀.toArray[pre.length]?=some ⟨dd,.recv t x true,ty,pos,af,g⟩:=by subst a;simp
 rw[Gb,Agl];have d:=h (pre++[⟨dd,.recv t x true,ty,pos,af,g⟩]) (by rw[a];simp);rw[lZ4,Xo]at d;refine GoesH.ext (K:=fun fr' cs' Y' Z'=>fr'=(Fr b tm ds (.inRegion l₀.toArray (pre.length::List.range' (pre.length+1) rest.length)::k)).finish (.tuple #[z,.bool false])/\cs'=cs/\Y'=Y/\Z'=Z.eraseIdx i)
  (.inr (.inr (.inl ⟨i,c,z,Aye hT hz hx ho hw hs hk ht,hi,rfl,rfl,rfl,rfl⟩))) ?_
 rintro _ _ _ _ ⟨rfl,rfl,rfl,rfl⟩;rw[Ju ho];exact d _ k _ (Jj hs ht ho _) hq
theorem Bxu{c df i ch vs}(hs:Fu n l₀.toArray=true)(hk:b.kind ≠ .early)(hw:Bz l₀.toArray ⟨dd,.go c,ty,pos,af,g⟩ e=true)(hd:resolve (Af e) c ty=pure df)(hnil:∃f fs,df.target = .fn f fs)(hn:NoRecv Z)(hi:Z[i]?=some (ch,Res.chan))(hS:SendI P ch vs (Gg P df) [] Y [])(h:Ops (goT (Iw P) S) b n l₀ rest o (Ja e dd undef) ds Y (Z.set i (ch,.recv vs)) o' Q){pre}(hpre:l₀=pre++⟨dd,.go c,ty,pos,af,g⟩::rest){tm k cs}(ht:EnvOf n tm e)(hq:∀tm' e' ds' Y' Z',EnvOf n tm' e'->Q e' ds' Y' Z'->(goT (Iw P) S).Go o' (Fr b tm' ds' k) cs Y' Z'):
  GoesH (Iw P) S (Fr b tm ds (.inRegion l₀.toArray (List.range' pre.length (⟨dd,.go c,ty,pos,af,g⟩::rest:List Oper).length)::k)) cs Y Z:=by
 have ho:l₀.toArray[pre.length]?=some ⟨dd,.go c,ty,pos,af,g⟩:=by subst hpre;simp
 rw[Gb,Agl];have a:=h (pre++[⟨dd,.go c,ty,pos,af,g⟩]) (by rw[hpre];simp);rw[lZ4,Xo]at a;have hev:=ht.eval b ds (.inRegion l₀.toArray (pre.length::List.range' (pre.length+1) rest.length)::k);have hex:execOp (Af e) ⟨dd,.go c,ty,pos,af,g⟩=(pure (.spawn df):Sem Next):=by
  show ((resolve (Af e) c ty).bind fun d=>pure (Next.spawn d))=_;rw[hd];rfl
 refine GoesH.ext (K:=fun fr' cs' Y' Z'=>fr'=(Fr b tm ds (.inRegion l₀.toArray (pre.length::List.range' (pre.length+1) rest.length)::k)).finish undef/\cs'=cs/\Y'=Y/\Z'=Z.set i (ch,.recv vs))
  (.inl ⟨df,i,ch,vs,_,fun W=>?_,hn,hi,hS,rfl,rfl,rfl,rfl⟩) ?_
 ·have hst:=Np (C:=Iw P) (b:=b) (ds:=ds) (tm:=tm) (k:=k) (cs:=cs) (rest:=List.range' (pre.length+1) rest.length) ho (by rw[Ij hs ht];exact hw) (fun c' h'=>by cases h') W;refine hst.trans ?_;rw[hev,hex];have hk':(b.kind==CallKind.early)=false:=by cases hb:b.kind<;>simp_all<;>rfl
  obtain⟨tg,ar⟩:=df;obtain⟨f,fs,hnil⟩:=hnil;simp only at hnil;subst hnil;simp[stepG.apply,Sem.runT,pure,hk',GStep.after,Conc.G,Gg,Fr,seen,Iw]
 ·rintro _ _ _ _ ⟨rfl,rfl,rfl,rfl⟩;rw[Ju ho];exact a _ k _ (Jj hs ht ho _) hq
theorem Cbb{c:Call}{df:Deferred}{i ch kk:Nat}{Rs:List (Value->Ro->Prop)}{Rm:Value->Ro->Prop}(hs:Fu n l₀.toArray=true)(hk:b.kind ≠ .early)(hw:Bz l₀.toArray ⟨dd,.go c,ty,pos,af,g⟩ e=true)(hd:resolve (Af e) c ty=pure df)(hnil:∃f fs,df.target = .fn f fs)
  (hn:∀c vs,(c,Res.recv vs)∉Z) (hn1:∀c' k' Rs',(c',Res.crowd k' Rs')∈Z->Rs'≠[]->c'=ch) (hi:Z[i]?=some (ch,Res.crowd (kk+1) Rs))
  (hS:MsgI P ch Rm (Gg P df) [] Y []) (h:Ops (goT (Iw P) S) b n l₀ rest o (Ja e dd undef) ds Y (Z.set i (ch,.crowd kk (Rs++[Rm]))) o' Q) {pre:List Oper} (hpre:l₀=pre++⟨dd,.go c,ty,pos,af,g⟩::rest) {tm:Array Value} {k:List Item} {cs:List Frame} (ht:EnvOf n tm e)
  (hq:∀tm' e' ds' Y' Z',EnvOf n tm' e'->Q e' ds' Y' Z'->(goT (Iw P) S).Go o' (Fr b tm' ds' k) cs Y' Z') :
  GoesH (Iw P) S (Fr b tm ds (.inRegion l₀.toArray (List.range' pre.length (⟨dd,.go c,ty,pos,af,g⟩::rest:List Oper).length)::k)) cs Y Z:=by
 have ho:l₀.toArray[pre.length]?=some ⟨dd,.go c,ty,pos,af,g⟩:=by subst hpre;simp
 rw[Gb,Agl];have a:=h (pre++[⟨dd,.go c,ty,pos,af,g⟩]) (by rw[hpre];simp);rw[lZ4,Xo]at a;have hev:=ht.eval b ds (.inRegion l₀.toArray (pre.length::List.range' (pre.length+1) rest.length)::k);have hex:execOp (Af e) ⟨dd,.go c,ty,pos,af,g⟩=(pure (.spawn df):Sem Next):=by
  show ((resolve (Af e) c ty).bind fun d=>pure (Next.spawn d))=_;rw[hd];rfl
 refine GoesH.ext (K:=fun fr' cs' Y' Z'=>fr'=(Fr b tm ds (.inRegion l₀.toArray (pre.length::List.range' (pre.length+1) rest.length)::k)).finish undef/\cs'=cs/\Y'=Y/\Z'=Z.set i (ch,.crowd kk (Rs++[Rm])))
  (.inr (.inr (.inr (.inl ⟨df,i,ch,kk,Rs,Rm,_,fun W=>?_,hn,hn1,hi,hS,rfl,rfl,rfl,rfl⟩)))) ?_
 ·have hst:=Np (C:=Iw P) (b:=b) (ds:=ds) (tm:=tm) (k:=k) (cs:=cs) (rest:=List.range' (pre.length+1) rest.length) ho (by rw[Ij hs ht];exact hw) (fun c' h'=>by cases h') W;refine hst.trans ?_;rw[hev,hex];have hk':(b.kind==CallKind.early)=false:=by cases hb:b.kind<;>simp_all<;>rfl
  obtain⟨tg,ar⟩:=df;obtain⟨f,fs,hnil⟩:=hnil;simp only at hnil;subst hnil;simp[stepG.apply,Sem.runT,pure,hk',GStep.after,Conc.G,Gg,Fr,seen,Iw]
 ·rintro _ _ _ _ ⟨rfl,rfl,rfl,rfl⟩;rw[Ju ho];exact a _ k _ (Jj hs ht ho _) hq
theorem MemX.oneCrowd{R:XR}{m:Mem}{Z9:Own}{kk bb cc nn:Nat}{ms:List Tx}(h:MemX R m Y Z Z9)(hn:NoRecv Z9)(hk:m.M.get kk=some (.own (.crowd nn ms)))(hr:xNoRcv (m.M.set kk (.own .dead))=true)(hR:R kk=some (bb,cc)) :
  (∀c vs,(c,Res.recv vs)∉Z)/\∀c' k' Rs',(c',Res.crowd k' Rs')∈Z->Rs'≠[]->c'=bb:=by
 obtain⟨L,G,h⟩:=h;have get:∀j,j≠kk->(m.M.set kk (.own .dead)).get j=m.M.get j:=fun j hj=>by rw[Tr.get_set,if_neg hj]
 refine⟨fun c vs hm=>?_,fun c k Rs hm hne=>?_⟩
 ·rcases Gv.1 (h.perm.mem_iff.1 hm) with h1|h1
  ·obtain⟨p,hp,e⟩:=Lp.1 h1;obtain⟨f,o1,d,b,a⟩:=h.own p hp;by_cases hj:p.1=kk
   ·rw[hj,hk]at b;cases b;rw[e]at a;cases a
   ·rw[e]at a;cases a with
    | rcv hv=>exact(Ara _ p.1 _ hr (by rw[get _ hj];exact b)).elim
  ·rcases Gv.1 h1 with h1|h1
   ·obtain⟨o,ho⟩:=h.gar _ h1;cases ho
   ·exact hn.recv c vs h1
 ·rcases Gv.1 (h.perm.mem_iff.1 hm) with h1|h1
  ·obtain⟨p,hp,e⟩:=Lp.1 h1;obtain⟨f,o1,d,b,a⟩:=h.own p hp;by_cases hj:p.1=kk
   ·rw[hj,hR]at d;cases d;rw[e]
   ·rw[e]at a;cases a with
    | crowd hv=>exact(Aih _ p.1 _ _ hr (by rw[get _ hj];exact b)).elim
  ·rcases Gv.1 h1 with h1|h1
   ·obtain⟨o,ho⟩:=h.gar _ h1;cases ho
   ·exact absurd (hn.crowd c k Rs h1) hne
theorem Ys{lo:Nat}:∀{l:List Nat},xAllGe lo l=true->∀j∈l,lo<=j
 | a::l,h,j,hj=>by
  have h':(match Nat.ble lo a with|true=>xAllGe lo l|false=>false)=true:=h;split at h'
  ·rename_i ha;rcases lZ8.1 hj with rfl|hj
   ·exact lZ7 ha
   ·exact Ys h' j hj
  ·cases h'
theorem Ark{lo:Nat}:∀{l:List (Nat×Option Nat×List CV)},xRowsGe lo l=true->∀x∈l,∀j∈xKeysL x.2.2,lo<=j
 | a::l,h,x,hx=>by
  have h':(match xAllGe lo (xKeysL a.2.2) with|true=>xRowsGe lo l|false=>false)=true:=h;split at h'
  ·rename_i ha;rcases lZ8.1 hx with rfl|hx
   ·exact Ys ha
   ·exact Ark h' x hx
  ·cases h'
theorem Bhs{q:Tx}(h:xMsgLow q=true):∀j∈xKeysM q,q.2.2.1<=j:=fun j hj=>by
 unfold xMsgLow at h;split at h
 ·rename_i h1;rcases Gv.1 hj with hj|hj
  ·exact Ys h1 j hj
  ·obtain⟨x,hx,hj⟩:=Bmw.1 hj;exact Ark h x hx j hj
 ·cases h
theorem Bxy{c kc fin y xv}(hs:Fu n l₀.toArray=true)(hk:b.kind ≠ .early)(hw:Bz l₀.toArray ⟨dd,.send x y,ty,pos,af,g⟩ e=true)(hx:Af e x = .chan (some c))(hy:Af e y=plainV xv)(hsuf:∃l,fin=l++(xv::o))(h:Ops (Ayj P c kc fin) b n l₀ rest (xv::o) (Ja e dd undef) ds Y Z o' Q):Ops (Ayj P c kc fin) b n l₀ (⟨dd,.send x y,ty,pos,af,g⟩::rest) o e ds Y Z o' Q:=by
 intro pre a tm k cs ht hq l hl;have ho:l₀.toArray[pre.length]?=some ⟨dd,.send x y,ty,pos,af,g⟩:=by subst a;simp
 rw[Gb,Agl];have d:=h (pre++[⟨dd,.send x y,ty,pos,af,g⟩]) (by rw[a];simp);rw[lZ4,Xo]at d;have hev:=ht.eval b ds (.inRegion l₀.toArray (pre.length::List.range' (pre.length+1) rest.length)::k);obtain⟨l',hl'⟩:=hsuf;have f:l=l'++[xv]:=by
  have:l++o=(l'++[xv])++o:=by rw[<-hl,hl'];simp
  exact List.append_cancel_right this
 subst f;have i:(l'++[xv]).reverse.map plainV=plainV xv::l'.reverse.map plainV:=by simp
 rw[i];refine .send (z:=.tuple #[]) (fun W=>?_) ?_
 ·have hst:=Np (C:=Wn P) (b:=b) (ds:=ds) (tm:=tm) (k:=k) (cs:=cs) (rest:=List.range' (pre.length+1) rest.length) ho (by rw[Ij hs ht];exact hw) (fun c' h'=>by cases h') W;refine hst.trans ?_;rw[hev];have hk':(b.kind==CallKind.early)=false:=by cases hb:b.kind<;>simp_all<;>rfl
  have hr:(execOp (Af e) ⟨dd,.send x y,ty,pos,af,g⟩).runT P W #[]=(.ok (.comm #[scase c (plainV xv) (.tuple #[])] true .send) W,#[]):=by
   show (Sem.pure (Next.comm #[{chan:=Af e x,send:=some (Af e y),zero:=.tuple #[]}] true .send)).runT P W #[]=_;rw[hx,hy];rfl
  simp only[Wn]at *;simp[stepG.apply,-Sem.runT_eq,hr,hk',GStep.after,Conc.G,Fr,seen]
 ·rw[Ju ho];exact d _ k _ (Jj hs ht ho undef) hq l' hl'
end
def Bjr(P:Program)(F:Fns):Prop:=∀g args m k outs,m.outs=[]->F.send g args m k=some outs->(∀x∈outs,xPlainV x=true)/\∀R args' b c Y,VR R args args'->MemX R m Y [] []->R k=some (b,c) ->
 SendI P b (outs.reverse.map plainV) (Gg P {target:=.fn (.func g) #[],args:=args'.toArray}) [] Y []
def Bwd(P:Program)(F:Fns):Prop:=∀g args m k x m1,F.msg g args m=some (k,x,m1)->∀R args' b c Y av fs,av++fs=args'.toArray->VR R args args'->MemX R m Y [] []->R k=some (b,c) ->
 MsgI P b (Auy R (xMsgOf m.nx x m1)) (Gg P {target:=.fn (.func g) fs,args:=av}) [] Y []
theorem Ua{C}{G:GoT C}{F}(hF:FnsOk C F)(hm:F.mn=false):Abs G F doX:=by
 intro op st x m' ds' rd h;have key:doOR F st ((opK C.P op.op).run st.e st.m) = .v x m' ds':=by
  have h':doX1 F rd st ((opK C.P op.op).run st.e st.m) = .v x m' ds':=h;cases he:(opK C.P op.op).run st.e st.m with
  | go f args=>rw[he]at h';simp only[doX1,hm]at h';cases h'
  | recv k ok=>rw[he]at h';simp only[doX1,hm]at h';cases h'
  | _=>rw[he]at h';exact h'
 exact Ate (F:=F) (Aan hF key)
theorem Bfk:∀(l r:List CV),xRev l r=l.reverse++r
 | [],r=>rfl
 | a::l,r=>by
  show xRev l (a::r)=_;rw[Bfk l (a::r)];simp
theorem Aby{P F}(hF:FnsOk (Iw P) F)(hS:Bjr P F)(hM:Bwd P F)(S:Cy):Abs (goT (Iw P) S) F doX:=by
 intro op st x m' ds' rd h;have h':doX1 F rd st ((opK (Iw P).P op.op).run st.e st.m) = .v x m' ds':=h;cases he:(opK (Iw P).P op.op).run st.e st.m with
 | go f args =>
  rw[he]at h';unfold doX1 at h';dsimp only at h';split at h'
  ·rename_i g0 hmn;split at h'
   ·rename_i k hnr hch;split at h'
    ·rename_i outs hgk hsd;cases h';obtain⟨hpl,a2⟩:=hS _ _ _ _ _ rfl hsd;have a1:st.m.M.get k=some (.own .chan):=Aba _ _ _ _ _ hgk;refine⟨⟨Ib _,⟨[k],rfl,rfl,fun j _ hj=>?_⟩,[],rfl,by simp⟩,fun b n l₀ rest o' Q R e ds Y Z Z9 hn hr hs hsl hk hw _ hc=>?_⟩
     ·have hjk:j≠k:=fun e=>hj (by rw[e];exact Vb ..);rw[Beq,Beq];show Avg ((Tr.set _ k _).get j)=_;rw[Tr.get_set,if_neg hjk,Tv]
     ·obtain⟨y,ops,tys,hop,hf,ha⟩:=Bol he;obtain⟨dd,T,ty,pos,af,gd⟩:=op;simp only at hop;subst hop;intro pre I tm kk cs ht hq;have hv:=Dy hs.env hs.mem.globR y;rw[<-hf]at hv;obtain⟨xs',ys',c,B,K⟩:=Bqm hv;cases c;cases B;have hav:=Aax hs.env hs.mem.globR ops.toList;rw[<-ha]at hav;have J:resolve (Af e) ⟨.value y,ops,tys⟩ ty=pure {target:=.fn (.func g0) #[],args:=(ops.toList.map (Af e)).toArray}:=by
       show Deferred.ofValue (Af e y) (ops.map (Af e))=_;rw[K];show (pure {target:=.fn (.func g0) #[],args:=#[]++ops.map (Af e)}:Sem Deferred)=_;have H:#[]++ops.map (Af e)=(ops.toList.map (Af e)).toArray:=by apply Array.ext';simp
       rw[H]
      refine Px 100000 (xKeysL args) st.m Y Z hs.mem fun Y' Z' N U hm'=>?_;have D:(st.m.withM (xShare 100000 (xKeysL args) st.m.M)).M.get k=some (.own .chan):=hgk;obtain⟨C,i,O,L,g,q,u,w⟩:=hm'.at D (by simp);cases u;have hsi:=a2 R (ops.toList.map (Af e)) C i Y' hav hm'.child g;have YQ:NoRecv Z':=(hs.mem.noRcv hn hnr).of fun p hp=>.inl (U p hp);have hob:ObjR R i (.rcv (xRev outs [])) (.recv (outs.reverse.map plainV)):=by
       rw[Bfk,Ui];exact .rcv (Axv R fun y hy=>hpl y (List.mem_reverse.1 hy))
      obtain⟨G,E,a⟩:=w _ _ hob;refine Bxu (o:=st.m.outs) hsl hk hw J ⟨_,_,rfl⟩ YQ q hsi ?_ I ht hq;exact hc R undef ds Y' _ .refl N (.t .nil .nil) ⟨G,E,a.perm,a.nd,a.own,a.all,a.ro,a.gar,a.lt,a.glob⟩ hs.ds
    ·cases h'
   ·cases h'
  ·rename_i g0 y0 ys0 hmn;split at h'
   ·rename_i k x1 m1 hmsg;split at h'
    ·rename_i nn ms hgk hnr;split at h'
     ·rename_i hlow;cases h';have a1:st.m.M.get k=some (.own (.crowd (nn+1) ms)):=Aba _ _ _ _ _ hgk;refine⟨⟨Ib _,⟨[k],rfl,rfl,fun j _ hj=>?_⟩,[],rfl,by simp⟩,fun b n l₀ rest o' Q R e ds Y Z Z9 hn hr hs hsl hk hw _ hc=>?_⟩
      ·have hjk:j≠k:=fun e=>hj (by rw[e];exact Vb ..);rw[Beq,Beq];show Avg ((Tr.set _ k _).get j)=_;rw[Tr.get_set,if_neg hjk,Tv]
      ·obtain⟨y,ops,tys,hop,hf,ha⟩:=Bol he;obtain⟨dd,T,ty,pos,af,gd⟩:=op;simp only at hop;subst hop;intro pre I tm kk cs ht hq;have hv:=Dy hs.env hs.mem.globR y;rw[<-hf]at hv;obtain⟨xs',ys',c,B,K⟩:=Bqm hv;cases c;have hav:=Aax hs.env hs.mem.globR ops.toList;rw[<-ha]at hav;have J:resolve (Af e) ⟨.value y,ops,tys⟩ ty=pure {target:=.fn (.func g0) ys'.toArray,args:=(ops.toList.map (Af e)).toArray}:=by
        show Deferred.ofValue (Af e y) (ops.map (Af e))=_;rw[K];show (pure {target:=.fn (.func g0) ys'.toArray,args:=#[]++ops.map (Af e)}:Sem Deferred)=_;have H:#[]++ops.map (Af e)=(ops.toList.map (Af e)).toArray:=by apply Array.ext';simp
        rw[H]
       have X:VR R (xApp args (y0::ys0)) (ops.toList.map (Af e)++ys'):=by rw[Me];exact hav.app B
       refine Px 100000 (xKeysL (xApp args (y0::ys0))) st.m Y Z hs.mem fun Y' Z' N U hm'=>?_;have D:(st.m.withM (xShare 100000 (xKeysL (xApp args (y0::ys0))) st.m.M)).M.get k=some (.own (.crowd (nn+1) ms)):=hgk;obtain⟨C,i,O,L,g,q,u,w⟩:=hm'.at D (by simp);obtain⟨ZQ,a0⟩:=hm'.oneCrowd hn D hnr g;cases u with
       | @crowd _ _ Rs hms =>
        have hsi:=hM _ _ _ _ _ _ hmsg R (ops.toList.map (Af e)++ys') C i Y' (ops.toList.map (Af e)).toArray ys'.toArray (by simp) X hm'.child g;have hob:ObjR R i (.crowd nn (xApp ms [xMsgOf st.m.nx x1 m1])) (.crowd nn (Rs++[Auy R (xMsgOf st.m.nx x1 m1)])):=by
         rw[Me];exact .crowd (MsgsR.app ⟨R,.refl,fun j hj hlt=>absurd (Bhs hlow j hj) (Nat.not_le.2 hlt),rfl⟩ hms)
        obtain⟨G,E,a⟩:=w _ _ hob;refine Cbb (o:=st.m.outs) hsl hk hw J ⟨_,_,rfl⟩ ZQ a0 q hsi ?_ I ht hq;exact hc R undef ds Y' _ .refl N (.t .nil .nil) ⟨G,E,a.perm,a.nd,a.own,a.all,a.ro,a.gar,a.lt,a.glob⟩ hs.ds
     ·cases h'
    ·cases h'
   ·cases h'
  ·cases h'
 | recv k ok =>
  rw[he]at h';unfold doX1 at h';dsimp only at h';split at h'
  ·obtain⟨t,y,d,el,z,hop,hT,hz,hy⟩:=Axr he;obtain⟨dd,T,ty,pos,af,gd⟩:=op;simp only at hop;subst hop;split at h'
   ·rename_i v vs hg;cases h';refine⟨(LogOk.put _ _ _).kept,fun b n l₀ rest o' Q R e ds Y Z Z9 hn hr hs hsl hk hw _ hc=>?_⟩;obtain⟨C,i,O,L,g,q,u,w⟩:=hs.mem.at hg (by simp);cases u with
    | @rcv _ vs' hv =>
     match vs',hv with
     | [],hv=>cases hv
     | v'::vs'',hv =>
      obtain⟨a3,a4⟩:=VR.cons_iff.1 hv;have hyv:=Dy hs.env hs.mem.globR y;rw[hy]at hyv;obtain⟨V,W,c,B⟩:=Bjb hyv;rw[g]at c;cases c;refine Bxw hsl hk hw hT hz B q ?_;exact hc R _ ds Y _ .refl .refl (.t (VR.cons_iff.2 ⟨a3,.b _ .nil⟩) .nil) (w _ _ (.rcv a4)) hs.ds
   ·rename_i hg;cases h';refine⟨(LogOk.put _ _ _).kept,fun b n l₀ rest o' Q R e ds Y Z Z9 hn hr hs hsl hk hw _ hc=>?_⟩;obtain⟨C,i,O,L,g,q,u,w⟩:=hs.mem.gone hg (by simp);cases u with
    | rcv hv =>
     cases hv;have hyv:=Dy hs.env hs.mem.globR y;rw[hy]at hyv;obtain⟨V,W,c,B⟩:=Bjb hyv;rw[g]at c;cases c;refine Bhu hsl hk hw hT hz B q ?_;exact hc R _ ds Y _ .refl .refl (.t (.bad _ (.b _ .nil)) .nil) w hs.ds
   ·cases h'
  ·cases h'
 | _=>rw[he]at h';exact Ate (F:=F) (Aan hF (by rw[he];exact h'))
end
section
open Go Go.Conc
theorem Bwy{P F c kc fin}(hF:FnsOk (Wn P) F)(hch:F.ch=kc):Abs (Ayj P c kc fin) F doS:=by
 intro op st x m' ds' rd h;have h':doS1 F rd st ((opK (Wn P).P op.op).run st.e st.m) = .v x m' ds':=h;cases he:(opK (Wn P).P op.op).run st.e st.m with
 | send k y =>
  rw[he]at h';unfold doS1 at h';dsimp only at h';split at h'
  ·rename_i hk0 hpl;have q:k=kc:=(Hr hk0).trans hch;subst q;cases h';refine⟨⟨Ib _,⟨[],rfl,rfl,fun _ _ _=>rfl⟩,[y],rfl,fun z hz=>by rw[Nh.1 hz];exact hpl⟩,fun b n l₀ rest o' Q R e ds Y Z Z9 hn hr hs hsl hk hw g hc=>?_⟩;obtain⟨a,yy,hop,ha,hy⟩:=Bom he;obtain⟨dd,w,ty,pos,af,gd⟩:=op;simp only at hop;subst hop;have hav:=Dy hs.env hs.mem.globR a;rw[ha]at hav;obtain⟨i,j,d,f⟩:=Bjb hav;obtain⟨⟨cc,hcc⟩,_⟩:=hr;rw[hcc]at d;cases d;have hyv:=Dy hs.env hs.mem.globR yy;rw[hy]at hyv;refine Bxy hsl hk hw f (Box hpl hyv) g ?_;exact hc R undef ds Y Z .refl .refl (.t .nil .nil) hs.mem.rest hs.ds
  ·cases h'
 | dclose y =>
  rw[he]at h';unfold doS1 at h';dsimp only at h';split at h'
  ·rename_i k hds;split at h'
   ·cases h';refine⟨.refl _,fun b n l₀ rest o' Q R e ds Y Z Z9 hn hr hs hsl hk hw g hc=>?_⟩;obtain⟨t,tys,hop,hg⟩:=Bbg he;obtain⟨dd,w,ty,pos,af,gd⟩:=op;simp only at hop;subst hop;obtain⟨i,j,d,f⟩:=Bjb (hs.env t _ hg);have u:b.round=none:=hr.2;have p:ds=[]:=by
     have:=hs.ds;rw[hds]at this;cases this;rfl
    subst p;refine Bxv hsl hk hw ?_;rw[u];refine Xn (C:=Wn P) rfl (show Af e (.tmp t)=_ from f) ?_;exact hc R undef _ Y Z .refl .refl (.t .nil .nil) hs.mem (.close d .nil)
   ·cases h'
  ·cases h'
 | _=>rw[he]at h';exact Ate (F:=F) (Aan hF (by rw[he];exact h'))
theorem Bit{P g F args m k outs}(h:(sendK P g).run F args m k=some outs):
  ∃fn c ex st,P.funcs[g]?=some fn/\(fn.name == "runtime.NumGoroutine")=false/\fn.body.isNone=false/\fn.body=some c/\fn.results = #[]/\args.length<=fn.ntmps/\(codeK P doS fn.ntmps c).run ⟨false,k,F.code,F.call,F.send,F.msg⟩ none ⟨xArgEnv args 0 .leaf,m,[]⟩=Gk ex st/\(∀id,ex ≠ .exit id)/\st.ds=[.close k]/\st.m.outs=outs:=by
 unfold sendK at h;split at h
 ·rename_i fn hf hb;obtain⟨fn',hf',hn,hbn⟩:=Xj hb;rw[hf]at hf';cases hf';split at h
  ·rename_i c hc hr;have h':(match Nat.ble (xLen args) fn.ntmps with
    | true=>match (codeK P doS fn.ntmps c).run ⟨false,k,F.code,F.call,F.send,F.msg⟩ none ⟨xArgEnv args 0 .leaf,m,[]⟩ with
     | .n st=>xFinS k st
     | .r st=>xFinS k st
     | _=>none
    | false=>none)=some outs:=h
   have i:fn.results = #[]:=by apply Array.ext';simpa using hr
   have key:∀ex st,(codeK P doS fn.ntmps c).run ⟨false,k,F.code,F.call,F.send,F.msg⟩ none ⟨xArgEnv args 0 .leaf,m,[]⟩=Gk ex st->(∀id,ex ≠ .exit id)->xFinS k st=some outs->args.length<=fn.ntmps ->
     ∃fn c ex st,P.funcs[g]?=some fn/\(fn.name == "runtime.NumGoroutine")=false/\fn.body.isNone=false/\fn.body=some c/\fn.results = #[]/\args.length<=fn.ntmps/\(codeK P doS fn.ntmps c).run ⟨false,k,F.code,F.call,F.send,F.msg⟩ none ⟨xArgEnv args 0 .leaf,m,[]⟩=Gk ex st/\(∀id,ex ≠ .exit id)/\st.ds=[.close k]/\st.m.outs=outs:=by
    intro ex st d e a f;unfold xFinS at a;split at a
    ·rename_i j hd;split at a
     ·rename_i hj;have hj:=Hr hj;subst hj;cases a;exact⟨fn,c,ex,st,hf,hn,hbn,hc,i,f,d,e,hd,rfl⟩
     ·cases a
    ·cases a
   split at h'
   ·rename_i hble;have b:=lZ7 hble;rw[Ia]at b;split at h'
    ·rename_i st hst;exact key .normal st hst (by simp) h' b
    ·rename_i st hst;exact key .ret st hst (by simp) h' b
    ·cases h'
   ·cases h'
  ·cases h
 ·cases h
theorem Bfc{P F}(hF:FnsOk (Wn P) F){g args m k outs}(ho:m.outs=[])(h:(sendK P g).run F args m k=some outs):
  (∀x∈outs,xPlainV x=true)/\∀R args' b c Y,VR R args args'->MemX R m Y [] []->R k=some (b,c)->SendI P b (outs.reverse.map plainV) (Gg P {target:=.fn (.func g) #[],args:=args'.toArray}) [] Y []:=by
 obtain⟨fn,cd,ex,st,hf,hnm,hbn,hc,hr,p,t,hex,hds,a⟩:=Bit h;have hF':FnsOk (Wn P) ⟨false,k,F.code,F.call,F.send,F.msg⟩:=⟨hF.call,hF.code⟩;have f:∀b,Wx (Ayj P b k outs) fn.ntmps none cd ⟨xArgEnv args 0 .leaf,m,[]⟩ ex st:=fun b =>
  Xb (G:=Ayj P b k outs) hF' (Bwy hF' rfl) (fun h=>by cases h) cd t
 refine⟨fun x hx=>?_,fun R args' b c Y hv hm hR=>?_⟩
 ·obtain⟨w,hw,hp⟩:=(f 0 ⟨g,.deferred,none⟩ (by simp)).1.outs;have hw':outs=w:=by rw[<-a,hw];show w++m.outs=w;rw[ho,Ui]
  exact hp x (hw' ▸ hx)
 ·refine Abt hf hnm hbn ?_;have i:Frame.enter P g args'.toArray .deferred=Fr ⟨g,.deferred,none⟩ (args'.toArray++Array.replicate (fn.ntmps-args'.toArray.size) undef) [] [.code cd]:=by
   simp[Frame.enter,hf,hc,Fr]
  rw[i];have q:=(f b ⟨g,.deferred,none⟩ (by simp)).2 ⟨[],by rw[a];rfl⟩ R (Pn args') [] Y [] [] NoRecv.nil ⟨⟨c,hR⟩,rfl⟩ ⟨Acy hv,hm,.nil⟩;have hgo:=q _ [] [Gf P] (Tn (by rw[<-hv.len];exact p)) (fun tm' e' ds' Y' Z' d v ⟨R',u,y,hs⟩ e=>?_)
  ·exact hgo outs (by show outs=outs++m.outs;rw[ho,Ui])
  ·intro l hl;rw[a]at hl;have n:l=[]:=List.append_left_eq_self.1 hl.symm;subst n;have hd:=hs.ds;rw[hds]at hd;cases hd with
   | @close _ b2 c2 tys ty _ ds2 hk2 hd2 =>
    cases hd2;have fin:∀d,SendI P b [] {Fr ⟨g,.deferred,none⟩ tm' [Lj b2 tys ty #[false]] d with mode:=.returning} [Gf P] Y' Z':=fun d=>by
     have j:b2=b:=by rw[u _ _ hR]at hk2;cases hk2;rfl
     subst j;exact .close (Aky (b:=⟨g,.deferred,none⟩) hf rfl hr)
    cases ex with
    | normal =>
     cases e;exact Fa (fr':={Fr ⟨g,.deferred,none⟩ tm' [Lj b2 tys ty #[false]] [] with mode:=.returning}) (fun W=>by simp[Conc.G,stepG,stepG.exec,Fr]) (fin _)
    | exit id=>exact absurd rfl (hex id)
    | ret =>
     obtain⟨pre,rfl⟩:=e;exact Fa (fr':={Fr ⟨g,.deferred,none⟩ tm' [Lj b2 tys ty #[false]] (.code .ret::(pre++[])) with mode:=.returning}) (fun W=>by simp[Conc.G,stepG,stepG.exec,Fr]) (fin _)
theorem Yh(P:Program):∀n,FnsOk (Wn P) (xWF P n)/\(xWF P n).mn=false
 | 0=>⟨⟨fun _ _ _ _ _ h=>(by cases h),fun _ _ _ _ _ _ h=>(Fs h).elim⟩,rfl⟩
 | n+1=>by
  obtain⟨ih,im⟩:=Yh P n;refine⟨⟨fun g a m x m' h=>?_,fun k rd c st ex st' h b S hb=>?_⟩,rfl⟩
  ·have h':(funK P g).run (xWF P n) a m = .v x m':=h;exact Bad (C:=Wn P) ih (fun S=>Ua ih im) h'
  ·have h':(codeK P doX k c).run (xWF P n) rd st=Gk ex st':=h;exact Xb (C:=Wn P) (G:=goT (Wn P) S) ih (Ua ih im) (fun _=>⟨⟨S,rfl⟩,fun S=>Ua ih im⟩) c h' b hb
theorem Aur(P:Program):∀n,FnsOk (Iw P) (xFns P n)/\Bjr P (xFns P n)/\Bwd P (xFns P n)
 | 0=>⟨⟨fun _ _ _ _ _ h=>(by cases h),fun _ _ _ _ _ _ h=>(Fs h).elim⟩,fun _ _ _ _ _ _ h=>(by cases h),fun _ _ _ _ _ _ h=>(by cases h)⟩
 | n+1=>by
  obtain⟨ih,is,im⟩:=Aur P n;refine⟨⟨fun g a m x m' h=>?_,fun k rd c st ex st' h b S hb=>?_⟩,fun g a m k e ho h=>?_,fun g a m k x d h=>?_⟩
  ·have h':(funK P g).run (xFns P n) a m = .v x m':=h;exact Bad (C:=Iw P) ih (fun S=>Aby ih is im S) h'
  ·have h':(codeK P doX k c).run (xFns P n) rd st=Gk ex st':=h;exact Xb (C:=Iw P) (G:=goT (Iw P) S) ih (Aby ih is im S) (fun _=>⟨⟨S,rfl⟩,fun S=>Aby ih is im S⟩) c h' b hb
  ·have h':(sendK P g).run (xWF P n) a m k=some e:=h;exact Bfc (Yh P n).1 ho h'
  ·have h':(msgK P g).run (xWF P n) a m=some (k,x,d):=h;exact Bns (Yh P n).1 (fun S=>Ua (Yh P n).1 (Yh P n).2) h'
def xIsRes:Option Cell->Bool
 | some (.own (.rcv _))=>true
 | some (.own .chan)=>true
 | some (.own (.crowd _ (_::_)))=>true
 | _=>false
def xNoRes(t:Tr Cell):Bool:=Tr.rec (motive:=fun _=>Bool) true (fun v _ _ a b=>match xIsRes v with|true=>false|false=>match a with|true=>b|false=>false) t
theorem Tq:∀(t:Tr Cell) (k:Nat),xNoRes t=true->xIsRes (t.get k)=false
 | .leaf,k,_=>rfl
 | .node v l r,k,h=>by
  have h':(match xIsRes v with|true=>false|false=>match xNoRes l with|true=>xNoRes r|false=>false)=true:=h;rw[Tr.get_node];split at h'
  ·cases h'
  ·rename_i hv;split at h'
   ·rename_i hl;split
    ·exact hv
    ·split
     ·exact Tq r _ h'
     ·exact Tq l _ hl
   ·cases h'
theorem Ghost.drops{Y:Ro}{Z:Own}:∀{X:Own},(∀p∈X,(∃o,p.2=Res.obj o)∨∃n,p.2=Res.crowd n [])->Ghost Y (X++Z) Y Z
 | [],_=>.refl
 | (b,r)::X,h=>by
  have ih:Ghost Y (X++Z) Y Z:=Ghost.drops fun p hp=>h p (lZ0 _ hp);rcases h (b,r) mC with⟨o,ho⟩|⟨n,ho⟩
  ·simp only at ho;subst ho;exact Ghost.trans .drop ih
  ·simp only at ho;subst ho;exact Ghost.trans .dropC ih
theorem MemX.drop{R m Y Z Z9}(h:MemX R m Y Z Z9)(hr:xNoRes m.M=true):Ghost Y Z Y Z9:=by
 obtain⟨L,G,h⟩:=h;refine(Cfr h.perm).trans ?_;rw[<-lZ9];refine Ghost.drops fun p hp=>?_;rcases Gv.1 hp with hp|hp
 ·obtain⟨q,hq,rfl⟩:=Lp.1 hp;obtain⟨k,b,r⟩:=q;obtain⟨c,o,e,a,d⟩:=h.own (k,b,r) hq;have hn:=Tq m.M k hr;simp only at a d;rw[a]at hn;cases d with
  | cells=>exact .inl ⟨_,rfl⟩
  | grow=>exact .inl ⟨_,rfl⟩
  | map=>exact .inl ⟨_,rfl⟩
  | loop=>exact .inl ⟨_,rfl⟩
  | defd=>exact .inl ⟨_,rfl⟩
  | iter=>exact .inl ⟨_,rfl⟩
  | chan=>cases hn
  | rcv=>cases hn
  | @crowd n ms Rs hms =>
   cases ms with
   | nil =>
    cases Rs with
    | nil=>exact .inr ⟨_,rfl⟩
    | cons=>exact hms.elim
   | cons=>cases hn
 ·exact .inl (h.gar p hp)
theorem Bbc{Y Z t}(hro:∀k o,t.get k=some (.ro o)->k<16/\∃x,Y k=some x/\∀R:XR,(∀k,k<16->R k=some (k,0))->ObjO R 0 o x)(hown:∀k o,t.get k≠some (.own o)):MemX (fun k=>if k<16 then some (k,0) else none) ⟨t,16,[],0,[]⟩ Y Z Z:=by
 have hR:∀k,k<16->(fun k=>if k<16 then some (k,0) else none:XR) k=some (k,0):=fun k hk=>if_pos hk;refine⟨[],[],.refl _,by simp,fun p hp=>(by cases hp),fun k o hk _=>absurd hk (hown k o),fun k o hk=>?_,fun p hp=>(by cases hp),fun k q hk=>?_,hR⟩
 ·obtain⟨hlt,x,a,b⟩:=hro k o hk;exact⟨k,0,x,hR k hlt,a,b _ hR⟩
 ·have hk':(if k<16 then some (k,0) else none)=some q:=hk;split at hk'
  ·assumption
  ·cases hk'
def xRenN(lo nx j:Nat):Nat:=match Nat.ble lo j with|true=>Nat.add (Nat.sub j lo) nx|false=>j
def xRenV(φ:Nat->Nat):CV->CV:=CV.rec (motive_1:=fun _=>CV) (motive_2:=fun _=>List CV) .bad (fun x=>.b x) (fun k n=>.i k n) (fun x=>.s x) .pn (fun k o=>.p (φ k) o) .sn (fun k o n kn c=>.sl (φ k) o n kn c) .mn (fun k=>.m (φ k)) .cn (fun _=>.bad) .fn (fun g _ _ a b=>.f g a b) (fun _=>.bad) .n (fun t _ a=>.a t a) (fun _ a=>.g a) (fun _ a=>.t a) [] (fun _ _ a b=>a::b)
def xRenL(φ:Nat->Nat)(l:List CV):List CV:=CV.rec_1 (motive_1:=fun _=>CV) (motive_2:=fun _=>List CV) .bad (fun x=>.b x) (fun k n=>.i k n) (fun x=>.s x) .pn (fun k o=>.p (φ k) o) .sn (fun k o n kn c=>.sl (φ k) o n kn c) .mn (fun k=>.m (φ k)) .cn (fun _=>.bad) .fn (fun g _ _ a b=>.f g a b) (fun _=>.bad) .n (fun t _ a=>.a t a) (fun _ a=>.g a) (fun _ a=>.t a) [] (fun _ _ a b=>a::b) l
theorem Aay(φ:Nat->Nat)(a:CV)(l:List CV):xRenL φ (a::l)=xRenV φ a::xRenL φ l:=rfl
theorem Byz(φ:Nat->Nat)(g:Nat)(xs ys:List CV):xRenV φ (.f g xs ys) = .f g (xRenL φ xs) (xRenL φ ys):=rfl
theorem Byy(φ:Nat->Nat)(t:Nat)(v:CV):xRenV φ (.a t v) = .a t (xRenV φ v):=rfl
theorem Bza(φ:Nat->Nat)(l:List CV):xRenV φ (.g l) = .g (xRenL φ l):=rfl
theorem Bzb(φ:Nat->Nat)(l:List CV):xRenV φ (.t l) = .t (xRenL φ l):=rfl
def keysR(l:List CV):List Nat:=CV.rec_1 (motive_1:=fun _=>List Nat) (motive_2:=fun _=>List Nat) [] (fun _=>[]) (fun _ _=>[]) (fun _=>[]) [] (fun k _=>[k]) [] (fun k _ _ _ _=>[k]) [] (fun k=>[k]) [] (fun _=>[]) [] (fun _ _ _ a b=>xApp a b) (fun _=>[]) [] (fun _ _ a=>a) (fun _ a=>a) (fun _ a=>a) [] (fun _ _ a b=>xApp a b) l
theorem Zb:∀(l:List CV),keysR l=xKeysL l
 | []=>rfl
 | a::l=>by
  show xApp (xKeysV a) (keysR l)=xApp (xKeysV a) (xKeysL l);rw[Zb l]
theorem Btd(g:Nat)(xs ys:List CV):xKeysV (.f g xs ys)=xKeysL xs++xKeysL ys:=by show xApp (keysR xs) (keysR ys)=_;rw[Zb,Zb,Me]
theorem Btc(t:Nat)(v:CV):xKeysV (.a t v)=xKeysV v:=rfl
theorem Bte(l:List CV):xKeysV (.g l)=xKeysL l:=Zb l
theorem Btf(l:List CV):xKeysV (.t l)=xKeysL l:=Zb l
theorem Dz(a:CV)(l:List CV):xKeysL (a::l)=xKeysV a++xKeysL l:=Me ..
def RenOk(φ:Nat->Nat)(R R':XR)(ks:List Nat):Prop:=∀j∈ks,∀z,R j=some z->R' (φ j)=some z
theorem RenOk.l{φ:Nat->Nat}{R R':XR}{a b:List Nat}(h:RenOk φ R R' (a++b)):RenOk φ R R' a:=fun j hj=>h j (Iz _ hj)
theorem RenOk.r{φ:Nat->Nat}{R R':XR}{a b:List Nat}(h:RenOk φ R R' (a++b)):RenOk φ R R' b:=fun j hj=>h j (lZ5 _ hj)
theorem VR.ren{φ:Nat->Nat}{R R':XR}{l:List CV}{l':List Value}(h:VR R l l'):RenOk φ R R' (xKeysL l)->VR R' (xRenL φ l) l':=by
 induction h with
 | nil=>exact fun _=>.nil
 | bad v _ ih=>intro k;rw[Dz]at k;exact .bad v (ih k.r)
 | b x _ ih=>intro k;rw[Dz]at k;exact .b x (ih k.r)
 | i a n _ ih=>intro k;rw[Dz]at k;exact .i a n (ih k.r)
 | s x _ ih=>intro k;rw[Dz]at k;exact .s x (ih k.r)
 | pn _ ih=>intro k;rw[Dz]at k;exact .pn (ih k.r)
 | p h1 _ ih=>intro k;rw[Dz]at k;exact .p (k.l _ (Nh.2 rfl) _ h1) (ih k.r)
 | sn _ ih=>intro k;rw[Dz]at k;exact .sn (ih k.r)
 | slK h1 _ ih=>intro k;rw[Dz]at k;exact .slK (k.l _ (Nh.2 rfl) _ h1) (ih k.r)
 | slU h1 _ ih=>intro k;rw[Dz]at k;exact .slU (k.l _ (Nh.2 rfl) _ h1) (ih k.r)
 | mn _ ih=>intro k;rw[Dz]at k;exact .mn (ih k.r)
 | m h1 _ ih=>intro k;rw[Dz]at k;exact .m (k.l _ (Nh.2 rfl) _ h1) (ih k.r)
 | cn _ ih=>intro k;rw[Dz]at k;exact .cn (ih k.r)
 | c h1 _ ih=>intro k;rw[Dz]at k;exact .bad _ (ih k.r)
 | fn _ ih=>intro k;rw[Dz]at k;exact .fn (ih k.r)
 | f g _ _ _ ih1 ih2 ih =>
  intro k;rw[Dz,Btd]at k;rw[Aay,Byz];exact .f g (ih1 k.l.l) (ih2 k.l.r) (ih k.r)
 | y h1 _ ih=>intro k;rw[Dz]at k;exact .bad _ (ih k.r)
 | n _ ih=>intro k;rw[Dz]at k;exact .n (ih k.r)
 | a t _ _ ih1 ih =>
  intro k;rw[Dz,Btc]at k;rw[Aay,Byy];refine .a t (ih1 ?_) (ih k.r);rw[Dz,show xKeysL []=[] from rfl,Ui];exact k.l
 | g _ _ ih1 ih =>
  intro k;rw[Dz,Bte]at k;rw[Aay,Bza];exact .g (ih1 k.l) (ih k.r)
 | t _ _ ih1 ih =>
  intro k;rw[Dz,Btf]at k;rw[Aay,Bzb];exact .t (ih1 k.l) (ih k.r)
def rowO:Option Nat->List CV->CO
 | none,l=>.cells l
 | some z,l=>.grow z l
def xSetRows(φ:Nat->Nat)(l:List (Nat×Option Nat×List CV)):Tr Cell->Tr Cell:=List.rec (motive:=fun _=>Tr Cell->Tr Cell) (fun M=>M) (fun a _ ih M=>ih (M.set (φ a.1) (.ro (rowO a.2.1 (xRenL φ a.2.2))))) l
def xRowKeys(l:List (Nat×Option Nat×List CV)):List Nat:=List.rec (motive:=fun _=>List Nat) [] (fun a _ ih=>a.1::ih) l
def xRecvM(m:Mem)(k n:Nat)(q:Tx)(rest:List Tx):Option (CV×Mem):=match xAllGe q.2.2.1 (xRowKeys q.2.1) with
 | true=>some (xRenV (xRenN q.2.2.1 m.nx) q.1,⟨xSetRows (xRenN q.2.2.1 m.nx) q.2.1 (m.put k (.crowd n rest)).M,Nat.add m.nx (Nat.sub q.2.2.2 q.2.2.1),k::m.log,Nat.succ m.ln,m.outs⟩)
 | false=>none
theorem Sm(φ:Nat->Nat):∀(l:List (Nat×Option Nat×List CV)) (M:Tr Cell) (j:Nat),(xSetRows φ l M).get j=M.get j∨∃x∈l,j=φ x.1/\(xSetRows φ l M).get j=some (.ro (rowO x.2.1 (xRenL φ x.2.2)))
 | [],M,j=>.inl rfl
 | a::l,M,j=>by
  have e:xSetRows φ (a::l) M=xSetRows φ l (M.set (φ a.1) (.ro (rowO a.2.1 (xRenL φ a.2.2)))):=rfl;rw[e];rcases Sm φ l (M.set (φ a.1) (.ro (rowO a.2.1 (xRenL φ a.2.2)))) j with h|⟨x,hx,h1,h2⟩
  ·rw[Tr.get_set]at h;by_cases hj:j=φ a.1
   ·rw[if_pos hj]at h;exact .inr ⟨a,Vb ..,hj,h⟩
   ·rw[if_neg hj]at h;exact .inl h
  ·exact .inr ⟨x,lZ0 _ hx,h1,h2⟩
theorem Zn{x:Nat×Option Nat×List CV}:∀{l:List (Nat×Option Nat×List CV)},x∈l->x.1∈xRowKeys l
 | a::l,h=>by
  show x.1∈a.1::xRowKeys l;rcases lZ8.1 h with rfl|h
  ·exact Vb ..
  ·exact lZ0 _ (Zn h)
theorem Bpp{R:XR}{m:Mem}{Y:Ro}{Z Z9:Own}{k n:Nat}{ms:List Tx}(hm:MemX R m Y Z Z9)(hk:m.M.get k=some (.own (.crowd n ms))):∃b c i Rs,R k=some (b,c)/\Z[i]?=some (b,Res.crowd n Rs)/\ms.length=Rs.length /\
  ∀(j:Nat) (r:Value->Ro->Prop) (v:Value) (Y1 Y':Ro),Rs[j]?=some r->r v Y1->Ro.le Y Y'->Ro.le Y1 Y'->∃q,ms[j]?=some q/\∀x m',xRecvM m k n q (ms.eraseIdx j)=some (x,m') ->
   ∃R',XR.le R R'/\V1 R' x v/\MemX R' m' Y' (Z.set i (b,Res.crowd n (Rs.eraseIdx j))) Z9:=by
 obtain⟨L,G,h⟩:=hm;obtain⟨b,c,r0,i,E,F,V,W⟩:=h.at hk (by simp);cases V with
 | @crowd _ _ Rs hms =>
  refine⟨b,c,i,Rs,E,F,hms.len,fun j r v Y1 Y' hj hv hle ZQ=>?_⟩;obtain⟨q,O,⟨R0,P,T,rfl⟩,U⟩:=hms.at hj;refine⟨q,O,fun x m' hx=>?_⟩;obtain⟨d,r1,r2,r3,r4⟩:=hv;unfold xRecvM at hx;split at hx
  ·rename_i hge;cases hx
   let lo:=q.2.2.1
   let R':XR:=fun j=>if j<m.nx then R j else d (j-m.nx+lo)
   have hlt:XR.le R R':=fun j z hz=>by
    show (if j<m.nx then R j else _)=_;rw[if_pos (h.lt _ _ hz)];exact hz
   have D:∀ks,(∀j∈ks,j∈xKeysM q)->RenOk (xRenN lo m.nx) d R' ks:=fun ks hks j hj z hz=>by
    unfold xRenN;cases hb:Nat.ble lo j with
    | true =>
     have hb:=lZ7 hb;show (if (j-lo)+m.nx<m.nx then _ else d ((j-lo)+m.nx-m.nx+lo))=_;rw[if_neg (by omega),show (j-lo)+m.nx-m.nx+lo=j by omega];exact hz
    | false =>
     have hb:j<lo:=by
      rcases Tk j lo with a|a
      ·exact a
      ·rw[Bmi a]at hb;cases hb
     have a:=T j (hks j hj) hb;obtain⟨z0,J⟩:=Bat.1 a;have:z0=z:=by have:=r1 _ _ J;rw[hz]at this;exact(Option.some.inj this).symm
     subst this;exact hlt _ _ (P _ _ J)
   have a0:=h.put (o':=.crowd n (ms.eraseIdx j)) (r':=.crowd n (Rs.eraseIdx j)) W E F (.crowd U);refine⟨R',hlt,?_,?_⟩
   ·have:VR d [q.1] [v]:=r2;exact this.ren (D _ fun j hj=>by
     rw[Dz,show xKeysL []=[] from rfl,Ui]at hj;exact Iz _ hj)
   ·obtain⟨L',G',hp⟩:=a0;have H:∀x∈q.2.1,m.nx<=xRenN lo m.nx x.1:=fun x hx=>by
     have a:lo<=x.1:=Ys hge _ (Zn hx);unfold xRenN;rw[Bmi a];exact Nat.le_add_left _ _
    have old:∀j,j<m.nx->(xSetRows (xRenN lo m.nx) q.2.1 (m.put k (.crowd n (ms.eraseIdx j))).M).get j=(m.put k (.crowd n (ms.eraseIdx j))).M.get j:=fun j hj=>by
     rcases Sm (xRenN lo m.nx) q.2.1 (m.put k (.crowd n (ms.eraseIdx j))).M j with a|⟨x,hx,e,_⟩
     ·exact a
     ·exact absurd (H x hx) (by omega)
    have a7:∀(M:Tr Cell) j',j'<m.nx->(xSetRows (xRenN lo m.nx) q.2.1 M).get j'=M.get j':=fun M j' hj'=>by
     rcases Sm (xRenN lo m.nx) q.2.1 M j' with a|⟨x,hx,e,_⟩
     ·exact a
     ·exact absurd (H x hx) (by omega)
    refine⟨L',G',hp.perm,hp.nd,fun p hpp=>?_,fun j' o hj' hd=>?_,fun j' o hj'=>?_,hp.gar,fun j' z hz=>?_,fun j' hj'=>hlt _ _ (h.glob j' hj')⟩
    ·obtain⟨u,o1,f,w,g⟩:=hp.own p hpp;refine⟨u,o1,hlt _ _ f,?_,g.mono hlt⟩;exact(a7 _ _ (h.lt _ _ f)).trans w
    ·rcases Sm (xRenN lo m.nx) q.2.1 (m.put k (.crowd n (ms.eraseIdx j))).M j' with a|⟨x,hx,e,a⟩
     ·exact hp.all j' o (a.symm.trans hj') hd
     ·have:some (Cell.own o)=some (.ro (rowO x.2.1 (xRenL (xRenN lo m.nx) x.2.2))):=hj'.symm.trans a;cases this
    ·rcases Sm (xRenN lo m.nx) q.2.1 (m.put k (.crowd n (ms.eraseIdx j))).M j' with a|⟨x,hx,e,a⟩
     ·obtain⟨B,u,y,f,w,g⟩:=hp.ro j' o (a.symm.trans hj');exact⟨B,u,y,hlt _ _ f,hle _ _ w,g.mono hlt⟩
     ·have X:some (Cell.ro o)=some (.ro (rowO x.2.1 (xRenL (xRenN lo m.nx) x.2.2))):=hj'.symm.trans a;cases X;obtain⟨B,u,y,f,w,g⟩:=r3 x hx;have hr:=D [x.1];have YQ:R' (xRenN lo m.nx x.1)=some (B,u):=by
       have a:lo<=x.1:=Ys hge _ (Zn hx);unfold xRenN;rw[Bmi a];show (if (x.1-lo)+m.nx<m.nx then _ else d ((x.1-lo)+m.nx-m.nx+lo))=_;rw[if_neg (by omega),show (x.1-lo)+m.nx-m.nx+lo=x.1 by omega];exact f
      refine⟨B,u,y,by rw[e];exact YQ,ZQ _ _ w,?_⟩;have I:∀{l l':_},VR d l l'->l=x.2.2->VR R' (xRenL (xRenN lo m.nx) l) l':=fun {l l'} hl el=>hl.ren (D _ fun j hj=>by
       subst el;exact lZ5 _ (Bmw.2 ⟨x,hx,hj⟩))
      obtain⟨kx,zx,lx⟩:=x;cases zx with
      | none =>
       obtain⟨l',t,fz,rfl,C⟩:=g;exact⟨(0,0),.cells (I C rfl) (Aoq _)⟩
      | some z =>
       obtain⟨l',rest,t,fz,rfl,C,K,N⟩:=g;exact⟨(0,0),.grow (I C rfl) K N (Aoq _)⟩
    ·by_cases hj':j'<m.nx
     ·exact Pa hj' (Bmy _ _)
     ·have hz':d (j'-m.nx+lo)=some z:=by
       have:(if j'<m.nx then R j' else d (j'-m.nx+lo))=some z:=hz
       rwa[if_neg hj']at this
      have:=r4 _ _ hz';show j'<m.nx+(q.2.2.2-lo);omega
  ·cases hx
end
section
open Go
theorem Adf{en:List MapEntry}{ck:Nat}(hB:BornOk en ck){e:MapEntry}(he:e∈en):en[e.born]?=some e/\e.born<ck:=by obtain⟨i,hi⟩:=Se he;have:=hB.at_ i e hi;rw[this];exact⟨hi,by rw[hB.ck];exact(lZ1.1 hi).1⟩
theorem Bje{P:Program}{Y:Ro}{Z:Own}{r b i ck:Nat}{en:List MapEntry}{sn:List Nat}{ty:TypeId}{Q:Value->Own->Prop}(hB:BornOk en ck)(hi:Z[i]?=some (r,.obj (.mapIter (some b) ck sn.toArray ck)))(hm:Has Y Z b (.map en.toArray ck))
  (h0:(∀j,j<en.length->j∈sn)->Q (.tuple #[.bool false]) Z)
  (h1:∀j e,en[j]?=some e->j∉sn->Q (.tuple #[.bool true,e.key,e.val]) (Z.set i (r,.obj (.mapIter (some b) ck (sn++[j]).toArray ck)))) :
  wpS P Y (Instr.next (.pointer (some ⟨r,0,none⟩)) false ty) Z Q:=by
 show wpS P Y ((getObj r).bind _) Z _;rw[Ad];refine⟨_,.inr (lZ6 hi),rfl,?_⟩;show wpS P Y ((getObj b).bind _) Z _;rw[Ad];refine⟨_,hm,rfl,?_⟩;have hg:(!sn.toArray.isEmpty && !en.toArray.isEmpty&&en.toArray.all (·.born>=ck))=false:=by
  cases en with
  | nil=>simp
  | cons e l' =>
   have d:=(Adf hB (Vb (a:=e) (l:=l'))).2;have:(e::l').toArray.all (·.born>=ck)=false:=by
    rw[<-Array.all_toList,Aqo,Ji (by omega)];rfl
   rw[this,Bdt]
 show wpS P Y (if (!sn.toArray.isEmpty && !en.toArray.isEmpty&&en.toArray.all (·.born>=ck))=true then _ else _) Z _;rw[if_neg (by rw[hg];exact Bool.false_ne_true)];have w:∀(q:MapEntry->Bool),(en.toArray.filter q).toList=en.filter q:=fun q=>by
  rw[Bmk]
 generalize hleft:en.toArray.filter (fun e=>!sn.toArray.contains e.born)=left;have f:left.toList=en.filter (fun e=>!sn.toArray.contains e.born):=by rw[<-hleft];exact w _
 have y:left.filter (·.born<ck)=left:=by
  apply Array.ext';rw[Bmk,List.filter_eq_self];intro e he;rw[f]at he;exact Qx (Adf hB (Rg.1 he).1).2
 have x:left.filter (·.born>=ck) = #[]:=by
  apply Array.ext';rw[Bmk];show _=[];rw[List.filter_eq_nil_iff];intro e he;rw[f]at he;have c:=(Adf hB (Rg.1 he).1).2;have g:¬e.born>=ck:=by omega
  simpa using g
 have k:∀j,sn.toArray.contains j=true↔j∈sn:=fun j=>by rw[List.contains_toArray,Bdb]
 have z:∀e,e∈en.filter (fun e=>!sn.toArray.contains e.born)->e∈en/\e.born∉sn:=fun e he=>by
  obtain⟨d,c⟩:=Rg.1 he;refine⟨d,fun g=>?_⟩;rw[(k _).2 g]at c;cases c
 dsimp only;simp only[y,x,Aea];have hgo:∀e,e∈en/\e.born∉sn->wpS P Y (Sem.bind (setObj r (.mapIter (some b) ck (sn.toArray.push e.born) ck)) fun _=>Sem.pure (.tuple #[.bool true,e.key,e.val])) Z Q:=by
  rintro e ⟨d,c⟩;rw[Ad];refine⟨rfl,i,_,hi,rfl,?_⟩;have:=h1 e.born e (Adf hB d).1 c;have n:(sn++[e.born]).toArray=sn.toArray.push e.born:=by simp
  rw[n]at this;exact this
 cases hl:left.toList with
 | nil =>
  have:left = #[]:=by apply Array.ext';exact hl
  subst this;have v:∀j,j<en.length->j∈sn:=fun j hj=>by
   rcases Classical.em (j∈sn) with h|h
   ·exact h
   ·exfalso;have hej:=Ps hj;have hb:=hB.at_ j _ hej;have:en[j]∈en.filter (fun e=>!sn.toArray.contains e.born):=Rg.2 ⟨Aql hj,by
     rw[hb];cases hc:sn.toArray.contains j with
     | false=>rfl
     | true=>exact absurd ((k _).1 hc) h⟩
    rw[<-f]at this;cases this
  have u:((if (#[]:Array MapEntry).isEmpty=true then #[none] else #[])++Array.map some (#[]:Array MapEntry)) = #[none]:=by simp
  rw[u];show wpS P Y (Sem.bind (choose (.mapNext 1)) _) Z _;rw[Ad];exact h0 v
 | cons e0 l' =>
  have hne:left.isEmpty=false:=by
   rw[<-Array.isEmpty_toList,hl];rfl
  have hsz:left.size=l'.length+1:=by rw[<-Array.length_toList,hl];rfl
  have hat:∀j,j<left.size->∃e,left[j]?=some e/\(e∈en/\e.born∉sn):=fun j hj=>by
   refine⟨left[j],Blx hj,?_⟩;have m:left[j]∈left.toList:=Array.getElem_mem_toList hj;rw[f]at m;exact z _ m
  rw[hne];simp only[Aiw,if_false,Ack,Array.size_map];show wpS P Y (Sem.bind (choose (.mapNext left.size)) _) Z _;rw[Ad];show (if (Question.mapNext left.size).forced=true then _ else _);split
  ·obtain⟨e,d,c⟩:=hat 0 (by omega);simp only[wpS,Bdh,d,Aoy];exact hgo e c
  ·intro t;obtain⟨e,d,c⟩:=hat (t%left.size) (Aqu _ (by omega));have p:(Question.mapNext left.size).cut t=t%left.size:=rfl;simp only[wpS,p,Bdh,d,Aoy];exact hgo e c
end
section
open Go Go.Conc
structure KNT where
 run:Fns->St->(St->Bool)->Bool
structure KNC where
 run:Fns->St->(R->Bool)->Bool
def xPicks(f:Tx->List Tx->Bool)(l:List Tx):List Tx->Bool:=List.rec (motive:=fun _=>List Tx->Bool) (fun _=>true) (fun a l ih pre=>match f a (xApp pre l) with|true=>ih (xApp pre [a])|false=>false) l
def xNextOp:Op->Option Operand
 | .next x false=>some x
 | _=>none
def xHasN(k:Nat)(l:List Nat):Bool:=List.rec (motive:=fun _=>Bool) false (fun a _ ih=>match Nat.beq a k with|true=>true|false=>ih) l
def xNexts(f:Nat->CV×CV->Bool)(seen:List Nat)(l:List (CV×CV)):Nat->Bool:=List.rec (motive:=fun _=>Nat->Bool) (fun _=>true)
 (fun a _ ih i=>match xHasN i seen with
  | true=>ih (Nat.succ i)
  | false=>match f i a with|true=>ih (Nat.succ i)|false=>false) l
def xAllSeen(seen:List Nat)(n:Nat):Bool:=Nat.rec (motive:=fun _=>Bool) true (fun i ih=>match xHasN i seen with|true=>ih|false=>false) n
def ndN(st:St)(r:Nat)(k:CV->Mem->Bool):Bool:=match st.m.M.get r with
 | some (.own (.iter mk n seen))=>match st.m.obj mk with
  | some (.map es)=>match Nat.beq (xLen es) n with
   | true=>match xAllSeen seen n with
    | true=>k (.t [.b false]) st.m
    | false=>xNexts (fun i a=>k (.t [.b true,a.1,a.2]) (st.m.put r (.iter mk n (xApp seen [i])))) seen es 0
   | false=>false
  | _=>false
 | _=>false
def ndT(P:Program)(l:List Oper):List Oper->KNT
 | []=>⟨fun _ st k=>k st⟩
 | o::r=>match opK P o.op,dstK o.dst,guardK l o,gokK l o,ndT P l r with
  | ⟨f⟩,⟨d⟩,⟨g⟩,⟨gk⟩,⟨t⟩=>⟨fun F st k=>match gk st.e with
   | false=>false
   | true=>match g st.e with
    | false=>t F ⟨d st.e .undef,st.m,st.ds⟩ k
    | true=>match xNextOp o.op with
     | some x=>match (rdK x).run st.e with
      | .p r 0=>ndN st r (fun y m=>t F ⟨d st.e y,m,st.ds⟩ k)
      | _=>false
     | none=>match f st.e st.m with
      | .recv c false=>match st.m.M.get c with
       | some (.own (.crowd n (q::ms)))=>xPicks (fun q rest=>match xRecvM st.m c n q rest with
        | some (x,m)=>t F ⟨d st.e x,m,st.ds⟩ k
        | none=>false) (q::ms) []
       | _=>false
      | y=>match doX1 F none st y with
       | .v x m ds=>t F ⟨d st.e x,m,ds⟩ k
       | .bad=>false⟩
def xRecvOp(o:Oper):Bool:=match o.op with
 | .recv _ _ false=>true
 | .next _ false=>true
 | _=>false
def xHasR(ids:List Nat):Code->Bool
 | .region i ops _=>match xHasN i ids with|true=>true|false=>ops.toList.any xRecvOp
 | .seq a b=>xHasR ids a||xHasR ids b
 | .cond _ a b=>xHasR ids a||xHasR ids b
 | .block _ a=>xHasR ids a
 | .loop a=>xHasR ids a
 | .scope a=>xHasR ids a
 | _=>false
def detN(P:Program)(n:Nat)(c:Code):KNC:=match codeK P doX n c with
 | ⟨f⟩=>⟨fun F st k=>match f F none st with | .bad=>false|y=>k y⟩
def xLoopN(f:Fns->St->(R->Bool)->Bool)(F:Fns)(k:R->Bool)(n:Nat):St->Bool:=Nat.rec (motive:=fun _=>St->Bool) (fun _=>false)
 (fun _ ih st=>f F st (fun y=>match y with | .n st=>ih st|y=>k y)) n
def xStepA(P:Program)(F:Fns)(l:List Oper)(st:St)(o:Oper):Option St:=match (gokK l o).run st.e with
 | true=>match (match (guardK l o).run st.e with|false=>OV.v .undef st.m st.ds|true=>doOR F st ((opK P o.op).run st.e st.m)) with
  | .v x m ds=>some ⟨(dstK o.dst).run st.e x,m,ds⟩
  | .bad=>none
 | false=>none
def xPureA(P:Program)(l:List Oper)(li:List Bool)(st:St)(i:Nat):Option St:=match xTake l li i,l[i]? with
 | true,some o=>match (gokK l o).run st.e with
  | true=>match (guardK l o).run st.e with
   | false=>some ⟨(dstK o.dst).run st.e .undef,st.m,st.ds⟩
   | true=>match (opK P o.op).run st.e st.m with
    | .v x m=>match Nat.beq m.nx st.m.nx with|true=>some ⟨(dstK o.dst).run st.e x,st.m,st.ds⟩|false=>none
    | _=>none
  | false=>none
 | _,_=>none
def xFirstP(f:Nat->Option St)(l:List Nat):Option (Nat×St):=List.rec (motive:=fun _=>Option (Nat×St)) none (fun a _ ih=>match f a with|some s=>some (a,s)|none=>ih) l
def xAllN(f:Nat->Bool)(l:List Nat):Bool:=List.rec (motive:=fun _=>Bool) true (fun a _ ih=>match f a with|true=>ih|false=>false) l
def ndA(P:Program)(F:Fns)(l:List Oper)(k:St->Bool)(n:Nat):List Bool->St->Bool:=Nat.rec (motive:=fun _=>List Bool->St->Bool) (fun li st=>match Dl l li with|[]=>k st|_::_=>false)
 (fun _ ih li st=>match Dl l li with
  | []=>k st
  | a::r=>match xFirstP (xPureA P l li st) (a::r) with
   | some (i,st')=>ih (li.set i true) st'
   | none=>xAllN (fun i=>match l[i]? with|some o=>(match xStepA P F l st o with|some st'=>ih (li.set i true) st'|none=>false)|none=>false) (a::r)) n
def ndReg(P:Program)(ids:List Nat)(n i:Nat)(ops:Array Oper)(draw:Bool):KNC:=match ops.toList.any xRecvOp,draw,xSlotsN n ops.toList with
 | true,false,true=>match ndT P ops.toList ops.toList with|⟨t⟩=>⟨fun F st k=>t F st (fun st=>k (.n st))⟩
 | true,_,_=>⟨fun _ _ _=>false⟩
 | false,true,true=>match xHasN i ids,Apw ops.toList,P.follows .mixedOrders with
  | true,true,true=>⟨fun F st k=>ndA P F ops.toList (fun st=>k (.n st)) ops.toList.length (List.replicate ops.toList.length false) st⟩
  | _,_,_=>detN P n (.region i ops true)
 | false,_,_=>detN P n (.region i ops draw)
def ndK(P:Program)(ids:List Nat)(n:Nat):Code->KNC
 | .seq a b=>match xHasR ids (.seq a b) with
  | false=>detN P n (.seq a b)
  | true=>match ndK P ids n a,ndK P ids n b with|⟨f⟩,⟨g⟩=>⟨fun F st k=>f F st (fun y=>match y with | .n st=>g F st k|y=>k y)⟩
 | .cond c a b=>match xHasR ids (.cond c a b) with
  | false=>detN P n (.cond c a b)
  | true=>match rdK c,ndK P ids n a,ndK P ids n b with|⟨c⟩,⟨f⟩,⟨g⟩=>⟨fun F st k=>match c st.e with | .b true=>f F st k | .b false=>g F st k|_=>false⟩
 | .block id a=>match xHasR ids a with
  | false=>detN P n (.block id a)
  | true=>match ndK P ids n a with|⟨f⟩=>⟨fun F st k=>f F st (fun y=>match y with | .x j st=>(match Nat.beq j id with|true=>k (.n st)|false=>k (.x j st))|y=>k y)⟩
 | .loop a=>match xHasR ids a with
  | false=>detN P n (.loop a)
  | true=>match ndK P ids n a with|⟨f⟩=>⟨fun F st k=>xLoopN f F k 1000000 st⟩
 | .scope a=>match xHasR ids a with
  | false=>detN P n (.scope a)
  | true=>match ndK P ids n a with|⟨f⟩=>⟨fun F st k=>f F st k⟩
 | .region i ops draw=>ndReg P ids n i ops draw
 | c=>detN P n c
section
variable{P:Program}{b:FB}{n:Nat}{l₀ rest:List Oper}{e:Env}{ds:List Deferred}{Y:Ro}{Z:Own}{S:Cy}
variable{dd:Option Tmp}{ty t:TypeId}{pos:String}{af:Array Edge}{g:Option (Nat×Bool)}{x:Operand}{v z:Value}
theorem Bio{el:TypeId}{dir:ChanDir}{c:Nat}(hT:P.underlying t=some (.chan dir el))(hz:Fw P el z)(hx:Af e x = .chan (some c))(W:World) :
  (execOp (Af e) ⟨dd,.recv t x false,ty,pos,af,g⟩).runT P W #[]=(.ok (.comm #[Conc.rcase c z] true (.recv false)) W,#[]):=by
 obtain⟨ti,f,h⟩:=hz;show ((underlying t).bind _:Sem Next).runT P W #[]=_;rw[Sem.runT_bind'];have a:(underlying t).runT P W #[]=(.ok (.chan dir el) W,#[]):=by
  show Sem.runT P (match P.underlying t with|some i=>pure i|none=>_) W #[]=_;rw[hT];rfl
 rw[a];show ((zeroValue el).bind _:Sem Next).runT P W #[]=_;rw[Sem.runT_bind'];have b:(zeroValue el).runT P W #[]=(.ok z W,#[]):=by
  show Sem.runT P ((typeInfo el).bind _) W #[]=_;rw[Sem.runT_bind'];have d:(typeInfo el).runT P W #[]=(.ok ti W,#[]):=by
   show Sem.runT P (match P.info? el with|some i=>pure i|none=>_) W #[]=_;rw[f];rfl
  rw[d];simp only[h];rfl
 rw[b,hx];rfl
theorem Bpo{el:TypeId}{dir:ChanDir}{c:Nat}(hT:P.underlying t=some (.chan dir el))(hz:Fw P el z)(hx:Af e x = .chan (some c)){i:Nat}{rs:List Nat}{tm:Array Value}{k:List Item}{cs:List Frame}(ho:l₀.toArray[i]?=some ⟨dd,.recv t x false,ty,pos,af,g⟩)(hw:Bz l₀.toArray ⟨dd,.recv t x false,ty,pos,af,g⟩ e=true)
  (hs:Fu n l₀.toArray=true) (hk:b.kind ≠ .early) (ht:EnvOf n tm e):Asl P c z false (Fr b tm ds (.inRegion l₀.toArray (i::rs)::k)) cs:=by
 intro W;have hev:=ht.eval b ds (.inRegion l₀.toArray (i::rs)::k);have hst:=Np (C:=Iw P) (b:=b) (ds:=ds) (tm:=tm) (k:=k) (cs:=cs) (rest:=rs) ho (by rw[Ij hs ht];exact hw) (fun c' h'=>by cases h') W;refine hst.trans ?_;rw[hev];have hk':(b.kind==CallKind.early)=false:=by cases hb:b.kind<;>simp_all<;>rfl
 have hr:=Bio (P:=P) (dd:=dd) (ty:=ty) (pos:=pos) (af:=af) (g:=g) hT hz hx W;simp only[Iw]at *;simp[stepG.apply,-Sem.runT_eq,hr,hk',GStep.after,Conc.G,Fr,seen]
end
theorem Axu{f:Tx->List Tx->Bool}:∀(l pre:List Tx),xPicks f l pre=true->∀(j:Nat) q,l[j]?=some q->f q (pre++l.eraseIdx j)=true
 | [],pre,_,j,q,hj=>by cases hj
 | a::l,pre,h,j,q,hj=>by
  have h':(match f a (xApp pre l) with|true=>xPicks f l (xApp pre [a])|false=>false)=true:=h;rw[Me,Me]at h';split at h'
  ·rename_i ha;cases j with
   | zero=>cases hj;exact ha
   | succ j =>
    have:=Axu l (pre++[a]) h' j q (by simpa using hj);rw[lZ9]at this;exact this
  ·cases h'
theorem Adx{k:Nat}:∀{l:List Nat},xHasN k l=true↔k∈l
 | []=>by constructor<;>intro h<;>cases h
 | a::l=>by
  have e:xHasN k (a::l)=(match Nat.beq a k with|true=>true|false=>xHasN k l):=rfl;rw[e];by_cases h:a=k
  ·subst h;have:Nat.beq a a=true:=by simp
   rw[this];simp
  ·rw[Bwh h,lZ8];constructor
   ·intro b;exact .inr (Adx.1 b)
   ·rintro (b|b)
    ·exact absurd b.symm h
    ·exact Adx.2 b
theorem Axm{f:Nat->CV×CV->Bool}{seen:List Nat}:∀(l:List (CV×CV)) (o:Nat),xNexts f seen l o=true->∀(j:Nat) a,l[j]?=some a->o+j∉seen->f (o+j) a=true
 | [],o,_,j,a,hj,_=>by cases hj
 | a0::l,o,h,j,a,hj,hn=>by
  have h':(match xHasN o seen with|true=>xNexts f seen l (Nat.succ o)|false=>match f o a0 with|true=>xNexts f seen l (Nat.succ o)|false=>false)=true:=h;have rest:xNexts f seen l (Nat.succ o)=true:=by
   split at h'
   ·exact h'
   ·split at h'
    ·exact h'
    ·cases h'
  cases j with
  | zero =>
   cases hj;split at h'
   ·rename_i hs;exact absurd (Adx.1 hs) hn
   ·split at h'
    ·rename_i hf;exact hf
    ·cases h'
  | succ j =>
   have:=Axm l (o+1) rest j a (by simpa using hj) (by rw[show o+1+j=o+(j+1) by omega];exact hn);rw[show o+1+j=o+(j+1) by omega]at this;exact this
theorem Akq{seen:List Nat}:∀{n:Nat},xAllSeen seen n=false->∃j,j<n/\j∉seen
 | 0,h=>by cases h
 | n+1,h=>by
  have h':(match xHasN n seen with|true=>xAllSeen seen n|false=>false)=false:=h;split at h'
  ·obtain⟨j,a,b⟩:=Akq h';exact⟨j,Aws a,b⟩
  ·rename_i hs;exact⟨n,Aqm _,fun hm=>by rw[Adx.2 hm]at hs;cases hs⟩
theorem Ahr{seen:List Nat}:∀{n:Nat},xAllSeen seen n=true->∀j,j<n->j∈seen
 | 0,_,j,hj=>absurd hj (Uk _)
 | n+1,h,j,hj=>by
  have h':(match xHasN n seen with|true=>xAllSeen seen n|false=>false)=true:=h;split at h'
  ·rename_i hs;rcases Nat.lt_succ_iff_lt_or_eq.1 hj with h1|h1
   ·exact Ahr h' j h1
   ·subst h1;exact Adx.1 hs
  ·cases h'
theorem Bnx{P:Program}{R:XR}{st:St}{e:Env}{ds:List Deferred}{Y:Ro}{Z Z9:Own}{r:Nat}{x:Operand}{k:CV->Mem->Bool}{ty:TypeId}{Q:Value->Own->Prop}(hs:Sim R st e ds Y Z Z9)(hx:(rdK x).run st.e = .p r 0)(h:ndN st r k=true)
  (hq:∀y m' v Z',k y m'=true->V1 R y v->MemX R m' Y Z' Z9->Q v Z'):wpS P Y (Instr.next (Af e x) false ty) Z Q:=by
 have hv:=Dy hs.env hs.mem.globR x;rw[hx]at hv;obtain⟨N,T,hR,J⟩:=Ayo hv;unfold ndN at h;split at h
 ·rename_i mk n seen hr;split at h
  ·rename_i es ho;split at h
   ·rename_i hn;have hn:=Hr hn;rw[Ia]at hn;have I:=hs.mem;obtain⟨L,G,hm⟩:=hs.mem;obtain⟨O,U,X,W,u,w,K,M⟩:=hm.at hr (by simp);rw[hR]at u;cases u;obtain⟨b,c,en,ck,g,C,i,D,q⟩:=hm.map ho;cases K with
    | iter hRm =>
     rw[g]at hRm;cases hRm;have H:en.length=es.length:=by have:=i.len;simpa using this.symm
     have hck:ck=n:=by rw[q.ck,H,hn]
     subst hck;rw[J];refine Bje q w C (fun F=>?_) fun j ej hej hj=>?_
     ·have hk:k (.t [.b false]) st.m=true:=by
       cases hs':xAllSeen seen ck with
       | true=>rw[hs']at h;exact h
       | false =>
        obtain⟨j,V,E⟩:=Akq hs';exact absurd (F j (by omega)) E
      exact hq _ _ _ _ hk (.t (.b _ .nil) .nil) I
     ·have hjl:j<es.length:=by have:=(lZ1.1 hej).1;omega
      have hea:=Ps hjl;have hk:k (.t [.b true,es[j].1,es[j].2]) (st.m.put r (.iter mk ck (xApp seen [j])))=true:=by
       cases hs':xAllSeen seen ck with
       | true=>exact absurd (Ahr hs' j (by omega)) hj
       | false =>
        rw[hs']at h;have:=Axm es 0 h j es[j] hea (by rw[Qz];exact hj);rw[Qz]at this;exact this
      obtain⟨YQ,a,z⟩:=i.at (d:=j) (v:=es[j].1) (by rw[Pb,hea];rfl);obtain⟨ZQ,f,B⟩:=D.at (d:=j) (v:=es[j].2) (by rw[Pb,hea];rfl);rw[Pb,hej]at a f;cases a;cases f;refine hq _ _ _ _ hk (.t (VR.cons_iff.2 ⟨.b _ .nil,VR.cons_iff.2 ⟨z,B⟩⟩) .nil) ?_;have:=hm.put (o':=.iter mk ck (xApp seen [j])) (r':=.obj (.mapIter (some b) ck (seen++[j]).toArray ck)) M hR w (by rw[Me];exact .iter g);exact this
   ·cases h
  ·cases h
 ·cases h
end
section
open Go Go.Conc
theorem Bjf{C:Ctx}{b:FB}{n:Nat}{Q:Hu}{e:Env}{ds:List Deferred}{Y:Ro}{Z:Own}{c:Code}(h:WpC C b n c Q e ds Y Z):WpC C b n (.scope c) Q e ds Y Z:=by
 intro tm k cs ht;refine Eh (fr':=Fr b tm ds (.code c :: .inScope c::k)) (cs':=cs) (fun W=>by simp[Conc.G,stepG,stepG.exec,Fr]) ?_;refine(h.stops tm (.inScope c::k) cs ht).bind ?_;rintro _ _ Y' Z' ⟨rfl,ex,tm',e',ds',g,a,d,f,rfl⟩;by_cases hn:ex = .normal
 ·subst hn;cases f;exact Eh (fr':=Fr b tm' ds' k) (fun W=>by simp[Conc.G,stepG,stepG.exec,Fr]) (.stop (.inl ⟨rfl,.normal,tm',e',ds',k,a,d,rfl,rfl⟩))
 ·exact .stop (.inl ⟨rfl,ex,tm',e',ds',g,a,d,He hn (fun id=>rfl) f,rfl⟩)
theorem Aqc{f:Nat->Option St}:∀{l:List Nat} {i:Nat} {s:St},xFirstP f l=some (i,s)->i∈l/\f i=some s
 | a::l,i,s,h=>by
  have h':(match f a with|some s=>some (a,s)|none=>xFirstP f l)=some (i,s):=h;split at h'
  ·rename_i s' hs;cases h';exact⟨Vb ..,hs⟩
  ·obtain⟨b,c⟩:=Aqc h';exact⟨lZ0 _ b,c⟩
theorem Bcd{f:Nat->Bool}:∀{l:List Nat},xAllN f l=true->∀i∈l,f i=true
 | a::l,h,i,hi=>by
  have h':(match f a with|true=>xAllN f l|false=>false)=true:=h;split at h'
  ·rename_i ha;rcases lZ8.1 hi with rfl|hi
   ·exact ha
   ·exact Bcd h' i hi
  ·cases h'
theorem Bxr{P:Program}{F:Fns}(hF:FnsOk (Iw P) F){l:List Oper}(hsel:Apw l=true){k:St->Bool}{b:FB}{R0:XR}{Y0:Ro}{Z9:Own}(hn:NoRecv Z9):∀(fuel:Nat) (li:List Bool) (lv:List LvE) (st:St) (R:XR) (e:Env) (ds:List Deferred) (Y:Ro) (Z:Own),ndA P F l k fuel li st=true->(∀p∈lv,p.2=none)->XR.le R0 R->Ro.le Y0 Y->Sim R st e ds Y Z Z9 ->
  Aip (Iw P) b l.toArray (fun e' ds' Y' Z'=>∃st' R',k st'=true/\XR.le R0 R'/\Ro.le Y0 Y'/\Sim R' st' e' ds' Y' Z' Z9) (wtL l) LvS fuel lv li.toArray e ds Y Z:=by
 have hS:∀{lv:List LvE} {Y:Ro} {Z:Own},(∀p∈lv,p.2=none)->∀p∈lv,LvS p Y Z:=fun hlv p hp=>by
  unfold LvS;rw[hlv p hp];trivial
 intro fuel;induction fuel with
 | zero =>
  intro li lv st R e ds Y Z h hlv hR hρ hs;have h':(match Dl l li with|[]=>k st|_::_=>false)=true:=h;split at h'
  ·rename_i hr;exact Afk (by rw[Hh];exact hr) ⟨st,R,h',hR,hρ,hs⟩ (hS hlv) 0
  ·cases h'
 | succ fuel ih =>
  intro li lv st R e ds Y Z h hlv hR hρ hs;have h':(match Dl l li with
   | []=>k st
   | a::r=>match xFirstP (xPureA P l li st) (a::r) with
    | some (i,st')=>ndA P F l k fuel (li.set i true) st'
    | none=>xAllN (fun i=>match l[i]? with|some o=>(match xStepA P F l st o with|some st'=>ndA P F l k fuel (li.set i true) st'|none=>false)|none=>false) (a::r))=true:=h
  split at h'
  ·rename_i hr;exact Afk (by rw[Hh];exact hr) ⟨st,R,h',hR,hρ,hs⟩ (hS hlv) _
  ·rename_i a r hr;split at h'
   ·rename_i i st' hf;obtain⟨hi,hp⟩:=Aqc hf;rw[<-hr]at hi;unfold xPureA at hp;split at hp
    ·rename_i o htk ho;have d:Ahv l li i=true:=by
      unfold xTake at htk;rw[Pc]at htk;exact htk.2
     have f:xMild o.op=true:=by
      unfold xTake at htk;rw[ho]at htk;simp only[Pc]at htk;exact htk.1.1
     have ho':l.toArray[i]?=some o:=by rw[Jw];exact ho
     have hfs:=Region.free_spec (md:=.any) (ops:=l.toArray) (i:=i) (oi:=o) ho' (Ahw d);have key:∀x,st'=⟨(dstK o.dst).run st.e x,st.m,st.ds⟩->(∃v,V1 R x v/\YieldsH P l.toArray (LvS (i,none)) o v e)->Aip (Iw P) b l.toArray (fun e' ds' Y' Z'=>∃st' R',k st'=true/\XR.le R0 R'/\Ro.le Y0 Y'/\Sim R' st' e' ds' Y' Z' Z9) (wtL l) LvS (fuel+1) lv li.toArray e ds Y Z:=by
      rintro x rfl ⟨v,hv,hy⟩;refine Abw ho' (Region.noSelect_spec (Alr hsel)) (Auq rfl) fuel lv _ e ds Y Z hfs (Oa.1 hi) hy ?_;rw[Ml];refine ih _ ((i,none)::lv) _ R _ ds Y Z h' (fun p hp=>?_) hR hρ ⟨Om hs.env hv,hs.mem,hs.ds⟩;rcases lZ8.1 hp with rfl|hp
      ·rfl
      ·exact hlv p hp
     split at hp
     ·rename_i hgk;split at hp
      ·rename_i hgd;cases hp;exact key .undef rfl ⟨undef,.t .nil .nil,.inr ⟨by rw[Pj hs.env hgk];exact hgd,rfl⟩⟩
      ·rename_i hgd;split at hp
       ·rename_i x m he;split at hp
        ·rename_i hnx;cases hp;refine key x rfl ?_;rcases Bet o.op R st.e e st.m x m hs.env hs.mem.globR he with⟨_,v,hv,hw⟩|⟨_,hw,_⟩
         ·refine⟨v,hv,.inl ⟨by rw[Pj hs.env hgk];exact hgd,fun Y' Z' _=>?_⟩⟩;obtain⟨dd,op,ty,pos,af,gd⟩:=o;exact hw Y' Z' dd ty pos af gd
         ·exact absurd (Hr hnx) (hw f)
        ·cases hp
       ·cases hp
     ·cases hp
    ·cases hp
   ·refine Aks (rs:=Dl l li) (Hh _ _) (by rw[hr];simp) (hS hlv) fun j hj=>?_;rw[hr]at hj;have hj':=Bcd h' j hj;split at hj'
    ·rename_i o ho;split at hj'
     ·rename_i st' hst;unfold xStepA at hst;split at hst
      ·rename_i hgk;split at hst
       ·rename_i x m1 ds1 hov;cases hst;have hdo:UqOk (Iw P) l o st x m1 ds1:=by
         split at hov
         ·rename_i hgd;cases hov;exact .inl ⟨hgd,rfl,rfl,rfl⟩
         ·rename_i hgd;exact .inr ⟨hgd,Aan hF hov⟩
        have hds:=hdo.kept.2.2;refine(Bff (b:=b) hdo ho hgk hn hs).mono ?_;rintro z y u w ⟨rfl,R',v,c,g,rfl,n,q⟩;rw[Ml];refine ih _ _ _ R' _ _ u w hj' (fun p hp=>hlv p (Rg.1 hp).1) (hR.trans c) (hρ.trans g) ⟨Om (hs.env.mono c) n,q,?_⟩;rw[hds];exact hs.ds.mono c
       ·cases hst
      ·cases hst
     ·cases hj'
    ·cases hj'
section
variable{P:Program}{F:Fns}
theorem Ann(hF:FnsOk (Iw P) F)(hx:∀S,Abs (goT (Iw P) S) F doX)(S:Cy){l₀:List Oper}:∀(r:List Oper) (st:St) (k:St->Bool),(ndT P l₀ r).run F st k=true->∀b n R e ds Y Z Z9 o o',Fu n l₀.toArray=true->b.kind ≠ .early->NoRecv Z9->b.round=none->Sim R st e ds Y Z Z9 ->
  Ops (goT (Iw P) S) b n l₀ r o e ds Y Z o' (fun e' ds' Y' Z'=>∃st' R',k st'=true/\XR.le R R'/\Ro.le Y Y'/\Sim R' st' e' ds' Y' Z' Z9)
 | [],st,k,h,b,n,R,e,ds,Y,Z,Z9,o,o',hsl,hk,hn,hr,hs=>by
  have:=Bvt (G:=goT (Iw P) S) (b:=b) (n:=n) (o:=o) (l₀:=l₀) (e:=e) (ds:=ds) (Y:=Y) (Z:=Z) (Q:=fun e' ds' Y' Z'=>∃st' R',k st'=true/\XR.le R R'/\Ro.le Y Y'/\Sim R' st' e' ds' Y' Z' Z9) ⟨st,R,h,.refl,.refl,hs⟩;exact this
 | op::r,st,k,h,b,n,R,e,ds,Y,Z,Z9,o,o',hsl,hk,hn,hr,hs=>by
  have h':(match (gokK l₀ op).run st.e with
   | false=>false
   | true=>match (guardK l₀ op).run st.e with
    | false=>(ndT P l₀ r).run F ⟨(dstK op.dst).run st.e .undef,st.m,st.ds⟩ k
    | true=>match xNextOp op.op with
     | some x=>match (rdK x).run st.e with
      | .p a 0=>ndN st a (fun y m=>(ndT P l₀ r).run F ⟨(dstK op.dst).run st.e y,m,st.ds⟩ k)
      | _=>false
     | none=>match (opK P op.op).run st.e st.m with
      | .recv c false=>match st.m.M.get c with
       | some (.own (.crowd n (q::ms)))=>xPicks (fun q rest=>match xRecvM st.m c n q rest with
        | some (x,m)=>(ndT P l₀ r).run F ⟨(dstK op.dst).run st.e x,m,st.ds⟩ k
        | none=>false) (q::ms) []
       | _=>false
      | y=>match doX1 F none st y with
       | .v x m ds=>(ndT P l₀ r).run F ⟨(dstK op.dst).run st.e x,m,ds⟩ k
       | .bad=>false)=true:=h
  split at h'
  ·cases h'
  ·rename_i hgk;split at h'
   ·rename_i hg;refine Bob hsl hk (by rw[Pj hs.env hgk];exact hg) ?_;exact Ann hF hx S r _ k h' b n R _ ds Y Z Z9 o o' hsl hk hn hr ⟨Om hs.env (.t .nil .nil),hs.mem,hs.ds⟩
   ·rename_i hg;have hw:Bz l₀.toArray op e=true:=by rw[Pj hs.env hgk];exact hg
    split at h'
    ·rename_i x hnx;split at h'
     ·rename_i a hxr;obtain⟨dd,T,ty,pos,af,gd⟩:=op;have hop:T = .next x false:=by
       unfold xNextOp at hnx;simp only at hnx;split at hnx
       ·cases hnx;rfl
       ·cases hnx
      subst hop;refine Bxv hsl hk hw ?_;show wpS P Y ((Instr.next (Af e x) false ty).bind fun v=>Sem.pure (Next.value v)) Z _;rw[Ad];refine Bnx hs hxr h' fun y m' v Z' hk' hv hm'=>?_;have ih:=Ann hF hx S r _ k hk' b n R (Ja e dd v) ds Y Z' Z9 o o' hsl hk hn hr ⟨Om hs.env hv,hm',hs.ds⟩;exact ih
     ·cases h'
    split at h'
    ·rename_i c hop;split at h'
     ·rename_i kk q0 ms0 hcell;obtain⟨t,y,d,el,z,N,hT,hz,hy⟩:=Axr hop;obtain⟨dd,T,ty,pos,af,gd⟩:=op;simp only at N;subst N;have hyv:=Dy hs.env hs.mem.globR y;rw[hy]at hyv;obtain⟨bc,cc,w1,w2⟩:=Bjb hyv;obtain⟨b1,c1,i,Rs,V,u2,W,u4⟩:=Bpp hs.mem hcell;rw[w1]at V;cases V;intro pre u tm kk' cs ht hq;have ho:l₀.toArray[pre.length]?=some ⟨dd,.recv t y false,ty,pos,af,gd⟩:=by subst u;simp
      rw[Gb,Agl];have hne:Rs≠[]:=fun YQ=>by rw[YQ]at W;cases W
      refine GoesH.ext (K:=fun fr' cs' Y' Z'=>∃(j:Nat) (a:Value->Ro->Prop) (v:Value) (f:Ro),Rs[j]?=some a/\a v f/\Ro.le Y Y'/\Ro.le f Y'/\fr'=(Fr b tm ds (.inRegion l₀.toArray (pre.length::List.range' (pre.length+1) r.length)::kk')).finish v/\cs'=cs/\Z'=Z.set i (bc,Res.crowd kk (Rs.eraseIdx j)))
       (.inr (.inr (.inr (.inr ⟨i,bc,kk,Rs,z,false,Bpo hT hz w2 ho hw hsl hk ht,u2,hne,fun j a v f Y' w B g C=>⟨j,a,v,f,w,B,g,C,rfl,rfl,rfl⟩⟩)))) ?_
      rintro _ _ Y' _ ⟨j,a,v,f,w,B,g,C,rfl,rfl,rfl⟩;obtain⟨q,ZQ,g2⟩:=u4 j a v f Y' w B g C;have hpk:=Axu _ _ h' j q ZQ;rw[Agn]at hpk;cases hrm:xRecvM st.m c kk q ((q0::ms0).eraseIdx j) with
      | none=>simp only[hrm]at hpk;cases hpk
      | some xm =>
       obtain⟨x,m'⟩:=xm;simp only[hrm]at hpk;obtain⟨R',L,s2,s3⟩:=g2 x m' hrm;have O:=Ann hF hx S r _ k hpk b n R' (Ja e dd v) ds Y' _ Z9 o o' hsl hk hn hr ⟨Om (hs.env.mono L) s2,s3,hs.ds.mono L⟩ (pre++[⟨dd,.recv t y false,ty,pos,af,gd⟩]) (by rw[u];simp);rw[lZ4,Xo]at O;rw[Ju ho];exact O _ kk' _ (Jj hsl ht ho _) fun tm' e' ds' Y'' Z'' D ⟨st',R'',E,H,I,J⟩=>hq tm' e' ds' Y'' Z'' D ⟨st',R'',E,L.trans H,g.trans I,J⟩
     ·cases h'
    ·split at h'
     ·rename_i x m1 ds1 hdo;obtain⟨_,hc⟩:=hx S op st x m1 ds1 none hdo;have:=hc b n l₀ r o' (fun e' ds' Y' Z'=>∃st' R',k st'=true/\XR.le R R'/\Ro.le Y Y'/\Sim R' st' e' ds' Y' Z' Z9) R e ds Y Z Z9 hn ⟨trivial,hr⟩ hs hsl hk hw trivial fun R' v X Y' Z' U q2 q3 q4 q5=>by
       have ih:=Ann hF hx S r _ k h' b n R' (Ja e op.dst v) X Y' Z' Z9 m1.outs o' hsl hk hn hr ⟨Om (hs.env.mono U) q3,q4,q5⟩;intro pre u tm kk' cs ht hq;exact ih pre u tm kk' cs ht fun tm' e' ds' Y'' Z'' D ⟨st',R'',E,H,I,J⟩=>hq tm' e' ds' Y'' Z'' D ⟨st',R'',E,U.trans H,q2.trans I,J⟩
      exact this
     ·cases h'
def Cae(P:Program)(n:Nat)(c:Code)(st:St)(k:Go.Proofs.YtekhlbdfjkndnaaGreatDoor.R->Bool):Prop:=∀b R e ds Y Z Z9,b.kind ≠ .early->NoRecv Z9->b.round=none->Sim R st e ds Y Z Z9 ->
 WpC (Iw P) b n c (fun ex e' ds' Y' Z'=>∃st' R',k (Gk ex st')=true/\XR.le R R'/\Ro.le Y Y'/\Sim R' st' e' ds' Y' Z' Z9) e ds Y Z
theorem Yy(hF:FnsOk (Iw P) F)(hx:∀S,Abs (goT (Iw P) S) F doX){n:Nat}{c:Code}{st:St}{k:Go.Proofs.YtekhlbdfjkndnaaGreatDoor.R->Bool}(h:(detN P n c).run F st k=true):Cae P n c st k:=by
 have h':(match (codeK P doX n c).run F none st with | .bad=>false|y=>k y)=true:=h;intro b R e ds Y Z Z9 hk hn hr hs;have key:∀ex st',(codeK P doX n c).run F none st=Gk ex st'->k (Gk ex st')=true->WpC (Iw P) b n c (fun ex e' ds' Y' Z'=>∃st' R',k (Gk ex st')=true/\XR.le R R'/\Ro.le Y Y'/\Sim R' st' e' ds' Y' Z' Z9) e ds Y Z:=fun ex st' a hkk=>by
  refine Adw (Reach.wp (S:=fun _ _ _ _=>True) (o:=st.m.outs) (o':=st'.m.outs) (ex:=ex) (Q:=fun ex' e' ds' Y' Z'=>ex'=ex/\∃R',XR.le R R'/\Ro.le Y Y'/\Sim R' st' e' ds' Y' Z' Z9) fun S =>
   ((Xb (G:=goT (Iw P) S) hF (hx S) (fun _=>⟨⟨S,rfl⟩,hx⟩) c a b hk).2 trivial R e ds Y Z Z9 hn ⟨trivial,hr⟩ hs).mono fun e ds Y Z h=>⟨rfl,h⟩) ?_
  rintro ex' e' ds' Y' Z' ⟨rfl,R',d,f,g⟩;exact⟨st',R',hkk,d,f,g⟩
 cases hc:(codeK P doX n c).run F none st with
 | n st'=>rw[hc]at h';exact key .normal st' hc h'
 | x id st'=>rw[hc]at h';exact key (.exit id) st' hc h'
 | r st'=>rw[hc]at h';exact key .ret st' hc h'
 | bad=>rw[hc]at h';cases h'
theorem Bxs(hF:FnsOk (Iw P) F)(hx:∀S,Abs (goT (Iw P) S) F doX){ids:List Nat}{n:Nat}:∀(c:Code) (st:St) (k:Go.Proofs.YtekhlbdfjkndnaaGreatDoor.R->Bool),(ndK P ids n c).run F st k=true->Cae P n c st k:=by
 intro c;induction c with
 | seq x y ihx ihy =>
  intro st k h;rw[ndK]at h;split at h
  ·exact Yy hF hx h
  ·have h':(ndK P ids n x).run F st (fun r=>match r with | .n st=>(ndK P ids n y).run F st k|r=>k r)=true:=h;intro b R e ds Y Z Z9 hk hn hr hs;refine Ai fun K hK=>Adw (ihx st _ h' b R e ds Y Z Z9 hk hn hr hs) ?_;rintro ex e' ds' Y' Z' ⟨st',R',f,a,d,g⟩;cases ex with
   | normal =>
    refine hK _ _ _ _ (Adw (ihy st' k f b R' e' ds' Y' Z' Z9 hk hn hr g) ?_);rintro ex e'' D Y'' Z'' ⟨v,R'',w,z,B,C⟩;exact⟨v,R'',w,a.trans z,d.trans B,C⟩
   | exit id=>exact⟨st',R',f,a,d,g⟩
   | ret=>exact⟨st',R',f,a,d,g⟩
 | cond q x y ihx ihy =>
  intro st k h;rw[ndK]at h;split at h
  ·exact Yy hF hx h
  ·have h':(match (rdK q).run st.e with | .b true=>(ndK P ids n x).run F st k | .b false=>(ndK P ids n y).run F st k|_=>false)=true:=h;intro b R e ds Y Z Z9 hk hn hr hs;have hv:=Dy hs.env hs.mem.globR q;split at h'
   ·rename_i hq;rw[hq]at hv;exact Bp (Aoe hv) (fun _=>ihx st k h' b R e ds Y Z Z9 hk hn hr hs) (fun h=>by cases h)
   ·rename_i hq;rw[hq]at hv;exact Bp (Aoe hv) (fun h=>by cases h) (fun _=>ihy st k h' b R e ds Y Z Z9 hk hn hr hs)
   ·cases h'
 | block id x ihx =>
  intro st k h;rw[ndK]at h;split at h
  ·exact Yy hF hx h
  ·have h':(ndK P ids n x).run F st (fun r=>match r with | .x j st=>(match Nat.beq j id with|true=>k (.n st)|false=>k (.x j st))|r=>k r)=true:=h;intro b R e ds Y Z Z9 hk hn hr hs;refine Ao (Adw (ihx st _ h' b R e ds Y Z Z9 hk hn hr hs) ?_);rintro ex e' ds' Y' Z' ⟨st',R',f,a,d,g⟩;cases ex with
   | normal=>exact⟨st',R',f,a,d,g⟩
   | exit j =>
    have u:(match Nat.beq j id with|true=>k (.n st')|false=>k (.x j st'))=true:=f;by_cases hj:j=id
    ·subst hj;have hb:Nat.beq j j=true:=by simp
     rw[hb]at u;simp only[Qy,if_true];exact⟨st',R',u,a,d,g⟩
    ·rw[Bwh hj]at u;simp only[Qy,hj,if_false];exact⟨st',R',u,a,d,g⟩
   | ret=>exact⟨st',R',f,a,d,g⟩
 | loop x ihx =>
  intro st k h;rw[ndK]at h;split at h
  ·exact Yy hF hx h
  ·have h':xLoopN (ndK P ids n x).run F k 1000000 st=true:=h;intro b R e ds Y Z Z9 hk hn hr hs;refine Cc (fun m e' ds' Y' Z'=>∃st' R',xLoopN (ndK P ids n x).run F k m st'=true/\XR.le R R'/\Ro.le Y Y'/\Sim R' st' e' ds' Y' Z' Z9) (m:=1000000) ⟨st,R,h',.refl,.refl,hs⟩ ?_;rintro m e' ds' Y' Z' ⟨st',R',f,a,d,g⟩;cases m with
   | zero=>cases f
   | succ m =>
    have u:(ndK P ids n x).run F st' (fun r=>match r with | .n st=>xLoopN (ndK P ids n x).run F k m st|r=>k r)=true:=f;refine Adw (ihx st' _ u b R' e' ds' Y' Z' Z9 hk hn hr g) ?_;rintro ex e'' D Y'' Z'' ⟨v,R'',w,z,B,C⟩;cases ex with
    | normal=>exact⟨m,Aqm _,v,R'',w,a.trans z,d.trans B,C⟩
    | exit id=>exact⟨v,R'',w,a.trans z,d.trans B,C⟩
    | ret=>exact⟨v,R'',w,a.trans z,d.trans B,C⟩
 | region i ops draw =>
  intro st k h;have t:(ndReg P ids n i ops draw).run F st k=true:=h;clear h;unfold ndReg at t;split at t
  ·rename_i hsl;have h':(ndT P ops.toList ops.toList).run F st (fun st=>k (.n st))=true:=t;intro b R e ds Y Z Z9 hk hn hr hs;have hw:WpC (Iw P) b n (.region i ops.toList.toArray false) (fun ex e' ds' Y' Z'=>∃st' R',k (Gk ex st')=true/\XR.le R R'/\Ro.le Y Y'/\Sim R' st' e' ds' Y' Z' Z9) e ds Y Z :=
    Reach.wp (S:=fun _ _ _ _=>True) (o:=st.m.outs) (o':=st.m.outs) (ex:=.normal) fun S=>Axy (Ann hF hx S ops.toList st _ h' b n R e ds Y Z Z9 st.m.outs st.m.outs (Abb hsl) hk hn hr hs)
   rw[Adz]at hw;exact hw
  ·cases t
  ·rename_i hsl;split at t
   ·rename_i hsel hm;have h':ndA P F ops.toList (fun st=>k (.n st)) ops.toList.length (List.replicate ops.toList.length false) st=true:=t;intro b R e ds Y Z Z9 hk hn hr hs;have hA:=Bxr (b:=b) hF hsel hn _ _ [] st R e ds Y Z h' (fun p hp=>(by cases hp)) .refl .refl hs;have hw:WpC (Iw P) b n (.region i ops.toList.toArray true) (fun ex e' ds' Y' Z'=>∃st' R',k (Gk ex st')=true/\XR.le R R'/\Ro.le Y Y'/\Sim R' st' e' ds' Y' Z' Z9) e ds Y Z:=by
     refine Vk [] (fun _ _=>True) hm (Abb hsl) hk ?_;have:=Akt hA;simpa[Gk]using this
    rw[Adz]at hw;exact hw
   ·exact Yy hF hx t
  ·exact Yy hF hx t
 | scope x ihx =>
  intro st k h;rw[ndK]at h;split at h
  ·exact Yy hF hx h
  ·have h':(ndK P ids n x).run F st k=true:=h;intro b R e ds Y Z Z9 hk hn hr hs;exact Bjf (ihx st _ h' b R e ds Y Z Z9 hk hn hr hs)
 | _=>intro st k h;exact Yy hF hx h
end
end
section
open Go Go.Conc
def eqLs{α:Type}(f:α->α->Bool)(x:List α):List α->Bool:=List.rec (motive:=fun _=>List α->Bool) (fun y=>match y with|[]=>true|_::_=>false)
 (fun a _ ih y=>match y with|[]=>false|b::y=>match f a b with|true=>ih y|false=>false) x
theorem Rx{α:Type}{f:α->α->Bool}(hf:∀a b,f a b=true->a=b):∀{x y:List α},eqLs f x y=true->x=y
 | [],[],_=>rfl
 | [],_::_,h=>by cases h
 | _::_,[],h=>by cases h
 | a::x,b::y,h=>by
  have h':(match f a b with|true=>eqLs f x y|false=>false)=true:=h;split at h'
  ·rename_i hab;rw[hf a b hab,Rx hf h']
  ·cases h'
def eqV:Nat->CV->CV->Bool
 | 0,_,_=>false
 | d+1,x,y=>match x,y with
  | .bad,.bad=>true
  | .b a,.b b=>a==b
  | .i k a,.i k' b=>match xKind k k' with|true=>xEqI a b|false=>false
  | .s a,.s b=>xEqS a b
  | .pn,.pn=>true
  | .p k o,.p k' o'=>match Nat.beq k k' with|true=>Nat.beq o o'|false=>false
  | .sn,.sn=>true
  | .sl k o n kn c,.sl k' o' n' kn' c'=>match Nat.beq k k',Nat.beq o o',Nat.beq n n',kn==kn',Nat.beq c c' with|true,true,true,true,true=>true|_,_,_,_,_=>false
  | .mn,.mn=>true
  | .m k,.m k'=>Nat.beq k k'
  | .cn,.cn=>true
  | .fn,.fn=>true
  | .f g xs ys,.f g' xs' ys'=>match Nat.beq g g',eqLs (eqV d) xs xs',eqLs (eqV d) ys ys' with|true,true,true=>true|_,_,_=>false
  | .n,.n=>true
  | .a t v,.a t' v'=>match Nat.beq t t',eqV d v v' with|true,true=>true|_,_=>false
  | .g l,.g l'=>eqLs (eqV d) l l'
  | .t l,.t l'=>eqLs (eqV d) l l'
  | _,_=>false
theorem Vn:∀(d:Nat) (x y:CV),eqV d x y=true->x=y
 | 0,x,y,h=>by cases h
 | d+1,x,y,h=>by
  have ih:=Vn d;unfold eqV at h;split at h
  ·rfl
  ·rw[eq_of_beq h]
  ·split at h
   ·rename_i hk;rw[Abg]at h;rw[Mg hk,eq_of_beq h]
   ·cases h
  ·rw[Yf]at h;rw[eq_of_beq h]
  ·rfl
  ·split at h
   ·rename_i hk;rw[Hr hk,Hr h]
   ·cases h
  ·rfl
  ·split at h
   ·rename_i h1 h2 h3 h4 h5;rw[Hr h1,Hr h2,Hr h3,eq_of_beq h4,Hr h5]
   ·cases h
  ·rfl
  ·rw[Hr h]
  ·rfl
  ·rfl
  ·split at h
   ·rename_i h1 h2 h3;rw[Hr h1,Rx ih h2,Rx ih h3]
   ·cases h
  ·rfl
  ·split at h
   ·rename_i h1 h2;rw[Hr h1,ih _ _ h2]
   ·cases h
  ·rw[Rx ih h]
  ·rw[Rx ih h]
  ·cases h
end
section
open Go Go.Conc
def finN(h:Tr CV->Mem->Option (List CV))(st:St)(k:CV->Mem->Bool):Bool:=match xFin h st with
 | .v x m=>k x m
 | .bad=>false
structure KFN where
 run:Fns->List CV->Mem->(CV->Mem->Bool)->Bool
def ndFun(P:Program)(ids:List Nat)(g:Nat):KFN:=match P.funcs[g]? with
 | some fn=>match fn.body with
  | some c=>match ndK P ids fn.ntmps c,resK P fn.results.toList,fn.ntmps with
   | ⟨f⟩,⟨h⟩,n=>⟨fun F args m k=>match Nat.ble (xLen args) n with
    | true=>f F ⟨xArgEnv args 0 .leaf,m,[]⟩ (fun r=>match r with
     | .n st=>finN h st k
     | .r st=>finN h st k
     | _=>false)
    | false=>false⟩
  | none=>⟨fun _ _ _ _=>false⟩
 | none=>⟨fun _ _ _ _=>false⟩
section
variable{C:Ctx}{F:Fns}
theorem Bxc{fn:Func}{st:St}{x:CV}{m':Mem}{R':XR}{e:Env}{ds:List Deferred}{Y:Ro}{Z Z9:Own}(h:xFin (resK C.P fn.results.toList).run st = .v x m')(hs:Sim R' st e ds Y Z Z9) :
  Aki C fn (fun v Y' Z'=>Y'=Y/\V1 R' x v/\MemX R' m' Y' Z' Z9) e Y ds Z:=by
 unfold xFin at h;split at h
 ·rename_i m2 hd;have key:∀r,(resK C.P fn.results.toList).run st.e m2=some r->(∀vs,VR R' r vs->V1 R' x (Adi vs))->m2=m'->Aki C fn (fun v Y' Z'=>Y'=Y/\V1 R' x v/\MemX R' m' Y' Z' Z9) e Y ds Z:=by
   intro r hr hxv f;subst f;refine Ali hd hs.ds hs.mem fun Z'' a=>?_;obtain⟨vs,c,d⟩:=Aub (P:=C.P) hs.env a _ r hr;exact Vf (rs:=fn.results.toList) (by simp) d ⟨rfl,hxv vs c,a⟩
  split at h
  ·rename_i v hr;cases h;refine key _ hr (fun vs hvs=>?_) rfl
   match vs,hvs with
   | [],hvs=>cases hvs
   | [w],hvs=>exact hvs
   | w::w'::vs,hvs=>exact absurd hvs.len (by simp)
  ·rename_i l hne hr;cases h;refine key _ hr (fun vs hvs=>?_) rfl;have b:Adi vs = .tuple vs.toArray:=by
    unfold Adi;split
    ·rename_i v;exfalso;have:=hvs.len
     match l,this,hne with
     | [y],_,hne=>exact hne y rfl
    ·rfl
   rw[b];exact .t hvs .nil
  ·cases h
 ·cases h
end
theorem Ayf{C:Ctx}{fn:Func}{K K':Value->Ro->Own->Prop}{e:Env}{Y:Ro}(hk:∀v Y Z,K v Y Z->K' v Y Z):∀{ds:List Deferred} {Z:Own},Aki C fn K e Y ds Z->Aki C fn K' e Y ds Z
 | [],Z,h=>Eu (fun v Z' hv=>hk v Y Z' hv) _ _ h
 | _::_,_,⟨r,i,h1,h2,h3⟩=>⟨r,i,h1,h2,Ayf hk h3⟩
theorem Bnw{P:Program}{F:Fns}(hF:FnsOk (Iw P) F)(hx:∀S,Abs (goT (Iw P) S) F doX){ids:List Nat}{g:Nat}{args:List CV}{m:Mem}{k:CV->Mem->Bool}(h:(ndFun P ids g).run F args m k=true) :
  ∀R args' Y Z Z9,NoRecv Z9->VR R args args'->MemX R m Y Z Z9->CallsH (Iw P) g args'.toArray Y Z (fun v Y' Z'=>∃x m' R',k x m'=true/\XR.le R R'/\Ro.le Y Y'/\V1 R' x v/\MemX R' m' Y' Z' Z9):=by
 unfold ndFun at h;split at h
 ·rename_i fn hf;split at h
  ·rename_i c hc;have h':(match Nat.ble (xLen args) fn.ntmps with
    | true=>(ndK P ids fn.ntmps c).run F ⟨xArgEnv args 0 .leaf,m,[]⟩ (fun r=>match r with
     | .n st=>finN (resK P fn.results.toList).run st k
     | .r st=>finN (resK P fn.results.toList).run st k
     | _=>false)
    | false=>false)=true:=h
   split at h'
   ·rename_i hb;have d:=lZ7 hb;rw[Ia]at d;intro R args' Y Z Z9 hn hv hm;refine Oy hf hc rfl (by rw[<-hv.len];exact d) ?_;refine Adw (Bxs hF hx c _ _ h' ⟨g,.normal,none⟩ R (Pn args') [] Y Z Z9 (by simp) hn rfl ⟨Acy hv,hm,.nil⟩) ?_;rintro ex e' ds' Y' Z' ⟨st',R',b,j,p,q⟩;have fin:finN (resK P fn.results.toList).run st' k=true->Aki (Iw P) fn (fun v Y' Z'=>∃x m' R',k x m'=true/\XR.le R R'/\Ro.le Y Y'/\V1 R' x v/\MemX R' m' Y' Z' Z9) e' Y' ds' Z':=fun a=>by
     unfold finN at a;split at a
     ·rename_i x m' hxf;have:=Bxc (C:=Iw P) hxf q;exact Ayf (fun v Y'' Z'' ⟨e,f,i⟩=>⟨x,m',R',a,j,e ▸ p,f,i⟩) this
     ·cases a
    cases ex with
    | normal=>exact⟨by simp,fin b⟩
    | exit id=>cases b
    | ret=>exact⟨by simp,fin b⟩
   ·cases h'
  ·cases h
 ·cases h
end
section
open Go Go.Conc
def eqP2(x y:CV×CV):Bool:=match eqV 50 x.1 y.1 with|true=>eqV 50 x.2 y.2|false=>false
def eqO:CO->CO->Bool
 | .cells l,.cells l'=>eqLs (eqV 50) l l'
 | .grow n l,.grow n' l'=>match Nat.beq n n' with|true=>eqLs (eqV 50) l l'|false=>false
 | .map es,.map es'=>eqLs eqP2 es es'
 | .dead,.dead=>true
 | _,_=>false
def eqCl:Cell->Cell->Bool
 | .own o,.own o'=>eqO o o'
 | .ro o,.ro o'=>eqO o o'
 | _,_=>false
theorem Afu{a b:CO}(h:eqO a b=true):a=b:=by
 unfold eqO at h;split at h
 ·rw[Rx (Vn 50) h]
 ·split at h
  ·rename_i hn;rw[Hr hn,Rx (Vn 50) h]
  ·cases h
 ·refine congrArg _ (Rx (fun x y h=>?_) h);unfold eqP2 at h;split at h
  ·rename_i h1;exact Prod.ext (Vn 50 _ _ h1) (Vn 50 _ _ h)
  ·cases h
 ·rfl
 ·cases h
theorem Bsm{a b:Cell}(h:eqCl a b=true):a=b:=by
 unfold eqCl at h;split at h
 ·rw[Afu h]
 ·rw[Afu h]
 ·cases h
def treeOf(l:List (Nat×Cell)):Tr Cell:=List.rec (motive:=fun _=>Tr Cell) .leaf (fun a _ ih=>ih.set a.1 a.2) l
theorem Aik(a:Nat×Cell)(l:List (Nat×Cell)):treeOf (a::l)=(treeOf l).set a.1 a.2:=rfl
theorem Jd:∀(l:List (Nat×Cell)) (k:Nat) (c:Cell),(treeOf l).get k=some c->(k,c)∈l
 | [],k,c,h=>by rw[show treeOf [] = .leaf from rfl,To]at h;cases h
 | a::l,k,c,h=>by
  rw[Aik,Tr.get_set]at h;split at h
  ·rename_i hk;cases h;subst hk;exact Vb ..
  ·exact lZ0 _ (Jd l k c h)
theorem MemX.cut{R:XR}{m:Mem}{Y:Ro}{Z Z9:Own}{cs:List (Nat×Cell)}(h:MemX R m Y Z Z9)(hc:∀k c,(k,c)∈cs->m.M.get k=some c) :
  ∃L':List (Nat×Nat×Res),(∀p∈L',(treeOf cs).get p.1=none/\∃c o,R p.1=some (p.2.1,c)/\m.M.get p.1=some (.own o)/\ObjR R c o p.2.2)/\(L'.map Prod.fst).Nodup/\(∀k o,m.M.get k=some (.own o)->o ≠ .dead->(treeOf cs).get k=none->∃q,(k,q)∈L') /\
   MemX R ⟨treeOf cs,m.nx,[],0,[]⟩ Y Z (L'.map Prod.snd++Z9):=by
 obtain⟨L,G,h⟩:=h
 let q:Nat×Nat×Res->Bool:=fun p=>((treeOf cs).get p.1).isSome
 refine⟨L.filter fun p=>!q p,fun p hp=>?_,?_,fun k o hk hd hn=>?_,L.filter q,G,?_,?_,fun p hp=>?_,fun k o hk hd=>?_,fun k o hk=>?_,h.gar,h.lt,h.glob⟩
 ·obtain⟨b,a⟩:=Rg.1 hp;refine⟨?_,h.own p b⟩;have:((treeOf cs).get p.1).isSome=false:=by simpa[q]using a
  simpa using this
 ·exact h.nd.sublist (List.filter_sublist.map _)
 ·obtain⟨z,hz⟩:=h.all k o hk hd;exact⟨z,Rg.2 ⟨hz,by simp[q,hn]⟩⟩
 ·have b:(L.filter q++L.filter fun p=>!q p).Perm L:=List.filter_append_perm q L;have a:=b.map Prod.snd;rw[Mi]at a;refine h.perm.trans ?_;have g:((L.map Prod.snd)++(G++Z9)).Perm (((L.filter q).map Prod.snd++(L.filter fun p=>!q p).map Prod.snd)++(G++Z9)):=a.symm.append_right _;refine g.trans ?_;rw[lZ9];refine List.Perm.append_left _ ?_;rw[<-lZ9,<-lZ9];exact List.perm_append_comm.append_right _
 ·exact h.nd.sublist (List.filter_sublist.map _)
 ·obtain⟨b,a⟩:=Rg.1 hp;obtain⟨c,o,d,e,f⟩:=h.own p b;refine⟨c,o,d,?_,f⟩;show (treeOf cs).get p.1=_;cases hg:(treeOf cs).get p.1 with
  | none=>simp[q,hg]at a
  | some c' =>
   have:=hc _ _ (Jd cs _ _ hg);rw[e]at this;exact this.symm
 ·have hk':(treeOf cs).get k=some (.own o):=hk;have:=hc _ _ (Jd cs _ _ hk');obtain⟨z,hz⟩:=h.all k o this hd;exact⟨z,Rg.2 ⟨hz,by simp[q,hk']⟩⟩
 ·have hk':(treeOf cs).get k=some (.ro o):=hk;exact h.ro k o (hc _ _ (Jd cs _ _ hk'))
def xSame(j:Nat):Nat:=j
def renE(es:List (CV×CV)):List (CV×CV):=List.rec (motive:=fun _=>List (CV×CV)) [] (fun a _ ih=>(xRenV xSame a.1,xRenV xSame a.2)::ih) es
def renO:CO->CO
 | .cells l=>.cells (xRenL xSame l)
 | .grow n l=>.grow n (xRenL xSame l)
 | .map es=>.map (renE es)
 | .dead=>.dead
 | _=>.defd
def renCl:Cell->Cell
 | .own o=>.own (renO o)
 | .ro o=>.ro (renO o)
def keysE2(es:List (CV×CV)):List Nat:=List.rec (motive:=fun _=>List Nat) [] (fun a _ ih=>xApp (xKeysV a.1) (xApp (xKeysV a.2) ih)) es
def keysO2:CO->List Nat
 | .cells l=>xKeysL l
 | .grow _ l=>xKeysL l
 | .map es=>keysE2 es
 | _=>[]
def keysCl:Cell->List Nat
 | .own o=>keysO2 o
 | .ro o=>keysO2 o
def xAllBe(n:Nat)(l:List Nat):Bool:=List.rec (motive:=fun _=>Bool) true (fun a _ ih=>match Nat.ble (Nat.succ a) n with|true=>ih|false=>false) l
theorem Avc{n:Nat}:∀{l:List Nat},xAllBe n l=true->∀j∈l,j<n
 | a::l,h,j,hj=>by
  have h':(match Nat.ble (Nat.succ a) n with|true=>xAllBe n l|false=>false)=true:=h;split at h'
  ·rename_i ha;rcases lZ8.1 hj with rfl|hj
   ·exact lZ7 ha
   ·exact Avc h' j hj
  ·cases h'
def XR.below(R:XR)(n:Nat):XR:=fun j=>if j<n then R j else none
theorem Ada{R:XR}{n:Nat}{l:List Nat}(h:xAllBe n l=true):RenOk xSame R (R.below n) l:=fun j hj z hz=>by
 show (if j<n then R j else none)=some z;rw[if_pos (Avc h j hj)];exact hz
theorem Bjt{R R':XR}{n:Nat}(h:XR.le R R')(hn:∀k q,R k=some q->k<n):XR.le R (R'.below n):=fun k q hk=>by
 show (if k<n then R' k else none)=some q;rw[if_pos (hn k q hk)];exact h k q hk
theorem V1.below{R:XR}{n:Nat}{x:CV}{v:Value}(h:V1 R x v)(hk:xAllBe n (xKeysV x)=true):V1 (R.below n) (xRenV xSame x) v:=by
 have a:VR R [x] [v]:=h;have:=a.ren (φ:=xSame) (R':=R.below n) (by
  rw[Dz];intro j hj z hz;rcases Gv.1 hj with hj|hj
  ·exact Ada hk j hj z hz
  ·cases hj)
 exact this
theorem Ayq{R:XR}{n:Nat}{l:List CV}{l':List Value}(h:VR R l l')(hk:xAllBe n (xKeysL l)=true):VR (R.below n) (xRenL xSame l) l':=h.ren (Ada hk)
theorem Arh:∀(es:List (CV×CV)),(∀j∈xKeysL (es.map Prod.fst),j∈keysE2 es)/\(∀j∈xKeysL (es.map Prod.snd),j∈keysE2 es)/\(renE es).map Prod.fst=xRenL xSame (es.map Prod.fst)/\(renE es).map Prod.snd=xRenL xSame (es.map Prod.snd)
 | []=>⟨fun _ h=>h,fun _ h=>h,rfl,rfl⟩
 | a::es=>by
  obtain⟨h1,h2,h3,h4⟩:=Arh es;have e:keysE2 (a::es)=xKeysV a.1++(xKeysV a.2++keysE2 es):=by
   show xApp (xKeysV a.1) (xApp (xKeysV a.2) (keysE2 es))=_;rw[Me,Me]
  refine⟨fun j hj=>?_,fun j hj=>?_,?_,?_⟩
  ·rw[Ic,Dz]at hj;rw[e];rcases Gv.1 hj with hj|hj
   ·exact Iz _ hj
   ·exact lZ5 _ (lZ5 _ (h1 j hj))
  ·rw[Ic,Dz]at hj;rw[e];rcases Gv.1 hj with hj|hj
   ·exact lZ5 _ (Iz _ hj)
   ·exact lZ5 _ (lZ5 _ (h2 j hj))
  ·show xRenV xSame a.1::(renE es).map Prod.fst=_;rw[h3];rfl
  ·show xRenV xSame a.2::(renE es).map Prod.snd=_;rw[h4];rfl
theorem ObjR.below{R:XR}{c n:Nat}{o:CO}{r:Res}(h:ObjR R c o r)(hd:renO o ≠ .defd)(hk:xAllBe n (keysO2 o)=true):ObjR (R.below n) c (renO o) r:=by
 cases h with
 | cells h1 h2=>exact .cells (Ayq h1 hk) h2
 | grow h1 h2 h3 h4=>exact .grow (Ayq h1 hk) h2 h3 h4
 | @map es en ck h1 h2 h3 =>
  obtain⟨a,b,d,e⟩:=Arh es;refine .map (es:=renE es) ?_ ?_ h3
  ·rw[d];exact h1.ren fun j hj=>Ada hk j (a j hj)
  ·rw[e];exact h2.ren fun j hj=>Ada hk j (b j hj)
 | loop=>exact absurd rfl hd
 | defd=>exact absurd rfl hd
 | chan=>exact absurd rfl hd
 | rcv=>exact absurd rfl hd
 | crowd=>exact absurd rfl hd
 | iter=>exact absurd rfl hd
theorem ObjO.below{R:XR}{c n:Nat}{o:CO}{x:Obj}(h:ObjO R c o x)(hd:renO o ≠ .defd)(hk:xAllBe n (keysO2 o)=true):ObjO (R.below n) c (renO o) x:=let ⟨f,h⟩:=h;⟨f,h.below hd hk⟩
theorem Biq{o:CO}(h:renO o ≠ .dead):o ≠ .dead:=fun e=>h (by rw[e];rfl)
structure EntC where
 ids:List Nat:=[]
 g:Nat
 nx:Nat
 args:List CV
 cs:List (Nat×Cell)
 x:CV
 outs:List (Nat×Cell)
 nx':Nat
def xEvery(f:Nat×Cell->Bool)(l:List (Nat×Cell)):Bool:=List.rec (motive:=fun _=>Bool) true (fun a _ ih=>match f a with|true=>ih|false=>false) l
theorem Ub{f:Nat×Cell->Bool}:∀{l:List (Nat×Cell)},xEvery f l=true->∀a∈l,f a=true
 | a::l,h,b,hb=>by
  have h':(match f a with|true=>xEvery f l|false=>false)=true:=h;split at h'
  ·rename_i ha;rcases lZ8.1 hb with rfl|hb
   ·exact ha
   ·exact Ub h' b hb
  ·cases h'
def eqAt(M:Tr Cell)(a:Nat×Cell):Bool:=match M.get a.1 with|some c=>eqCl c a.2|none=>false
theorem Atf{M:Tr Cell}{a:Nat×Cell}(h:eqAt M a=true):M.get a.1=some a.2:=by
 unfold eqAt at h;split at h
 ·rename_i c hc;rw[hc,Bsm h]
 ·cases h
def layO(outs:List (Nat×Cell))(M:Tr Cell):Tr Cell:=List.rec (motive:=fun _=>Tr Cell) M (fun a _ ih=>ih.set a.1 a.2) outs
theorem Bhk(a:Nat×Cell)(l:List (Nat×Cell))(M:Tr Cell):layO (a::l) M=(layO l M).set a.1 a.2:=rfl
theorem Ang(M:Tr Cell)(k:Nat):∀l:List (Nat×Cell),(layO l M).get k=match (treeOf l).get k with|some c=>some c|none=>M.get k
 | []=>by rw[show treeOf [] = .leaf from rfl,To];rfl
 | a::l=>by
  rw[Bhk,Aik,Tr.get_set,Tr.get_set];split
  ·rfl
  ·exact Ang M k l
def keysE(l:List (Nat×Cell))(r:List Nat):List Nat:=List.rec (motive:=fun _=>List Nat) r (fun a _ ih=>a.1::ih) l
theorem Awi(r:List Nat):∀l:List (Nat×Cell),keysE l r=l.map Prod.fst++r
 | []=>rfl
 | a::l=>congrArg (a.1::·) (Awi r l)
def isAt(t:Tr Cell)(k:Nat):Bool:=match t.get k with|some _=>true|none=>false
def eqAtR(n:Nat)(M:Tr Cell)(a:Nat×Cell):Bool:=match M.get a.1 with
 | some c=>match xAllBe n (keysCl c),Nat.ble (Nat.succ a.1) n with
  | true,true=>eqCl (renCl c) a.2
  | _,_=>false
 | none=>false
theorem Avt{n:Nat}{M:Tr Cell}{a:Nat×Cell}(h:eqAtR n M a=true):∃c,M.get a.1=some c/\eqCl (renCl c) a.2=true/\xAllBe n (keysCl c)=true/\a.1<n:=by
 unfold eqAtR at h;split at h
 ·rename_i c hc;split at h
  ·rename_i h1 h2;exact⟨c,hc,h,h1,lZ7 h2⟩
  ·cases h
 ·cases h
def chkE(E:EntC)(x:CV)(m:Mem):Bool:=match eqV 50 (xRenV xSame x) E.x,xAllBe E.nx' (xKeysV x),xEvery (eqAtR E.nx' m.M) E.outs,xEvery (fun a=>match isAt (treeOf E.outs) a.1 with|true=>true|false=>eqAtR E.nx' m.M a) E.cs,xNoRes m.M with
 | true,true,true,true,true=>true
 | _,_,_,_,_=>false
def fineE(E:EntC):Bool:=match xEvery (fun a=>match isAt (treeOf E.cs) a.1 with|true=>true|false=>Nat.ble E.nx a.1) E.outs,Nat.ble E.nx E.nx' with
 | true,true=>true
 | _,_=>false
def runE(P:Program)(F:Fns)(E:EntC):Bool:=match fineE E with
 | true=>(ndFun P E.ids E.g).run F E.args ⟨treeOf E.cs,E.nx,[],0,[]⟩ (chkE E)
 | false=>false
def memE(E:EntC)(m:Mem):Mem:=⟨layO E.outs m.M,E.nx',keysE E.outs m.log,xLen E.outs+m.ln,m.outs⟩
def fitE(E:EntC)(args:List CV)(m:Mem):Bool:=match Nat.beq m.nx E.nx,eqLs (eqV 50) args E.args,xEvery (eqAt m.M) E.cs,xNoRes m.M with
 | true,true,true,true=>true
 | _,_,_,_=>false
theorem NoRecv.resL{R:XR}{m:Mem}{Z9:Own}{L':List (Nat×Nat×Res)}(hn:NoRecv Z9)(hr:xNoRes m.M=true)(hL:∀p∈L',∃c o,R p.1=some (p.2.1,c)/\m.M.get p.1=some (.own o)/\ObjR R c o p.2.2):NoRecv (L'.map Prod.snd++Z9):=by
 refine⟨fun c vs hm=>?_,fun c k Rs hm=>?_⟩
 ·rcases Gv.1 hm with h1|h1
  ·obtain⟨p,hp,e⟩:=Lp.1 h1;obtain⟨d,o1,f,b,a⟩:=hL p hp;have hg:=Tq m.M p.1 hr;rw[b]at hg;rw[e]at a;cases a with
   | rcv hv=>cases hg
  ·exact hn.recv c vs h1
 ·rcases Gv.1 hm with h1|h1
  ·obtain⟨p,hp,e⟩:=Lp.1 h1;obtain⟨d,o1,f,b,a⟩:=hL p hp;have hg:=Tq m.M p.1 hr;rw[b]at hg;rw[e]at a;cases a with
   | @crowd n ms Rs hms =>
    cases ms with
    | nil =>
     cases Rs with
     | nil=>rfl
     | cons=>exact hms.elim
    | cons=>cases hg
  ·exact hn.crowd c k Rs h1
theorem Avx{a b:CO}(h:eqO a b=true):b ≠ .defd:=fun e=>by
 subst e;cases a<;>cases h
theorem Apq{n:Nat}{M:Tr Cell}{k:Nat}{o:CO}(h:eqAtR n M (k,.own o)=true):∃o1,M.get k=some (.own o1)/\renO o1=o/\renO o1 ≠ .defd/\xAllBe n (keysO2 o1)=true/\k<n:=by
 obtain⟨c,b,a,d,e⟩:=Avt h;cases c with
 | own o1 =>
  have h':eqO (renO o1) o=true:=a;exact⟨o1,b,Afu h',by rw[Afu h'];exact Avx h',d,e⟩
 | ro o1=>cases a
theorem Avu{n:Nat}{M:Tr Cell}{k:Nat}{o:CO}(h:eqAtR n M (k,.ro o)=true):∃o1,M.get k=some (.ro o1)/\renO o1=o/\renO o1 ≠ .defd/\xAllBe n (keysO2 o1)=true/\k<n:=by
 obtain⟨c,b,a,d,e⟩:=Avt h;cases c with
 | ro o1 =>
  have h':eqO (renO o1) o=true:=a;exact⟨o1,b,Afu h',by rw[Afu h'];exact Avx h',d,e⟩
 | own o1=>cases a
theorem MemX.join{E:EntC}{R R':XR}{m m1:Mem}{Y Y':Ro}{Z Z' Z9:Own}{L':List (Nat×Nat×Res)}(hm:MemX R m Y Z Z9)(hR:XR.le R R')(hρ:Ro.le Y Y')(hnx:m.nx=E.nx)(hcs:∀a∈E.cs,m.M.get a.1=some a.2)
  (c1:∀p∈L',(treeOf E.cs).get p.1=none/\∃c o,R p.1=some (p.2.1,c)/\m.M.get p.1=some (.own o)/\ObjR R c o p.2.2) (c2:(L'.map Prod.fst).Nodup) (c3:∀k o,m.M.get k=some (.own o)->o ≠ .dead->(treeOf E.cs).get k=none->∃q,(k,q)∈L')
  (h1:MemX R' m1 Y' Z' (L'.map Prod.snd++Z9)) (o1:∀a∈E.outs,eqAtR E.nx' m1.M a=true) (o2:∀a∈E.cs,(treeOf E.outs).get a.1=none->eqAtR E.nx' m1.M a=true) (o3:xNoRes m1.M=true) (o4:E.nx<=E.nx') (o5:∀a∈E.outs,(treeOf E.cs).get a.1=none->E.nx<=a.1) :
  XR.le R (R'.below E.nx')/\∃Z'',Ghost Y' Z' Y' Z''/\MemX (R'.below E.nx') (memE E m) Y' Z'' Z9:=by
 obtain⟨L,G,hm⟩:=hm;obtain⟨t,H,h1⟩:=h1;have hlt:∀k q,R k=some q->k<E.nx':=fun k q hk=>by
  have:=hm.lt k q hk;rw[hnx]at this;exact Pa this o4
 have hRb:=Bjt hR hlt;refine⟨hRb,?_⟩;have bel:∀{k q},k<E.nx'->R' k=some q->R'.below E.nx' k=some q:=fun {k q} hk hq=>by
  show (if k<E.nx' then R' k else none)=some q;rw[if_pos hk];exact hq
 have ct:∀k c,(treeOf E.cs).get k=some c->m.M.get k=some c:=fun k c h=>hcs (k,c) (Jd _ _ _ h);have old:∀k q,R k=some q->(treeOf E.cs).get k=none->(treeOf E.outs).get k=none:=fun k q hk hn=>by
  cases ho:(treeOf E.outs).get k with
  | none=>rfl
  | some c =>
   have:=o5 (k,c) (Jd _ _ _ ho) hn;have J:=hm.lt k q hk;rw[hnx]at J;exact absurd J (Nat.not_lt.2 this)
 have mg:∀k,(memE E m).M.get k=match (treeOf E.outs).get k with|some c=>some c|none=>m.M.get k:=fun k=>Ang m.M k E.outs
 have mk:∀k c,((treeOf E.outs).get k=some c∨((treeOf E.outs).get k=none/\(treeOf E.cs).get k=some c))->(memE E m).M.get k=some c/\eqAtR E.nx' m1.M (k,c)=true:=fun k c h=>by
  rcases h with h|⟨h,h'⟩
  ·exact⟨by rw[mg,h],o1 (k,c) (Jd _ _ _ h)⟩
  ·exact⟨by rw[mg,h];exact ct _ _ h',o2 (k,c) (Jd _ _ _ h') h⟩
 let q:Nat×Nat×Res->Bool:=fun p=>((treeOf E.outs).get p.1).isSome||((treeOf E.cs).get p.1).isSome
 have qn:∀{p},q p=true->∃c,(treeOf E.outs).get p.1=some c∨((treeOf E.outs).get p.1=none/\(treeOf E.cs).get p.1=some c):=fun {p} hq=>by
  cases ho:(treeOf E.outs).get p.1 with
  | some c=>exact⟨c,.inl rfl⟩
  | none =>
   simp only[q,ho,Awr,Bool.false_or]at hq;obtain⟨c,hc⟩:=Bat.1 hq;exact⟨c,.inr ⟨rfl,hc⟩⟩
 have drop:∀p∈(t.filter fun p=>!q p).map Prod.snd,(∃o,p.2=Res.obj o)∨∃n,p.2=Res.crowd n []:=fun p hp=>by
  obtain⟨p',hp',rfl⟩:=Lp.1 hp;obtain⟨c,o,f,g,i⟩:=h1.own p' (Rg.1 hp').1;have hg:=Tq m1.M p'.1 o3;rw[g]at hg;generalize p'.2.2=r at i;cases i with
  | cells=>exact .inl ⟨_,rfl⟩
  | grow=>exact .inl ⟨_,rfl⟩
  | map=>exact .inl ⟨_,rfl⟩
  | loop=>exact .inl ⟨_,rfl⟩
  | defd=>exact .inl ⟨_,rfl⟩
  | iter=>exact .inl ⟨_,rfl⟩
  | chan=>cases hg
  | rcv=>cases hg
  | @crowd n ms Rs hms =>
   cases ms with
   | nil =>
    cases Rs with
    | nil=>exact .inr ⟨_,rfl⟩
    | cons=>exact hms.elim
   | cons=>cases hg
 refine⟨((t.filter q++L').map Prod.snd)++(H++Z9),(Cfr ?_).trans (Ghost.drops drop),t.filter q++L',H,.refl _,?_,fun p hp=>?_,fun k o hk hd=>?_,fun k o hk=>?_,h1.gar,fun k z hk=>?_,fun k hk=>hRb _ _ (hm.glob k hk)⟩
 ·have D:(t.filter q++t.filter fun p=>!q p).Perm t:=List.filter_append_perm q t;have w:=D.map Prod.snd;rw[Mi]at w;refine h1.perm.trans ?_;refine(w.symm.append_right _).trans ?_;rw[Mi];refine(List.perm_append_comm.append_right _).trans ?_;rw[lZ9,lZ9];refine List.Perm.append_left _ (List.Perm.append_left _ ?_);rw[<-lZ9,<-lZ9];exact List.perm_append_comm.append_right _
 ·rw[Mi,Aix];refine⟨h1.nd.sublist (List.filter_sublist.map _),c2,fun a ha b hb e=>?_⟩;subst e;obtain⟨p,hp,D⟩:=Lp.1 ha;obtain⟨p',hp',w⟩:=Lp.1 hb;subst D;obtain⟨hn,c,o,f,_⟩:=c1 p' hp';rw[w]at hn f;obtain⟨c',hc'⟩:=qn (Rg.1 hp).2;rcases hc' with hc'|⟨_,hc'⟩
  ·rw[old _ _ f hn]at hc';cases hc'
  ·rw[hn]at hc';cases hc'
 ·rcases Gv.1 hp with hp|hp
  ·obtain⟨K,N⟩:=Rg.1 hp;obtain⟨c,o,f,g,i⟩:=h1.own p K;obtain⟨cl,hcl⟩:=qn N;obtain⟨O,u⟩:=mk p.1 cl hcl;cases cl with
   | own o' =>
    obtain⟨oo,j,v,y,B,C⟩:=Apq u;rw[g]at j;cases j;exact⟨c,o',bel C f,O,by rw[<-v];exact i.below y B⟩
   | ro o' =>
    obtain⟨oo,j,_⟩:=Avu u;rw[g]at j;cases j
  ·obtain⟨hn,c,o,f,g,i⟩:=c1 p hp;refine⟨c,o,hRb _ _ f,?_,i.mono hRb⟩;rw[mg,old _ _ f hn];exact g
 ·have F:((treeOf E.outs).get k=some (.own o)∨((treeOf E.outs).get k=none/\(treeOf E.cs).get k=some (.own o)))∨((treeOf E.outs).get k=none/\(treeOf E.cs).get k=none/\m.M.get k=some (.own o)):=by
   rw[mg]at hk;cases ho:(treeOf E.outs).get k with
   | some d=>rw[ho]at hk;cases hk;exact .inl (.inl rfl)
   | none =>
    rw[ho]at hk;have hk:m.M.get k=some (.own o):=hk;cases hc:(treeOf E.cs).get k with
    | some c=>have I:=ct _ _ hc;rw[hk]at I;cases I;exact .inl (.inr ⟨rfl,rfl⟩)
    | none=>exact .inr ⟨rfl,rfl,hk⟩
  rcases F with hc|⟨_,hc,hk'⟩
  ·obtain⟨_,u⟩:=mk k _ hc;obtain⟨oo,j,v,y,B,C⟩:=Apq u;obtain⟨z,hz⟩:=h1.all k oo j (Biq (by rw[v];exact hd));refine⟨z,Iz _ (Rg.2 ⟨hz,?_⟩)⟩;rcases hc with hc|⟨_,hc⟩<;>simp[q,hc]
  ·obtain⟨z,hz⟩:=c3 k o hk' hd hc;exact⟨z,lZ5 _ hz⟩
 ·have F:((treeOf E.outs).get k=some (.ro o)∨((treeOf E.outs).get k=none/\(treeOf E.cs).get k=some (.ro o)))∨m.M.get k=some (.ro o):=by
   rw[mg]at hk;cases ho:(treeOf E.outs).get k with
   | some d=>rw[ho]at hk;cases hk;exact .inl (.inl rfl)
   | none=>rw[ho]at hk;exact .inr hk
  rcases F with hc|hk'
  ·obtain⟨_,u⟩:=mk k _ hc;obtain⟨oo,j,v,y,B,C⟩:=Avu u;obtain⟨b,c,x,f,g,i⟩:=h1.ro k oo j;exact⟨b,c,x,bel C f,g,by rw[<-v];exact i.below y B⟩
  ·obtain⟨b,c,x,f,g,i⟩:=hm.ro k o hk';exact⟨b,c,x,hRb _ _ f,hρ _ _ g,i.mono hRb⟩
 ·have hk':(if k<E.nx' then R' k else none)=some z:=hk;split at hk'
  ·assumption
  ·cases hk'
def Mk(P:Program)(E:EntC):Prop:=∀args m,fitE E args m=true->Kept m (memE E m)/\∀R args' Y Z Z9,NoRecv Z9->VR R args args'->MemX R m Y Z Z9 ->
  CallsH (Iw P) E.g args'.toArray Y Z (fun v Y' Z'=>∃R',XR.le R R'/\Ro.le Y Y'/\V1 R' E.x v/\MemX R' (memE E m) Y' Z' Z9)
theorem Agv{E:EntC}{m:Mem}(h:fineE E=true)(hnx:m.nx=E.nx):Kept m (memE E m):=by
 unfold fineE at h;split at h
 ·rename_i h1 h2;refine⟨by rw[hnx];exact lZ7 h2,⟨E.outs.map Prod.fst,Awi _ _,by rw[Abj,Aqq];show xLen E.outs+m.ln=_;rw[Ia],fun k _ hn=>Anr ?_⟩,[],rfl,by simp⟩;show (layO E.outs m.M).get k=_;rw[Ang];cases ho:(treeOf E.outs).get k with
  | none=>rfl
  | some c=>exact absurd (Rk (f:=Prod.fst) (Jd _ _ _ ho)) hn
 ·cases h
theorem Bwz{P:Program}{F:Fns}{E:EntC}(hF:FnsOk (Iw P) F)(hx:∀S,Abs (goT (Iw P) S) F doX)(h:runE P F E=true):Mk P E:=by
 unfold runE at h;split at h
 ·rename_i hf;intro D m b;unfold fitE at b;split at b
  ·rename_i a1 a2 a3 a4;have hnx:=Hr a1;have w:=Rx (Vn 50) a2;subst w;have hcs:∀a∈E.cs,m.M.get a.1=some a.2:=fun a ha=>Atf (Ub a3 a ha);refine⟨Agv hf hnx,fun R i Y Z Z9 hn hv hm=>?_⟩;obtain⟨L',e,j,n,f⟩:=hm.cut (cs:=E.cs) (fun k c hk=>hcs (k,c) hk);have hn':NoRecv (L'.map Prod.snd++Z9):=hn.resL (R:=R) a4 fun p hp=>(e p hp).2;rw[hnx]at f;have y:=Bnw hF hx h R i Y Z _ hn' hv f;intro c cs;refine(y c cs).bind ?_;rintro _ _ Y' Z' ⟨v,rfl,rfl,x,G,R',d,z,g,B,C⟩;unfold chkE at d;split at d
   ·rename_i b1 b2 b3 b4 b5;have hxe:=Vn 50 _ _ b1;unfold fineE at hf;split at hf
    ·rename_i f1 f2;obtain⟨q,Z'',t,u⟩:=MemX.join (E:=E) hm z g hnx hcs e j n C (fun a ha=>Ub b3 a ha) (fun a ha ho=>by
       have:=Ub b4 a ha;simp only[isAt,ho]at this;exact this) b5 (lZ7 f2) (fun a ha ho=>by
       have:=Ub f1 a ha;simp only[isAt,ho]at this;exact lZ7 this)
     exact .ghost t (.stop ⟨v,rfl,rfl,R'.below E.nx',q,g,by rw[<-hxe];exact B.below b2,u⟩)
    ·cases hf
   ·cases d
  ·cases b
 ·cases h
def xHook(es:List EntC)(g:Nat)(args:List CV)(m:Mem):Option (CV×Mem):=List.rec (motive:=fun _=>Option (CV×Mem)) none
 (fun E _ ih=>match Nat.beq E.g g with
  | true=>match fitE E args m with|true=>some (E.x,memE E m)|false=>ih
  | false=>ih) es
def xFnsH(P:Program)(es:List EntC)(n:Nat):Fns:=Nat.rec ⟨true,0,fun _ _ _ _=>.bad,fun _ _ _=>.bad,fun _ _ _ _=>none,fun _ _ _=>none⟩
 (fun n F=>⟨true,0,fun n rd c st=>match codeK P doX n c with|⟨f⟩=>f F rd st,
  fun g args m=>match xHook es g args m with|some (x,m')=>.v x m'|none=>match funK P g with|⟨f⟩=>f F args m,
  fun g args m k=>match sendK P g with|⟨f⟩=>f (xWF P n) args m k,fun g args m=>match msgK P g with|⟨f⟩=>f (xWF P n) args m⟩) n
theorem Bcu{P:Program}{g:Nat}{args:List CV}{m m':Mem}{x:CV}:∀{es:List EntC},(∀E∈es,Mk P E)->xHook es g args m=some (x,m')->Kept m m'/\∀R args' Y Z Z9,NoRecv Z9->VR R args args'->MemX R m Y Z Z9 ->
  CallsH (Iw P) g args'.toArray Y Z (fun v Y' Z'=>∃R',XR.le R R'/\Ro.le Y Y'/\V1 R' x v/\MemX R' m' Y' Z' Z9)
 | [],_,h=>by cases h
 | E::es,he,h=>by
  have h':(match Nat.beq E.g g with
   | true=>match fitE E args m with|true=>some (E.x,memE E m)|false=>xHook es g args m
   | false=>xHook es g args m)=some (x,m'):=h
  have rest:xHook es g args m=some (x,m')->_:=Bcu fun E' hE=>he E' (lZ0 _ hE);split at h'
  ·rename_i hg;split at h'
   ·rename_i hf;cases h';have:=Hr hg;subst this;exact he E mC args m hf
   ·exact rest h'
  ·exact rest h'
theorem Zy(P:Program){es:List EntC}(he:∀E∈es,Mk P E):∀n,FnsOk (Iw P) (xFnsH P es n)/\Bjr P (xFnsH P es n)/\Bwd P (xFnsH P es n)
 | 0=>⟨⟨fun _ _ _ _ _ h=>(by cases h),fun _ _ _ _ _ _ h=>(Fs h).elim⟩,fun _ _ _ _ _ _ h=>(by cases h),fun _ _ _ _ _ _ h=>(by cases h)⟩
 | n+1=>by
  obtain⟨ih,is,im⟩:=Zy P he n;refine⟨⟨fun g a m x m' h=>?_,fun k rd c st ex st' h b S hb=>?_⟩,fun g a m k e ho h=>?_,fun g a m k x d h=>?_⟩
  ·have h':(match xHook es g a m with|some (x,m')=>RV.v x m'|none=>(funK P g).run (xFnsH P es n) a m) = .v x m':=h;split at h'
   ·rename_i x1 d hh;cases h';exact Bcu he hh
   ·exact Bad (C:=Iw P) ih (fun S=>Aby ih is im S) h'
  ·have h':(codeK P doX k c).run (xFnsH P es n) rd st=Gk ex st':=h;exact Xb (C:=Iw P) (G:=goT (Iw P) S) ih (Aby ih is im S) (fun _=>⟨⟨S,rfl⟩,fun S=>Aby ih is im S⟩) c h' b hb
  ·have h':(sendK P g).run (xWF P n) a m k=some e:=h;exact Bfc (Yh P n).1 ho h'
  ·have h':(msgK P g).run (xWF P n) a m=some (k,x,d):=h;exact Bns (Yh P n).1 (fun S=>Ua (Yh P n).1 (Yh P n).2) h'
def EntsOk(P:Program)(es:List EntC):Prop:=∀E∈es,Mk P E
theorem EntsOk.nil{P:Program}:EntsOk P []:=fun _ h=>by cases h
theorem EntsOk.cons{P:Program}{E:EntC}{es:List EntC}(h:Mk P E)(hs:EntsOk P es):EntsOk P (E::es):=fun E' hE=>(lZ8.1 hE).elim (fun e=>e ▸ h) (hs E')
theorem Js{P:Program}{es:List EntC}{E:EntC}(he:EntsOk P es)(n:Nat)(h:runE P (xFnsH P es n) E=true):Mk P E :=
 Bwz (Zy P he n).1 (fun S=>Aby (Zy P he n).1 (Zy P he n).2.1 (Zy P he n).2.2 S) h
theorem Bgm{P:Program}{E:EntC}(he:Mk P E){m0:Mem}{p:Bool}(hx:E.x = .b p)(hf:fitE E [] m0=true)(hd:xNoRes (memE E m0).M=true){R0:XR}{Y:Ro}{Z:Own}(hm:MemX R0 m0 Y Z Z)(hn:NoRecv Z):CallsH (Iw P) E.g #[] Y Z (fun w Y' Z'=>Y'=Y/\Z'=Z/\w = .bool p):=by obtain⟨_,hcl⟩:=he [] m0 hf;have d:=hcl R0 [] Y Z Z hn .nil hm;intro c cs;refine(d c cs).bind ?_;rintro _ _ Y' Z' ⟨v,rfl,rfl,R',h,e,a,f⟩;refine .ghost ((f.drop hd).trans (Cfq e)) (.stop ⟨v,rfl,rfl,rfl,rfl,?_⟩);rw[hx]at a;exact Aoe a
end
end
end Go.Proofs.YtekhlbdfjkndnaaGreatDoor
