/- Part 5 of what all laws of layer 8 need: a logic of programs that start goroutines, and what the functions yield. -/
import Derived.Test.YtphgjjmlnkgghaaGreatDoorB4
set_option linter.unusedVariables false
set_option linter.unusedSimpArgs false
set_option maxRecDepth 100000
namespace Go.Proofs.YtphgjjmlnkgghaaGreatDoor
section
open Go
structure TStep where
 hand:Int
 in_:List Int
 out:List Int
 gain:Span
 loss:Span
deriving DecidableEq
instance:Dat TStep:=.iso fun x=>(x.hand,(x.in_,(x.out,(x.gain,x.loss))))
theorem TStep.f_hand:Fld TStep (Int) 0 TStep.hand:=⟨fun ρ cs x=>(Fld.fst:Fld ((Int) × (List Int) × (List Int) × (Span) × (Span)) (Int) 0 _).at_ ρ cs (x.hand,(x.in_,(x.out,(x.gain,x.loss))))⟩
theorem TStep.f_in_:Fld TStep (List Int) 1 TStep.in_:=⟨fun ρ cs x=>((.snd Fld.fst):Fld ((Int) × (List Int) × (List Int) × (Span) × (Span)) (List Int) 1 _).at_ ρ cs (x.hand,(x.in_,(x.out,(x.gain,x.loss))))⟩
theorem TStep.f_out:Fld TStep (List Int) 2 TStep.out:=⟨fun ρ cs x=>((.snd (.snd Fld.fst)):Fld ((Int) × (List Int) × (List Int) × (Span) × (Span)) (List Int) 2 _).at_ ρ cs (x.hand,(x.in_,(x.out,(x.gain,x.loss))))⟩
theorem TStep.f_gain:Fld TStep (Span) 3 TStep.gain:=⟨fun ρ cs x=>((.snd (.snd (.snd Fld.fst))):Fld ((Int) × (List Int) × (List Int) × (Span) × (Span)) (Span) 3 _).at_ ρ cs (x.hand,(x.in_,(x.out,(x.gain,x.loss))))⟩
theorem TStep.f_loss:Fld TStep (Span) 5 TStep.loss:=⟨fun ρ cs x=>((.snd (.snd (.snd (.snd Fld.self)))):Fld ((Int) × (List Int) × (List Int) × (Span) × (Span)) (Span) 5 _).at_ ρ cs (x.hand,(x.in_,(x.out,(x.gain,x.loss))))⟩
theorem TStep.open_ {ρ:Ro} {v:Value} {x:TStep} (h:Val ρ v x):∃ c0 c1,v = .agg #[.int .i64 x.hand,c0,c1,.int .i64 x.gain.low,.int .i64 x.gain.high,.int .i64 x.loss.low,.int .i64 x.loss.high]∧I64 x.hand∧Val ρ c0 x.in_∧Val ρ c1 x.out∧I64 x.gain.low∧I64 x.gain.high∧I64 x.loss.low∧I64 x.loss.high:=by
 obtain ⟨cs,⟨q0,r0,f0,⟨a1,b1⟩,⟨q2,r2,f2,⟨w3,a3,b3⟩,⟨q4,r4,f4,⟨w5,a5,b5⟩,⟨q6,r6,f6,⟨q7,r7,f7,⟨a8,b8⟩,⟨a9,b9⟩⟩,⟨q10,r10,f10,⟨a11,b11⟩,⟨a12,b12⟩⟩⟩⟩⟩⟩,hv⟩:=h
 subst f0
 subst f2
 subst f4
 subst f7
 subst f6
 subst f10
 subst a1
 subst a3
 subst a5
 subst a8
 subst a9
 subst a11
 subst a12
 exact ⟨w3,w5,hv,b1,Cs.2 b3,Cs.2 b5,b8,b9,b11,b12⟩
theorem TStep.shut {ρ:Ro} {x:TStep} {c0 c1:Value} (h0:I64 x.hand) (h1:Val ρ c0 x.in_) (h2:Val ρ c1 x.out) (h3:I64 x.gain.low) (h4:I64 x.gain.high) (h5:I64 x.loss.low) (h6:I64 x.loss.high):Val ρ (.agg #[.int .i64 x.hand,c0,c1,.int .i64 x.gain.low,.int .i64 x.gain.high,.int .i64 x.loss.low,.int .i64 x.loss.high]) x:=⟨[.int .i64 x.hand,c0,c1,.int .i64 x.gain.low,.int .i64 x.gain.high,.int .i64 x.loss.low,.int .i64 x.loss.high],⟨[.int .i64 x.hand],([c0] ++ ([c1] ++ (([.int .i64 x.gain.low] ++ [.int .i64 x.gain.high]) ++ ([.int .i64 x.loss.low] ++ [.int .i64 x.loss.high])))),rfl,⟨rfl,h0⟩,⟨[c0],([c1] ++ (([.int .i64 x.gain.low] ++ [.int .i64 x.gain.high]) ++ ([.int .i64 x.loss.low] ++ [.int .i64 x.loss.high]))),rfl,⟨c0,rfl,Cs.1 h1⟩,⟨[c1],(([.int .i64 x.gain.low] ++ [.int .i64 x.gain.high]) ++ ([.int .i64 x.loss.low] ++ [.int .i64 x.loss.high])),rfl,⟨c1,rfl,Cs.1 h2⟩,⟨([.int .i64 x.gain.low] ++ [.int .i64 x.gain.high]),([.int .i64 x.loss.low] ++ [.int .i64 x.loss.high]),rfl,⟨[.int .i64 x.gain.low],[.int .i64 x.gain.high],rfl,⟨rfl,h3⟩,⟨rfl,h4⟩⟩,⟨[.int .i64 x.loss.low],[.int .i64 x.loss.high],rfl,⟨rfl,h5⟩,⟨rfl,h6⟩⟩⟩⟩⟩⟩,rfl⟩
structure TScale where
 pile:Int
 mass:Span
deriving DecidableEq
instance:Dat TScale:=.iso fun x=>(x.pile,x.mass)
theorem TScale.f_pile:Fld TScale (Int) 0 TScale.pile:=⟨fun ρ cs x=>(Fld.fst:Fld ((Int) × (Span)) (Int) 0 _).at_ ρ cs (x.pile,x.mass)⟩
theorem TScale.f_mass:Fld TScale (Span) 1 TScale.mass:=⟨fun ρ cs x=>((.snd Fld.self):Fld ((Int) × (Span)) (Span) 1 _).at_ ρ cs (x.pile,x.mass)⟩
theorem TScale.open_ {ρ:Ro} {v:Value} {x:TScale} (h:Val ρ v x):v = .agg #[.int .i64 x.pile,.int .i64 x.mass.low,.int .i64 x.mass.high]∧I64 x.pile∧I64 x.mass.low∧I64 x.mass.high:=by
 obtain ⟨cs,⟨q0,r0,f0,⟨a1,b1⟩,⟨q2,r2,f2,⟨a3,b3⟩,⟨a4,b4⟩⟩⟩,hv⟩:=h
 subst f0
 subst f2
 subst a1
 subst a3
 subst a4
 exact ⟨hv,b1,b3,b4⟩
theorem TScale.shut {ρ:Ro} {x:TScale} (h0:I64 x.pile) (h1:I64 x.mass.low) (h2:I64 x.mass.high):Val ρ (.agg #[.int .i64 x.pile,.int .i64 x.mass.low,.int .i64 x.mass.high]) x:=⟨[.int .i64 x.pile,.int .i64 x.mass.low,.int .i64 x.mass.high],⟨[.int .i64 x.pile],([.int .i64 x.mass.low] ++ [.int .i64 x.mass.high]),rfl,⟨rfl,h0⟩,⟨[.int .i64 x.mass.low],[.int .i64 x.mass.high],rfl,⟨rfl,h1⟩,⟨rfl,h2⟩⟩⟩,rfl⟩
structure TBook where
 hands:List ByteArray
 piles:List ByteArray
 steps:List TStep
 scales:List TScale
deriving DecidableEq
instance:Dat TBook:=.iso fun x=>(x.hands,(x.piles,(x.steps,x.scales)))
theorem TBook.f_hands:Fld TBook (List ByteArray) 0 TBook.hands:=⟨fun ρ cs x=>(Fld.fst:Fld ((List ByteArray) × (List ByteArray) × (List TStep) × (List TScale)) (List ByteArray) 0 _).at_ ρ cs (x.hands,(x.piles,(x.steps,x.scales)))⟩
theorem TBook.f_piles:Fld TBook (List ByteArray) 1 TBook.piles:=⟨fun ρ cs x=>((.snd Fld.fst):Fld ((List ByteArray) × (List ByteArray) × (List TStep) × (List TScale)) (List ByteArray) 1 _).at_ ρ cs (x.hands,(x.piles,(x.steps,x.scales)))⟩
theorem TBook.f_steps:Fld TBook (List TStep) 2 TBook.steps:=⟨fun ρ cs x=>((.snd (.snd Fld.fst)):Fld ((List ByteArray) × (List ByteArray) × (List TStep) × (List TScale)) (List TStep) 2 _).at_ ρ cs (x.hands,(x.piles,(x.steps,x.scales)))⟩
theorem TBook.f_scales:Fld TBook (List TScale) 3 TBook.scales:=⟨fun ρ cs x=>((.snd (.snd (.snd Fld.self))):Fld ((List ByteArray) × (List ByteArray) × (List TStep) × (List TScale)) (List TScale) 3 _).at_ ρ cs (x.hands,(x.piles,(x.steps,x.scales)))⟩
theorem TBook.open_ {ρ:Ro} {v:Value} {x:TBook} (h:Val ρ v x):∃ c0 c1 c2 c3,v = .agg #[c0,c1,c2,c3]∧Val ρ c0 x.hands∧Val ρ c1 x.piles∧Val ρ c2 x.steps∧Val ρ c3 x.scales:=by
 obtain ⟨cs,⟨q0,r0,f0,⟨w1,a1,b1⟩,⟨q2,r2,f2,⟨w3,a3,b3⟩,⟨q4,r4,f4,⟨w5,a5,b5⟩,⟨w6,a6,b6⟩⟩⟩⟩,hv⟩:=h
 subst f0
 subst f2
 subst f4
 subst a1
 subst a3
 subst a5
 subst a6
 exact ⟨w1,w3,w5,w6,hv,Cs.2 b1,Cs.2 b3,Cs.2 b5,Cs.2 b6⟩
theorem TBook.shut {ρ:Ro} {x:TBook} {c0 c1 c2 c3:Value} (h0:Val ρ c0 x.hands) (h1:Val ρ c1 x.piles) (h2:Val ρ c2 x.steps) (h3:Val ρ c3 x.scales):Val ρ (.agg #[c0,c1,c2,c3]) x:=⟨[c0,c1,c2,c3],⟨[c0],([c1] ++ ([c2] ++ [c3])),rfl,⟨c0,rfl,Cs.1 h0⟩,⟨[c1],([c2] ++ [c3]),rfl,⟨c1,rfl,Cs.1 h1⟩,⟨[c2],[c3],rfl,⟨c2,rfl,Cs.1 h2⟩,⟨c3,rfl,Cs.1 h3⟩⟩⟩⟩,rfl⟩
structure Bnd where
 low:Int
 high:Int
deriving DecidableEq
instance:Dat Bnd:=.iso fun x=>(x.low,x.high)
theorem Bnd.f_low:Fld Bnd (Int) 0 Bnd.low:=⟨fun ρ cs x=>(Fld.fst:Fld ((Int) × (Int)) (Int) 0 _).at_ ρ cs (x.low,x.high)⟩
theorem Bnd.f_high:Fld Bnd (Int) 1 Bnd.high:=⟨fun ρ cs x=>((.snd Fld.self):Fld ((Int) × (Int)) (Int) 1 _).at_ ρ cs (x.low,x.high)⟩
theorem Bnd.open_ {ρ:Ro} {v:Value} {x:Bnd} (h:Val ρ v x):v = .agg #[.int .i64 x.low,.int .i64 x.high]∧I64 x.low∧I64 x.high:=by
 obtain ⟨cs,⟨q0,r0,f0,⟨a1,b1⟩,⟨a2,b2⟩⟩,hv⟩:=h
 subst f0
 subst a1
 subst a2
 exact ⟨hv,b1,b2⟩
theorem Bnd.shut {ρ:Ro} {x:Bnd} (h0:I64 x.low) (h1:I64 x.high):Val ρ (.agg #[.int .i64 x.low,.int .i64 x.high]) x:=⟨[.int .i64 x.low,.int .i64 x.high],⟨[.int .i64 x.low],[.int .i64 x.high],rfl,⟨rfl,h0⟩,⟨rfl,h1⟩⟩,rfl⟩
structure Strm where
 b:Bnd
 from_:Int
 to_:Int
deriving DecidableEq
instance:Dat Strm:=.iso fun x=>(x.b,(x.from_,x.to_))
theorem Strm.f_b:Fld Strm (Bnd) 0 Strm.b:=⟨fun ρ cs x=>(Fld.fst:Fld ((Bnd) × (Int) × (Int)) (Bnd) 0 _).at_ ρ cs (x.b,(x.from_,x.to_))⟩
theorem Strm.f_from_:Fld Strm (Int) 2 Strm.from_:=⟨fun ρ cs x=>((.snd Fld.fst):Fld ((Bnd) × (Int) × (Int)) (Int) 2 _).at_ ρ cs (x.b,(x.from_,x.to_))⟩
theorem Strm.f_to_:Fld Strm (Int) 3 Strm.to_:=⟨fun ρ cs x=>((.snd (.snd Fld.self)):Fld ((Bnd) × (Int) × (Int)) (Int) 3 _).at_ ρ cs (x.b,(x.from_,x.to_))⟩
theorem Strm.open_ {ρ:Ro} {v:Value} {x:Strm} (h:Val ρ v x):v = .agg #[.int .i64 x.b.low,.int .i64 x.b.high,.int .i64 x.from_,.int .i64 x.to_]∧I64 x.b.low∧I64 x.b.high∧I64 x.from_∧I64 x.to_:=by
 obtain ⟨cs,⟨q0,r0,f0,⟨q1,r1,f1,⟨a2,b2⟩,⟨a3,b3⟩⟩,⟨q4,r4,f4,⟨a5,b5⟩,⟨a6,b6⟩⟩⟩,hv⟩:=h
 subst f1
 subst f0
 subst f4
 subst a2
 subst a3
 subst a5
 subst a6
 exact ⟨hv,b2,b3,b5,b6⟩
theorem Strm.shut {ρ:Ro} {x:Strm} (h0:I64 x.b.low) (h1:I64 x.b.high) (h2:I64 x.from_) (h3:I64 x.to_):Val ρ (.agg #[.int .i64 x.b.low,.int .i64 x.b.high,.int .i64 x.from_,.int .i64 x.to_]) x:=⟨[.int .i64 x.b.low,.int .i64 x.b.high,.int .i64 x.from_,.int .i64 x.to_],⟨([.int .i64 x.b.low] ++ [.int .i64 x.b.high]),([.int .i64 x.from_] ++ [.int .i64 x.to_]),rfl,⟨[.int .i64 x.b.low],[.int .i64 x.b.high],rfl,⟨rfl,h0⟩,⟨rfl,h1⟩⟩,⟨[.int .i64 x.from_],[.int .i64 x.to_],rfl,⟨rfl,h2⟩,⟨rfl,h3⟩⟩⟩,rfl⟩
structure Web where
 streams:List Strm
 steps:Int
 nodes:Int
deriving DecidableEq
instance:Dat Web:=.iso fun x=>(x.streams,(x.steps,x.nodes))
theorem Web.f_streams:Fld Web (List Strm) 0 Web.streams:=⟨fun ρ cs x=>(Fld.fst:Fld ((List Strm) × (Int) × (Int)) (List Strm) 0 _).at_ ρ cs (x.streams,(x.steps,x.nodes))⟩
theorem Web.f_steps:Fld Web (Int) 1 Web.steps:=⟨fun ρ cs x=>((.snd Fld.fst):Fld ((List Strm) × (Int) × (Int)) (Int) 1 _).at_ ρ cs (x.streams,(x.steps,x.nodes))⟩
theorem Web.f_nodes:Fld Web (Int) 2 Web.nodes:=⟨fun ρ cs x=>((.snd (.snd Fld.self)):Fld ((List Strm) × (Int) × (Int)) (Int) 2 _).at_ ρ cs (x.streams,(x.steps,x.nodes))⟩
theorem Web.open_ {ρ:Ro} {v:Value} {x:Web} (h:Val ρ v x):∃ c0,v = .agg #[c0,.int .i64 x.steps,.int .i64 x.nodes]∧Val ρ c0 x.streams∧I64 x.steps∧I64 x.nodes:=by
 obtain ⟨cs,⟨q0,r0,f0,⟨w1,a1,b1⟩,⟨q2,r2,f2,⟨a3,b3⟩,⟨a4,b4⟩⟩⟩,hv⟩:=h
 subst f0
 subst f2
 subst a1
 subst a3
 subst a4
 exact ⟨w1,hv,Cs.2 b1,b3,b4⟩
theorem Web.shut {ρ:Ro} {x:Web} {c0:Value} (h0:Val ρ c0 x.streams) (h1:I64 x.steps) (h2:I64 x.nodes):Val ρ (.agg #[c0,.int .i64 x.steps,.int .i64 x.nodes]) x:=⟨[c0,.int .i64 x.steps,.int .i64 x.nodes],⟨[c0],([.int .i64 x.steps] ++ [.int .i64 x.nodes]),rfl,⟨c0,rfl,Cs.1 h0⟩,⟨[.int .i64 x.steps],[.int .i64 x.nodes],rfl,⟨rfl,h1⟩,⟨rfl,h2⟩⟩⟩,rfl⟩
theorem Atb:GoTy Tryz.prog 176 TStep:=⟨⟨_,Bht,rfl⟩,⟨_,Ab Bob,rfl⟩⟩
theorem Atn:GoTy Tryz.prog 180 TScale:=⟨⟨_,Bjb,rfl⟩,⟨_,Ab Bkb,rfl⟩⟩
theorem Ath:GoTy Tryz.prog 74 TBook:=⟨⟨_,Bhr,rfl⟩,⟨_,Ab Blo,rfl⟩⟩
theorem Aus:GoTy Tryz.prog 282 Bnd:=⟨⟨_,Big,rfl⟩,⟨_,Ab Bjg,rfl⟩⟩
theorem Asz:GoTy Tryz.prog 286 Strm:=⟨⟨_,Bjd,rfl⟩,⟨_,Ab Bld,rfl⟩⟩
theorem Mx:GoTy Tryz.prog 71 (List TStep):=⟨⟨_,Bih,rfl⟩,⟨_,Ab Tryz.typeInfo71,rfl⟩⟩
theorem Asy:GoTy Tryz.prog 72 (List TScale):=⟨⟨_,Bib,rfl⟩,⟨_,Ab Bjw,rfl⟩⟩
theorem Aur:GoTy Tryz.prog 277 (List Strm):=⟨⟨_,Bhx,rfl⟩,⟨_,Ab Bjm,rfl⟩⟩
def Bab:List Value:=[z0,nS,nS,z0,z0,z0,z0]
theorem Ayd:Fw Tryz.prog 176 (.agg #[z0,nS,nS,z0,z0,z0,z0]):=⟨_,Ab Bob,rfl⟩
def Bfl:List Value:=[z0,z0,z0]
theorem Avw:Fw Tryz.prog 180 (.agg #[z0,z0,z0]):=⟨_,Ab Bkb,rfl⟩
def Bhg:List Value:=[nS,nS,nS,nS]
theorem Bcn:Fw Tryz.prog 74 (.agg #[nS,nS,nS,nS]):=⟨_,Ab Blo,rfl⟩
def Bcm:List Value:=[z0,z0]
theorem Avx:Fw Tryz.prog 282 (.agg #[z0,z0]):=⟨_,Ab Bjg,rfl⟩
def Aub:List Value:=[z0,z0,z0,z0]
theorem Ati:Fw Tryz.prog 286 (.agg #[z0,z0,z0,z0]):=⟨_,Ab Bld,rfl⟩
def Bhh:List Value:=[nS,z0,z0]
theorem Bhi:Fw Tryz.prog 279 (.agg #[nS,z0,z0]):=⟨_,Ab Tryz.typeInfo279,rfl⟩
theorem Asl {α β:Type} [Dat α] [Dat β] {ρ:Ro} {c1 c2:List Value} {a:α} {b:β} (h1:Dat.rep ρ c1 a) (h2:Dat.rep ρ c2 b):Dat.rep ρ (c1 ++ c2) (a,b):=⟨c1,c2,rfl,h1,h2⟩
theorem Asv {ρ:Ro} {a:Int} (h:I64 a):Dat.rep ρ [.int .i64 a] a:=⟨rfl,h⟩
theorem Auq {α:Type} [Dat α] {ρ:Ro} {c:Value} {a:List α} (h:Val ρ c a):Dat.rep ρ [c] a:=⟨c,rfl,Cs.1 h⟩
theorem Blu {ρ:Ro} {c:Value} {a:MapRef} (h:Val ρ c a):Dat.rep ρ [c] a:=by
 obtain ⟨cs,h1,h2⟩:=h
 have h3:cs = [.map (some a.r)]:=h1
 subst h3; subst h2; exact h1
structure WTurn where
 holder:Int
 hours:Int
deriving DecidableEq
instance:Dat WTurn:=.iso fun x=>(x.holder,x.hours)
theorem WTurn.open_ {ρ:Ro} {v:Value} {x:WTurn} (h:Val ρ v x):v = .agg #[.int .i64 x.holder,.int .i64 x.hours]∧I64 x.holder∧I64 x.hours:=by
 obtain ⟨cs,⟨q0,r0,f0,⟨a1,b1⟩,⟨a2,b2⟩⟩,hv⟩:=h
 subst f0
 subst a1
 subst a2
 exact ⟨hv,b1,b2⟩
theorem WTurn.shut {ρ:Ro} {x:WTurn} (h0:I64 x.holder) (h1:I64 x.hours):Val ρ (.agg #[.int .i64 x.holder,.int .i64 x.hours]) x:=⟨[.int .i64 x.holder,.int .i64 x.hours],⟨[.int .i64 x.holder],[.int .i64 x.hours],rfl,⟨rfl,h0⟩,⟨rfl,h1⟩⟩,rfl⟩
structure WSwap where
 cycle:Int
 a:Int
 b:Int
deriving DecidableEq
instance:Dat WSwap:=.iso fun x=>(x.cycle,(x.a,x.b))
theorem WSwap.f_b:Fld WSwap (Int) 2 WSwap.b:=⟨fun ρ cs x=>((.snd (.snd Fld.self)):Fld ((Int) × (Int) × (Int)) (Int) 2 _).at_ ρ cs (x.cycle,(x.a,x.b))⟩
theorem WSwap.open_ {ρ:Ro} {v:Value} {x:WSwap} (h:Val ρ v x):v = .agg #[.int .i64 x.cycle,.int .i64 x.a,.int .i64 x.b]∧I64 x.cycle∧I64 x.a∧I64 x.b:=by
 obtain ⟨cs,⟨q0,r0,f0,⟨a1,b1⟩,⟨q2,r2,f2,⟨a3,b3⟩,⟨a4,b4⟩⟩⟩,hv⟩:=h
 subst f0
 subst f2
 subst a1
 subst a3
 subst a4
 exact ⟨hv,b1,b3,b4⟩
theorem WSwap.shut {ρ:Ro} {x:WSwap} (h0:I64 x.cycle) (h1:I64 x.a) (h2:I64 x.b):Val ρ (.agg #[.int .i64 x.cycle,.int .i64 x.a,.int .i64 x.b]) x:=⟨[.int .i64 x.cycle,.int .i64 x.a,.int .i64 x.b],⟨[.int .i64 x.cycle],([.int .i64 x.a] ++ [.int .i64 x.b]),rfl,⟨rfl,h0⟩,⟨[.int .i64 x.a],[.int .i64 x.b],rfl,⟨rfl,h1⟩,⟨rfl,h2⟩⟩⟩,rfl⟩
structure WLoan where
 cycle:Int
 turn:Int
 to:Int
deriving DecidableEq
instance:Dat WLoan:=.iso fun x=>(x.cycle,(x.turn,x.to))
theorem WLoan.open_ {ρ:Ro} {v:Value} {x:WLoan} (h:Val ρ v x):v = .agg #[.int .i64 x.cycle,.int .i64 x.turn,.int .i64 x.to]∧I64 x.cycle∧I64 x.turn∧I64 x.to:=by
 obtain ⟨cs,⟨q0,r0,f0,⟨a1,b1⟩,⟨q2,r2,f2,⟨a3,b3⟩,⟨a4,b4⟩⟩⟩,hv⟩:=h
 subst f0
 subst f2
 subst a1
 subst a3
 subst a4
 exact ⟨hv,b1,b3,b4⟩
theorem WLoan.shut {ρ:Ro} {x:WLoan} (h0:I64 x.cycle) (h1:I64 x.turn) (h2:I64 x.to):Val ρ (.agg #[.int .i64 x.cycle,.int .i64 x.turn,.int .i64 x.to]) x:=⟨[.int .i64 x.cycle,.int .i64 x.turn,.int .i64 x.to],⟨[.int .i64 x.cycle],([.int .i64 x.turn] ++ [.int .i64 x.to]),rfl,⟨rfl,h0⟩,⟨[.int .i64 x.turn],[.int .i64 x.to],rfl,⟨rfl,h1⟩,⟨rfl,h2⟩⟩⟩,rfl⟩
structure WPlot where
 name:ByteArray
 holder:Int
 far:Int
 needs:Span
 worth:Int
deriving DecidableEq
instance:Dat WPlot:=.iso fun x=>(x.name,(x.holder,(x.far,(x.needs,x.worth))))
theorem WPlot.f_name:Fld WPlot (ByteArray) 0 WPlot.name:=⟨fun ρ cs x=>(Fld.fst:Fld ((ByteArray) × (Int) × (Int) × (Span) × (Int)) (ByteArray) 0 _).at_ ρ cs (x.name,(x.holder,(x.far,(x.needs,x.worth))))⟩
theorem WPlot.open_ {ρ:Ro} {v:Value} {x:WPlot} (h:Val ρ v x):v = .agg #[.string x.name,.int .i64 x.holder,.int .i64 x.far,.int .i64 x.needs.low,.int .i64 x.needs.high,.int .i64 x.worth]∧x.name.size < 2 ^ 60∧I64 x.holder∧I64 x.far∧I64 x.needs.low∧I64 x.needs.high∧I64 x.worth:=by
 obtain ⟨cs,⟨q0,r0,f0,⟨a1,b1⟩,⟨q2,r2,f2,⟨a3,b3⟩,⟨q4,r4,f4,⟨a5,b5⟩,⟨q6,r6,f6,⟨q7,r7,f7,⟨a8,b8⟩,⟨a9,b9⟩⟩,⟨a10,b10⟩⟩⟩⟩⟩,hv⟩:=h
 subst f0
 subst f2
 subst f4
 subst f7
 subst f6
 subst a1
 subst a3
 subst a5
 subst a8
 subst a9
 subst a10
 exact ⟨hv,b1,b3,b5,b8,b9,b10⟩
theorem WPlot.shut {ρ:Ro} {x:WPlot} (h0:x.name.size < 2 ^ 60) (h1:I64 x.holder) (h2:I64 x.far) (h3:I64 x.needs.low) (h4:I64 x.needs.high) (h5:I64 x.worth):Val ρ (.agg #[.string x.name,.int .i64 x.holder,.int .i64 x.far,.int .i64 x.needs.low,.int .i64 x.needs.high,.int .i64 x.worth]) x:=⟨[.string x.name,.int .i64 x.holder,.int .i64 x.far,.int .i64 x.needs.low,.int .i64 x.needs.high,.int .i64 x.worth],⟨[.string x.name],([.int .i64 x.holder] ++ ([.int .i64 x.far] ++ (([.int .i64 x.needs.low] ++ [.int .i64 x.needs.high]) ++ [.int .i64 x.worth]))),rfl,⟨rfl,h0⟩,⟨[.int .i64 x.holder],([.int .i64 x.far] ++ (([.int .i64 x.needs.low] ++ [.int .i64 x.needs.high]) ++ [.int .i64 x.worth])),rfl,⟨rfl,h1⟩,⟨[.int .i64 x.far],(([.int .i64 x.needs.low] ++ [.int .i64 x.needs.high]) ++ [.int .i64 x.worth]),rfl,⟨rfl,h2⟩,⟨([.int .i64 x.needs.low] ++ [.int .i64 x.needs.high]),[.int .i64 x.worth],rfl,⟨[.int .i64 x.needs.low],[.int .i64 x.needs.high],rfl,⟨rfl,h3⟩,⟨rfl,h4⟩⟩,⟨rfl,h5⟩⟩⟩⟩⟩,rfl⟩
structure Ditch where
 holders:List ByteArray
 turns:List WTurn
 begin_:Int
 week:Int
 restFrom:Int
 restLong:Int
 feasts:List Span
 swaps:List WSwap
 loans:List WLoan
 flow:Span
 loss:Span
 plots:List WPlot
deriving DecidableEq
instance:Dat Ditch:=.iso fun x=>(x.holders,(x.turns,(x.begin_,(x.week,(x.restFrom,(x.restLong,(x.feasts,(x.swaps,(x.loans,(x.flow,(x.loss,x.plots)))))))))))
theorem Ditch.f_loss:Fld Ditch (Span) 11 Ditch.loss:=⟨fun ρ cs x=>((.snd (.snd (.snd (.snd (.snd (.snd (.snd (.snd (.snd (.snd Fld.fst)))))))))):Fld ((List ByteArray) × (List WTurn) × (Int) × (Int) × (Int) × (Int) × (List Span) × (List WSwap) × (List WLoan) × (Span) × (Span) × (List WPlot)) (Span) 11 _).at_ ρ cs (x.holders,(x.turns,(x.begin_,(x.week,(x.restFrom,(x.restLong,(x.feasts,(x.swaps,(x.loans,(x.flow,(x.loss,x.plots)))))))))))⟩
theorem Ditch.open_ {ρ:Ro} {v:Value} {x:Ditch} (h:Val ρ v x):∃ c0 c1 c2 c3 c4 c5,v = .agg #[c0,c1,.int .i64 x.begin_,.int .i64 x.week,.int .i64 x.restFrom,.int .i64 x.restLong,c2,c3,c4,.int .i64 x.flow.low,.int .i64 x.flow.high,.int .i64 x.loss.low,.int .i64 x.loss.high,c5]∧Val ρ c0 x.holders∧Val ρ c1 x.turns∧I64 x.begin_∧I64 x.week∧I64 x.restFrom∧I64 x.restLong∧Val ρ c2 x.feasts∧Val ρ c3 x.swaps∧Val ρ c4 x.loans∧I64 x.flow.low∧I64 x.flow.high∧I64 x.loss.low∧I64 x.loss.high∧Val ρ c5 x.plots:=by
 obtain ⟨cs,⟨q0,r0,f0,⟨w1,a1,b1⟩,⟨q2,r2,f2,⟨w3,a3,b3⟩,⟨q4,r4,f4,⟨a5,b5⟩,⟨q6,r6,f6,⟨a7,b7⟩,⟨q8,r8,f8,⟨a9,b9⟩,⟨q10,r10,f10,⟨a11,b11⟩,⟨q12,r12,f12,⟨w13,a13,b13⟩,⟨q14,r14,f14,⟨w15,a15,b15⟩,⟨q16,r16,f16,⟨w17,a17,b17⟩,⟨q18,r18,f18,⟨q19,r19,f19,⟨a20,b20⟩,⟨a21,b21⟩⟩,⟨q22,r22,f22,⟨q23,r23,f23,⟨a24,b24⟩,⟨a25,b25⟩⟩,⟨w26,a26,b26⟩⟩⟩⟩⟩⟩⟩⟩⟩⟩⟩⟩,hv⟩:=h
 subst f0
 subst f2
 subst f4
 subst f6
 subst f8
 subst f10
 subst f12
 subst f14
 subst f16
 subst f19
 subst f18
 subst f23
 subst f22
 subst a1
 subst a3
 subst a5
 subst a7
 subst a9
 subst a11
 subst a13
 subst a15
 subst a17
 subst a20
 subst a21
 subst a24
 subst a25
 subst a26
 exact ⟨w1,w3,w13,w15,w17,w26,hv,Cs.2 b1,Cs.2 b3,b5,b7,b9,b11,Cs.2 b13,Cs.2 b15,Cs.2 b17,b20,b21,b24,b25,Cs.2 b26⟩
theorem Ditch.shut {ρ:Ro} {x:Ditch} {c0 c1 c2 c3 c4 c5:Value} (h0:Val ρ c0 x.holders) (h1:Val ρ c1 x.turns) (h2:I64 x.begin_) (h3:I64 x.week) (h4:I64 x.restFrom) (h5:I64 x.restLong) (h6:Val ρ c2 x.feasts) (h7:Val ρ c3 x.swaps) (h8:Val ρ c4 x.loans) (h9:I64 x.flow.low) (h10:I64 x.flow.high) (h11:I64 x.loss.low) (h12:I64 x.loss.high) (h13:Val ρ c5 x.plots):Val ρ (.agg #[c0,c1,.int .i64 x.begin_,.int .i64 x.week,.int .i64 x.restFrom,.int .i64 x.restLong,c2,c3,c4,.int .i64 x.flow.low,.int .i64 x.flow.high,.int .i64 x.loss.low,.int .i64 x.loss.high,c5]) x:=⟨_,(show Dat.rep ρ _ (x.holders,(x.turns,(x.begin_,(x.week,(x.restFrom,(x.restLong,(x.feasts,(x.swaps,(x.loans,(x.flow,(x.loss,x.plots))))))))))) from (Asl (Auq h0) (Asl (Auq h1) (Asl (Asv h2) (Asl (Asv h3) (Asl (Asv h4) (Asl (Asv h5) (Asl (Auq h6) (Asl (Auq h7) (Asl (Auq h8) (Asl (show Dat.rep ρ _ x.flow from (Asl (Asv h9) (Asv h10))) (Asl (show Dat.rep ρ _ x.loss from (Asl (Asv h11) (Asv h12))) (Auq h13))))))))))))),rfl⟩
structure WOpen where
 holder:Int
 from_:Int
 till:Int
deriving DecidableEq
instance:Dat WOpen:=.iso fun x=>(x.holder,(x.from_,x.till))
theorem WOpen.f_from_:Fld WOpen (Int) 1 WOpen.from_:=⟨fun ρ cs x=>((.snd Fld.fst):Fld ((Int) × (Int) × (Int)) (Int) 1 _).at_ ρ cs (x.holder,(x.from_,x.till))⟩
theorem WOpen.open_ {ρ:Ro} {v:Value} {x:WOpen} (h:Val ρ v x):v = .agg #[.int .i64 x.holder,.int .i64 x.from_,.int .i64 x.till]∧I64 x.holder∧I64 x.from_∧I64 x.till:=by
 obtain ⟨cs,⟨q0,r0,f0,⟨a1,b1⟩,⟨q2,r2,f2,⟨a3,b3⟩,⟨a4,b4⟩⟩⟩,hv⟩:=h
 subst f0
 subst f2
 subst a1
 subst a3
 subst a4
 exact ⟨hv,b1,b3,b4⟩
theorem WOpen.shut {ρ:Ro} {x:WOpen} (h0:I64 x.holder) (h1:I64 x.from_) (h2:I64 x.till):Val ρ (.agg #[.int .i64 x.holder,.int .i64 x.from_,.int .i64 x.till]) x:=⟨[.int .i64 x.holder,.int .i64 x.from_,.int .i64 x.till],⟨[.int .i64 x.holder],([.int .i64 x.from_] ++ [.int .i64 x.till]),rfl,⟨rfl,h0⟩,⟨[.int .i64 x.from_],[.int .i64 x.till],rfl,⟨rfl,h1⟩,⟨rfl,h2⟩⟩⟩,rfl⟩
structure WLog where
 clock:Span
 openings:List WOpen
deriving DecidableEq
instance:Dat WLog:=.iso fun x=>(x.clock,x.openings)
theorem WLog.open_ {ρ:Ro} {v:Value} {x:WLog} (h:Val ρ v x):∃ c0,v = .agg #[.int .i64 x.clock.low,.int .i64 x.clock.high,c0]∧I64 x.clock.low∧I64 x.clock.high∧Val ρ c0 x.openings:=by
 obtain ⟨cs,⟨q0,r0,f0,⟨q1,r1,f1,⟨a2,b2⟩,⟨a3,b3⟩⟩,⟨w4,a4,b4⟩⟩,hv⟩:=h
 subst f1
 subst f0
 subst a2
 subst a3
 subst a4
 exact ⟨w4,hv,b2,b3,Cs.2 b4⟩
theorem WLog.shut {ρ:Ro} {x:WLog} {c0:Value} (h0:I64 x.clock.low) (h1:I64 x.clock.high) (h2:Val ρ c0 x.openings):Val ρ (.agg #[.int .i64 x.clock.low,.int .i64 x.clock.high,c0]) x:=⟨[.int .i64 x.clock.low,.int .i64 x.clock.high,c0],⟨([.int .i64 x.clock.low] ++ [.int .i64 x.clock.high]),[c0],rfl,⟨[.int .i64 x.clock.low],[.int .i64 x.clock.high],rfl,⟨rfl,h0⟩,⟨rfl,h1⟩⟩,⟨c0,rfl,Cs.1 h2⟩⟩,rfl⟩
structure DitchP where
 d:Ditch
deriving DecidableEq
instance:Dat DitchP:=.iso fun x=>x.d
theorem DitchP.open_ {ρ:Ro} {v:Value} {x:DitchP} (h:Val ρ v x):∃ c0 c1 c2 c3 c4 c5,v = .agg #[c0,c1,.int .i64 x.d.begin_,.int .i64 x.d.week,.int .i64 x.d.restFrom,.int .i64 x.d.restLong,c2,c3,c4,.int .i64 x.d.flow.low,.int .i64 x.d.flow.high,.int .i64 x.d.loss.low,.int .i64 x.d.loss.high,c5]∧Val ρ c0 x.d.holders∧Val ρ c1 x.d.turns∧I64 x.d.begin_∧I64 x.d.week∧I64 x.d.restFrom∧I64 x.d.restLong∧Val ρ c2 x.d.feasts∧Val ρ c3 x.d.swaps∧Val ρ c4 x.d.loans∧I64 x.d.flow.low∧I64 x.d.flow.high∧I64 x.d.loss.low∧I64 x.d.loss.high∧Val ρ c5 x.d.plots:=by
 obtain ⟨cs,⟨q0,r0,f0,⟨w1,a1,b1⟩,⟨q2,r2,f2,⟨w3,a3,b3⟩,⟨q4,r4,f4,⟨a5,b5⟩,⟨q6,r6,f6,⟨a7,b7⟩,⟨q8,r8,f8,⟨a9,b9⟩,⟨q10,r10,f10,⟨a11,b11⟩,⟨q12,r12,f12,⟨w13,a13,b13⟩,⟨q14,r14,f14,⟨w15,a15,b15⟩,⟨q16,r16,f16,⟨w17,a17,b17⟩,⟨q18,r18,f18,⟨q19,r19,f19,⟨a20,b20⟩,⟨a21,b21⟩⟩,⟨q22,r22,f22,⟨q23,r23,f23,⟨a24,b24⟩,⟨a25,b25⟩⟩,⟨w26,a26,b26⟩⟩⟩⟩⟩⟩⟩⟩⟩⟩⟩⟩,hv⟩:=h
 subst f0
 subst f2
 subst f4
 subst f6
 subst f8
 subst f10
 subst f12
 subst f14
 subst f16
 subst f19
 subst f18
 subst f23
 subst f22
 subst a1
 subst a3
 subst a5
 subst a7
 subst a9
 subst a11
 subst a13
 subst a15
 subst a17
 subst a20
 subst a21
 subst a24
 subst a25
 subst a26
 exact ⟨w1,w3,w13,w15,w17,w26,hv,Cs.2 b1,Cs.2 b3,b5,b7,b9,b11,Cs.2 b13,Cs.2 b15,Cs.2 b17,b20,b21,b24,b25,Cs.2 b26⟩
theorem DitchP.shut {ρ:Ro} {x:DitchP} {c0 c1 c2 c3 c4 c5:Value} (h0:Val ρ c0 x.d.holders) (h1:Val ρ c1 x.d.turns) (h2:I64 x.d.begin_) (h3:I64 x.d.week) (h4:I64 x.d.restFrom) (h5:I64 x.d.restLong) (h6:Val ρ c2 x.d.feasts) (h7:Val ρ c3 x.d.swaps) (h8:Val ρ c4 x.d.loans) (h9:I64 x.d.flow.low) (h10:I64 x.d.flow.high) (h11:I64 x.d.loss.low) (h12:I64 x.d.loss.high) (h13:Val ρ c5 x.d.plots):Val ρ (.agg #[c0,c1,.int .i64 x.d.begin_,.int .i64 x.d.week,.int .i64 x.d.restFrom,.int .i64 x.d.restLong,c2,c3,c4,.int .i64 x.d.flow.low,.int .i64 x.d.flow.high,.int .i64 x.d.loss.low,.int .i64 x.d.loss.high,c5]) x:=⟨_,(show Dat.rep ρ _ x.d from (show Dat.rep ρ _ x.d from (Asl (Auq h0) (Asl (Auq h1) (Asl (Asv h2) (Asl (Asv h3) (Asl (Asv h4) (Asl (Asv h5) (Asl (Auq h6) (Asl (Auq h7) (Asl (Auq h8) (Asl (show Dat.rep ρ _ x.d.flow from (Asl (Asv h9) (Asv h10))) (Asl (show Dat.rep ρ _ x.d.loss from (Asl (Asv h11) (Asv h12))) (Auq h13)))))))))))))),rfl⟩
structure Ends where
 e0:Int
 e1:Int
 e2:Int
 e3:Int
 e4:Int
 e5:Int
 e6:Int
 e7:Int
 e8:Int
 e9:Int
 e10:Int
 e11:Int
deriving DecidableEq
instance:Dat Ends:=.iso fun x=>(x.e0,(x.e1,(x.e2,(x.e3,(x.e4,(x.e5,(x.e6,(x.e7,(x.e8,(x.e9,(x.e10,x.e11)))))))))))
theorem Ends.open_ {ρ:Ro} {v:Value} {x:Ends} (h:Val ρ v x):v = .agg #[.int .i64 x.e0,.int .i64 x.e1,.int .i64 x.e2,.int .i64 x.e3,.int .i64 x.e4,.int .i64 x.e5,.int .i64 x.e6,.int .i64 x.e7,.int .i64 x.e8,.int .i64 x.e9,.int .i64 x.e10,.int .i64 x.e11]∧I64 x.e0∧I64 x.e1∧I64 x.e2∧I64 x.e3∧I64 x.e4∧I64 x.e5∧I64 x.e6∧I64 x.e7∧I64 x.e8∧I64 x.e9∧I64 x.e10∧I64 x.e11:=by
 obtain ⟨cs,⟨q0,r0,f0,⟨a1,b1⟩,⟨q2,r2,f2,⟨a3,b3⟩,⟨q4,r4,f4,⟨a5,b5⟩,⟨q6,r6,f6,⟨a7,b7⟩,⟨q8,r8,f8,⟨a9,b9⟩,⟨q10,r10,f10,⟨a11,b11⟩,⟨q12,r12,f12,⟨a13,b13⟩,⟨q14,r14,f14,⟨a15,b15⟩,⟨q16,r16,f16,⟨a17,b17⟩,⟨q18,r18,f18,⟨a19,b19⟩,⟨q20,r20,f20,⟨a21,b21⟩,⟨a22,b22⟩⟩⟩⟩⟩⟩⟩⟩⟩⟩⟩⟩,hv⟩:=h
 subst f0
 subst f2
 subst f4
 subst f6
 subst f8
 subst f10
 subst f12
 subst f14
 subst f16
 subst f18
 subst f20
 subst a1
 subst a3
 subst a5
 subst a7
 subst a9
 subst a11
 subst a13
 subst a15
 subst a17
 subst a19
 subst a21
 subst a22
 exact ⟨hv,b1,b3,b5,b7,b9,b11,b13,b15,b17,b19,b21,b22⟩
theorem Ends.shut {ρ:Ro} {x:Ends} (h0:I64 x.e0) (h1:I64 x.e1) (h2:I64 x.e2) (h3:I64 x.e3) (h4:I64 x.e4) (h5:I64 x.e5) (h6:I64 x.e6) (h7:I64 x.e7) (h8:I64 x.e8) (h9:I64 x.e9) (h10:I64 x.e10) (h11:I64 x.e11):Val ρ (.agg #[.int .i64 x.e0,.int .i64 x.e1,.int .i64 x.e2,.int .i64 x.e3,.int .i64 x.e4,.int .i64 x.e5,.int .i64 x.e6,.int .i64 x.e7,.int .i64 x.e8,.int .i64 x.e9,.int .i64 x.e10,.int .i64 x.e11]) x:=⟨_,(show Dat.rep ρ _ (x.e0,(x.e1,(x.e2,(x.e3,(x.e4,(x.e5,(x.e6,(x.e7,(x.e8,(x.e9,(x.e10,x.e11))))))))))) from (Asl (Asv h0) (Asl (Asv h1) (Asl (Asv h2) (Asl (Asv h3) (Asl (Asv h4) (Asl (Asv h5) (Asl (Asv h6) (Asl (Asv h7) (Asl (Asv h8) (Asl (Asv h9) (Asl (Asv h10) (Asv h11))))))))))))),rfl⟩
structure Water where
 ditch:DitchP
 ends:Ends
 long:Int
 usual:List Int
 others:MapRef
instance:Dat Water:=.iso fun x=>(x.ditch,(x.ends,(x.long,(x.usual,x.others))))
theorem Water.shut {ρ:Ro} {x:Water} {c0 c1 c2 c3 c4 c5 c6 c7:Value} (h0:Val ρ c0 x.ditch.d.holders) (h1:Val ρ c1 x.ditch.d.turns) (h2:I64 x.ditch.d.begin_) (h3:I64 x.ditch.d.week) (h4:I64 x.ditch.d.restFrom) (h5:I64 x.ditch.d.restLong) (h6:Val ρ c2 x.ditch.d.feasts) (h7:Val ρ c3 x.ditch.d.swaps) (h8:Val ρ c4 x.ditch.d.loans) (h9:I64 x.ditch.d.flow.low) (h10:I64 x.ditch.d.flow.high) (h11:I64 x.ditch.d.loss.low) (h12:I64 x.ditch.d.loss.high) (h13:Val ρ c5 x.ditch.d.plots) (h14:I64 x.ends.e0) (h15:I64 x.ends.e1) (h16:I64 x.ends.e2) (h17:I64 x.ends.e3) (h18:I64 x.ends.e4) (h19:I64 x.ends.e5) (h20:I64 x.ends.e6) (h21:I64 x.ends.e7) (h22:I64 x.ends.e8) (h23:I64 x.ends.e9) (h24:I64 x.ends.e10) (h25:I64 x.ends.e11) (h26:I64 x.long) (h27:Val ρ c6 x.usual) (h28:Val ρ c7 x.others):Val ρ (.agg #[c0,c1,.int .i64 x.ditch.d.begin_,.int .i64 x.ditch.d.week,.int .i64 x.ditch.d.restFrom,.int .i64 x.ditch.d.restLong,c2,c3,c4,.int .i64 x.ditch.d.flow.low,.int .i64 x.ditch.d.flow.high,.int .i64 x.ditch.d.loss.low,.int .i64 x.ditch.d.loss.high,c5,.int .i64 x.ends.e0,.int .i64 x.ends.e1,.int .i64 x.ends.e2,.int .i64 x.ends.e3,.int .i64 x.ends.e4,.int .i64 x.ends.e5,.int .i64 x.ends.e6,.int .i64 x.ends.e7,.int .i64 x.ends.e8,.int .i64 x.ends.e9,.int .i64 x.ends.e10,.int .i64 x.ends.e11,.int .i64 x.long,c6,c7]) x:=⟨_,(show Dat.rep ρ _ (x.ditch,(x.ends,(x.long,(x.usual,x.others)))) from (Asl (show Dat.rep ρ _ x.ditch from (show Dat.rep ρ _ x.ditch.d from (Asl (Auq h0) (Asl (Auq h1) (Asl (Asv h2) (Asl (Asv h3) (Asl (Asv h4) (Asl (Asv h5) (Asl (Auq h6) (Asl (Auq h7) (Asl (Auq h8) (Asl (show Dat.rep ρ _ x.ditch.d.flow from (Asl (Asv h9) (Asv h10))) (Asl (show Dat.rep ρ _ x.ditch.d.loss from (Asl (Asv h11) (Asv h12))) (Auq h13)))))))))))))) (Asl (show Dat.rep ρ _ x.ends from (Asl (Asv h14) (Asl (Asv h15) (Asl (Asv h16) (Asl (Asv h17) (Asl (Asv h18) (Asl (Asv h19) (Asl (Asv h20) (Asl (Asv h21) (Asl (Asv h22) (Asl (Asv h23) (Asl (Asv h24) (Asv h25))))))))))))) (Asl (Asv h26) (Asl (Auq h27) (Blu h28)))))),rfl⟩
def Ata (f:Nat→Int):Nat→Int
 | 0=>0
 | n + 1=>Ata f n + f n
theorem Ats {f g:Nat→Int}:∀ {n:Nat},(∀ i,i < n→f i = g i)→Ata f n = Ata g n
 | 0,_=>rfl
 | n + 1,h=>by unfold Ata; rw [Ats (n:=n) (fun i hi=>h i (by omega)),h n (by omega)]
theorem Avo {f g:Nat→Int}:∀ {n:Nat},Ata (fun i=>f i + g i) n = Ata f n + Ata g n
 | 0=>rfl
 | n + 1=>by unfold Ata; rw [Avo (n:=n)]; omega
theorem Axr {f g:Nat→Int}:∀ {n:Nat},Ata (fun i=>f i - g i) n = Ata f n - Ata g n
 | 0=>rfl
 | n + 1=>by unfold Ata; rw [Axr (n:=n)]; omega
theorem Bba {f:Nat→Int} {a:Int}:∀ {n:Nat},Ata (fun i=>a * f i) n = a * Ata f n
 | 0=>(Int.mul_zero a).symm
 | n + 1=>by unfold Ata; rw [Bba (n:=n),Int.mul_add]
theorem sumI_zero:∀ {n:Nat},Ata (fun _=>0) n = 0
 | 0=>rfl
 | n + 1=>by unfold Ata; rw [sumI_zero (n:=n)]; rfl
theorem Bbb {v:Int} {j:Nat}:∀ {n:Nat},Ata (fun i=>if j = i then v else 0) n = if j < n then v else 0
 | 0=>rfl
 | n + 1=>by
  unfold Ata
  rw [Bbb (n:=n)]
  by_cases h1:j = n
  ·rw [if_pos h1,if_neg (by omega),if_pos (by omega),Int.zero_add]
  ·rw [if_neg h1,Int.add_zero]
   by_cases h2:j < n
   ·rw [if_pos h2,if_pos (by omega)]
   ·rw [if_neg h2,if_neg (by omega)]
theorem Aza {f:Nat→Nat→Int} {m:Nat}:∀ {n:Nat},Ata (fun i=>Ata (fun j=>f i j) m) n = Ata (fun j=>Ata (fun i=>f i j) n) m
 | 0=>sumI_zero.symm
 | n + 1=>by
  show Ata _ n + Ata (fun j=>f n j) m = Ata (fun j=>Ata (fun i=>f i j) n + f n j) m
  rw [Avo,Aza (n:=n)]
def Atv (d:Ditch) (i:Nat):Int:=((d.turns.take i).map (·.hours)).sum
def Asg (d:Ditch):Int:=Atv d d.turns.length
def Asj (d:Ditch):List Int:=d.turns.map (·.holder)
abbrev Oth:=List (Int × List Int)
def Ayf (L:Oth) (c:Int):Bool:=L.any (fun z=>z.1 == c)
def Aty (d:Ditch) (L:Oth) (c:Int):Oth:=if Ayf L c then L else L ++ [(c,Asj d)]
def atO (L:Oth) (c:Int):List Int:=match L.find? (fun z=>z.1 == c) with | some z=>z.2 | none=>[]
/-- A cycle's owners,set. -/
def Awy (L:Oth) (c:Int) (l:List Int):Oth:=L.map fun z=>if z.1 = c then (z.1,l) else z
def Azb (d:Ditch) (L:Oth) (s:WSwap):Oth :=
 Awy (Aty d L s.cycle) s.cycle (((atO (Aty d L s.cycle) s.cycle).set s.a.toNat ((atO (Aty d L s.cycle) s.cycle).getD s.b.toNat 0)).set s.b.toNat ((atO (Aty d L s.cycle) s.cycle).getD s.a.toNat 0))
def Bcz (d:Ditch) (L:Oth) (s:WLoan):Oth:=Awy (Aty d L s.cycle) s.cycle ((atO (Aty d L s.cycle) s.cycle).set s.turn.toNat s.to)
def Auf (d:Ditch) (i:Nat):Oth:=(d.swaps.take i).foldl (Azb d) []
def Avi (d:Ditch) (i:Nat):Oth:=(d.loans.take i).foldl (Bcz d) (Auf d d.swaps.length)
def Awx (d:Ditch):Oth:=Avi d d.loans.length
structure StepOk (b:TBook) (i:Nat) (s:TStep):Prop where
 hand:0 ≤ s.hand∧s.hand ≤ (b.hands.length:Int) - 1
 ins:∀ (k:Nat) (p:Int),s.in_[k]? = some p→(0 ≤ p∧p ≤ (b.piles.length:Int) - 1)∧(∃ (j:Nat) (t:TStep),j < i∧b.steps[j]? = some t∧p ∈ t.out)∧(∀ (j:Nat) (t:TStep),j < i→b.steps[j]? = some t→p ∉ t.in_)∧(∀ j:Nat,j < k→s.in_[j]? ≠ some p)
 outs:∀ (k:Nat) (p:Int),s.out[k]? = some p→(0 ≤ p∧p ≤ (b.piles.length:Int) - 1)∧(∀ (j:Nat) (t:TStep),j < i→b.steps[j]? = some t→p ∉ t.out)∧(∀ j:Nat,j < k→s.out[j]? ≠ some p)
 gain:0 ≤ s.gain.low∧s.gain.low ≤ s.gain.high∧s.gain.high ≤ 1000000
 loss:0 ≤ s.loss.low∧s.loss.low ≤ s.loss.high∧s.loss.high ≤ 1000000
structure TBookOk (b:TBook):Prop where
 hands:Dd b.hands 4 = 0
 piles:Dd b.piles 12 = 0
 nsteps:b.steps.length ≤ 8
 step:∀ (i:Nat) (s:TStep),b.steps[i]? = some s→StepOk b i s
 made:∀ p:Nat,p < b.piles.length→∃ (i:Nat) (s:TStep),b.steps[i]? = some s∧(p:Int) ∈ s.out
 nscales:b.scales.length ≤ 10
 scale:∀ (i:Nat) (x:TScale),b.scales[i]? = some x→(0 ≤ x.pile∧x.pile ≤ (b.piles.length:Int) - 1)∧0 ≤ x.mass.low∧x.mass.low ≤ x.mass.high∧x.mass.high ≤ 1000000
/-- Lists without an element twice. -/
theorem Aua {l:List Int} (h:∀ (k:Nat) (p:Int),l[k]? = some p→∀ j:Nat,j < k→l[j]? ≠ some p):l.Nodup:=by
 rw [List.nodup_iff_pairwise_ne,List.pairwise_iff_getElem]
 intro i j hi hj hij he
 exact h j l[j] (List.getElem?_eq_getElem hj) i hij (by rw [List.getElem?_eq_getElem hi,he])
theorem Awu {b:TBook} (ok:TBookOk b):b.piles.length ≤ 12:=by
 have h:=ok.piles
 unfold Dd at h
 split at h
 ·omega
 ·omega
theorem Bhn {b:TBook} (ok:TBookOk b):b.hands.length ≤ 4:=by
 have h:=ok.hands
 unfold Dd at h
 split at h
 ·omega
 ·omega
def As (b:TBook) (p:Int):Nat:=b.steps.findIdx (fun s=>decide (p ∈ s.out))
def Avl (b:TBook) (p:Int):Option Nat:=b.steps.findIdx? (fun s=>decide (p ∈ s.in_))
def Ast (b:TBook) (p:Int):Nat:=(Avl b p).getD b.steps.length
theorem Bes {b:TBook} (ok:TBookOk b) {i j:Nat} {s t:TStep} {p:Int} (hi:b.steps[i]? = some s) (hj:b.steps[j]? = some t) (h1:p ∈ s.out) (h2:p ∈ t.out):i = j:=by
 obtain ⟨k1,g1⟩:=List.mem_iff_getElem?.1 h1
 obtain ⟨k2,g2⟩:=List.mem_iff_getElem?.1 h2
 rcases Nat.lt_trichotomy i j with h | h | h
 ·exact absurd h1 (((ok.step j t hj).outs k2 p g2).2.1 i s h hi)
 ·exact h
 ·exact absurd h2 (((ok.step i s hi).outs k1 p g1).2.1 j t h hj)
theorem Bdc {b:TBook} (ok:TBookOk b) {i j:Nat} {s t:TStep} {p:Int} (hi:b.steps[i]? = some s) (hj:b.steps[j]? = some t) (h1:p ∈ s.in_) (h2:p ∈ t.in_):i = j:=by
 obtain ⟨k1,g1⟩:=List.mem_iff_getElem?.1 h1
 obtain ⟨k2,g2⟩:=List.mem_iff_getElem?.1 h2
 rcases Nat.lt_trichotomy i j with h | h | h
 ·exact absurd h1 (((ok.step j t hj).ins k2 p g2).2.2.1 i s h hi)
 ·exact h
 ·exact absurd h2 (((ok.step i s hi).ins k1 p g1).2.2.1 j t h hj)
theorem Ava {b:TBook} (ok:TBookOk b) {p:Int} (hp:0 ≤ p∧p < (b.piles.length:Int)):∃ s,b.steps[As b p]? = some s∧p ∈ s.out:=by
 obtain ⟨i,s,hi,hs⟩:=ok.made p.toNat (by omega)
 rw [show ((p.toNat:Nat):Int) = p by omega] at hs
 have h1:b.steps.findIdx (fun s=>decide (p ∈ s.out)) < b.steps.length:=List.findIdx_lt_length_of_exists ⟨s,List.mem_of_getElem? hi,by simpa using hs⟩
 refine ⟨b.steps[As b p]'h1,List.getElem?_eq_getElem h1,?_⟩
 have:=List.findIdx_getElem (w:=h1) (p:=fun s:TStep=>decide (p ∈ s.out))
 exact of_decide_eq_true this
theorem Baq {b:TBook} (ok:TBookOk b) {p:Int} {i:Nat} {s:TStep} (hi:b.steps[i]? = some s) (h:p ∈ s.out):As b p = i:=by
 obtain ⟨k,hk⟩:=List.mem_iff_getElem?.1 h
 have hr:=((ok.step i s hi).outs k p hk).1
 obtain ⟨t,ht,h2⟩:=Ava ok (p:=p) (by omega)
 exact Bes ok ht hi h2 h
theorem Awz {b:TBook} (ok:TBookOk b) {p:Int} (hp:0 ≤ p∧p < (b.piles.length:Int)):As b p < b.steps.length:=by
 obtain ⟨s,h,_⟩:=Ava ok hp
 exact (List.getElem?_eq_some_iff.1 h).1
theorem Bgs {b:TBook} (ok:TBookOk b) {p:Int} {i:Nat} {s:TStep} (hi:b.steps[i]? = some s) (h:p ∈ s.in_):Avl b p = some i:=by
 unfold Avl
 rw [List.findIdx?_eq_some_iff_getElem]
 obtain ⟨hl,he⟩:=List.getElem?_eq_some_iff.1 hi
 refine ⟨hl,by rw [he]; simpa using h,fun j hj=>?_⟩
 have hjl:j < b.steps.length:=by omega
 simp only [decide_eq_true_eq]
 intro hc
 have:=Bdc ok (List.getElem?_eq_getElem hjl) hi hc h
 omega
theorem Ayx {b:TBook} {p:Int}:Avl b p = none↔∀ (i:Nat) (s:TStep),b.steps[i]? = some s→p ∉ s.in_:=by
 unfold Avl
 rw [List.findIdx?_eq_none_iff]
 constructor
 ·intro h i s hs
  have:=h s (List.mem_of_getElem? hs)
  simpa using this
 ·intro h s hs
  obtain ⟨i,hi⟩:=List.mem_iff_getElem?.1 hs
  simpa using h i s hi
theorem Ayz {b:TBook} {p:Int} {i:Nat} (h:Avl b p = some i):∃ s,b.steps[i]? = some s∧p ∈ s.in_:=by
 unfold Avl at h
 rw [List.findIdx?_eq_some_iff_getElem] at h
 obtain ⟨hl,h1,_⟩:=h
 exact ⟨_,List.getElem?_eq_getElem hl,by simpa using h1⟩
theorem Bdh {b:TBook} {p:Int}:Ast b p ≤ b.steps.length:=by
 unfold Ast
 cases h:Avl b p with
 | none=>exact Nat.le_refl _
 | some i=>obtain ⟨s,hs,_⟩:=Ayz h; exact Nat.le_of_lt (List.getElem?_eq_some_iff.1 hs).1
def Atc (b:TBook) (i:Nat):TStep:=b.steps.getD i ⟨0,[],[],⟨0,0⟩,⟨0,0⟩⟩
theorem Asu {b:TBook} {i:Nat} {s:TStep} (h:b.steps[i]? = some s):Atc b i = s:=by unfold Atc; rw [List.getD_eq_getElem?_getD,h]; rfl
def Aht (m:List Int) (p:Int):Int:=m.getD p.toNat 0
def Asm (m:List Int) (l:List Int):Int:=(l.map (Aht m)).sum
structure Truth (b:TBook) (m:List Int) (g x:Nat→Int):Prop where
 len:m.length = b.piles.length
 mass:∀ (p:Nat) (v:Int),m[p]? = some v→0 ≤ v∧v ≤ 1000000
 gain:∀ (i:Nat) (s:TStep),b.steps[i]? = some s→s.gain.low ≤ g i∧g i ≤ s.gain.high
 loss:∀ (i:Nat) (s:TStep),b.steps[i]? = some s→s.loss.low ≤ x i∧x i ≤ s.loss.high
 flow:∀ (i:Nat) (s:TStep),b.steps[i]? = some s→g i + Asm m s.in_ = x i + Asm m s.out
/-- The sum over a list without doubles is a sum over all piles. -/
theorem Avu {m:List Int} {n:Nat}:∀ {l:List Int},l.Nodup→(∀ p ∈ l,0 ≤ p∧p < (n:Int))→Asm m l = Ata (fun p=>if (p:Int) ∈ l then Aht m p else 0) n
 | [],_,_=>by
  rw [show Asm m [] = 0 from rfl]
  refine (sumI_zero (n:=n)).symm.trans (Ats fun i hi=>by simp)
 | a :: l,hn,hr=>by
  rw [List.nodup_cons] at hn
  have h1:=Avu (m:=m) (n:=n) hn.2 (fun p hp=>hr p (List.mem_cons_of_mem _ hp))
  have ha:=hr a (List.mem_cons_self ..)
  have e1:Asm m (a :: l) = Aht m a + Asm m l:=by unfold Asm; rw [List.map_cons,List.sum_cons]
  have e2:Ata (fun p=>if a.toNat = p then Aht m a else 0) n = Aht m a:=by rw [Bbb,if_pos (by omega)]
  rw [e1,h1,← e2,← Avo]
  refine Ats fun i hi=>?_
  by_cases hia:a.toNat = i
  ·have:(i:Int) = a:=by omega
   rw [if_pos hia,this,if_neg hn.1,if_pos (List.mem_cons_self ..)]; omega
  ·rw [if_neg hia]
   have:(i:Int) ≠ a:=by omega
   by_cases hil:(i:Int) ∈ l
   ·rw [if_pos hil,if_pos (List.mem_cons_of_mem _ hil)]; omega
   ·rw [if_neg hil,if_neg (fun hc=>by rcases List.mem_cons.1 hc with h | h; exact this h; exact hil h)]; omega
theorem Axm {F:Nat→Int} {j n:Nat} (hj:j < n) (v:Nat→Int) (h:∀ i,i < n→v i = if i = j then F i else 0):Ata v n = F j:=by
 rw [Ats h]
 have:Ata (fun i=>if i = j then F i else 0) n = Ata (fun i=>if j = i then F j else 0) n:=Ats fun i _=>by
  by_cases e:i = j
  ·rw [if_pos e,if_pos e.symm,e]
  ·rw [if_neg e,if_neg (Ne.symm e)]
 rw [this,Bbb,if_pos hj]
/-- What the steps make,each weighed. -/
theorem Bew {b:TBook} (ok:TBookOk b) {m:List Int} {F:Nat→Int}:Ata (fun i=>F i * Asm m (Atc b i).out) b.steps.length = Ata (fun p=>F (As b (p:Int)) * Aht m p) b.piles.length:=by
 have e1:∀ i,i < b.steps.length→F i * Asm m (Atc b i).out = Ata (fun p=>F i * (if (p:Int) ∈ (Atc b i).out then Aht m p else 0)) b.piles.length:=fun i hi=>by
  have hs:b.steps[i]? = some b.steps[i]:=List.getElem?_eq_getElem hi
  have so:=ok.step i _ hs
  rw [Asu hs,Avu (n:=b.piles.length) (Aua fun k p hk=>(so.outs k p hk).2.2) (fun p hp=>by
   obtain ⟨k,hk⟩:=List.mem_iff_getElem?.1 hp
   have:=(so.outs k p hk).1
   omega),← Bba]
 rw [Ats e1,Aza]
 refine Ats fun p hp=>?_
 obtain ⟨s,hs,hm⟩:=Ava ok (p:=(p:Int)) (by omega)
 have hlt:=(List.getElem?_eq_some_iff.1 hs).1
 refine Axm (F:=fun i=>F i * Aht m p) hlt _ fun i hi=>?_
 by_cases e:i = As b (p:Int)
 ·rw [if_pos e,e,Asu hs,if_pos hm]
 ·rw [if_neg e,if_neg (fun hc=>e (Baq ok (List.getElem?_eq_getElem hi) (by rw [Asu (List.getElem?_eq_getElem hi)] at hc; exact hc)).symm),Int.mul_zero]
/-- What the steps take,each weighed. -/
theorem Bgq {b:TBook} (ok:TBookOk b) {m:List Int} {F:Nat→Int} (hF:F b.steps.length = 0):Ata (fun i=>F i * Asm m (Atc b i).in_) b.steps.length = Ata (fun p=>F (Ast b (p:Int)) * Aht m p) b.piles.length:=by
 have e1:∀ i,i < b.steps.length→F i * Asm m (Atc b i).in_ = Ata (fun p=>F i * (if (p:Int) ∈ (Atc b i).in_ then Aht m p else 0)) b.piles.length:=fun i hi=>by
  have hs:b.steps[i]? = some b.steps[i]:=List.getElem?_eq_getElem hi
  have so:=ok.step i _ hs
  rw [Asu hs,Avu (n:=b.piles.length) (Aua fun k p hk=>(so.ins k p hk).2.2.2) (fun p hp=>by
   obtain ⟨k,hk⟩:=List.mem_iff_getElem?.1 hp
   have:=(so.ins k p hk).1
   omega),← Bba]
 rw [Ats e1,Aza]
 refine Ats fun p hp=>?_
 cases hu:Avl b (p:Int) with
 | none =>
  have hz:Ast b (p:Int) = b.steps.length:=by unfold Ast; rw [hu]; rfl
  rw [hz,hF,Int.zero_mul]
  refine (Ats fun i hi=>?_).trans (sumI_zero (n:=b.steps.length))
  rw [if_neg (fun hc=>(Ayx.1 hu) i _ (List.getElem?_eq_getElem hi) (by rw [Asu (List.getElem?_eq_getElem hi)] at hc; exact hc)),Int.mul_zero]
 | some j =>
  obtain ⟨s,hs,hm⟩:=Ayz hu
  have hz:Ast b (p:Int) = j:=by unfold Ast; rw [hu]; rfl
  rw [hz]
  refine Axm (F:=fun i=>F i * Aht m p) (List.getElem?_eq_some_iff.1 hs).1 _ fun i hi=>?_
  by_cases e:i = j
  ·rw [if_pos e,e,Asu hs,if_pos hm]
  ·rw [if_neg e,if_neg (fun hc=>e (Bdc ok (List.getElem?_eq_getElem hi) hs (by rw [Asu (List.getElem?_eq_getElem hi)] at hc; exact hc) hm)),Int.mul_zero]
/-- Whatever weighs the nodes: what the piles carry,and what comes and goes outside,is balanced. -/
theorem Bfq {b:TBook} (ok:TBookOk b) {m:List Int} {g x:Nat→Int} (ht:Truth b m g x) (f:Nat→Int) :
  Ata (fun p=>(f (Ast b (p:Int)) - f (As b (p:Int))) * Aht m p) b.piles.length + Ata (fun i=>(f i - f b.steps.length) * g i + (f b.steps.length - f i) * x i) b.steps.length = 0:=by
 have h1:=Bew ok (m:=m) (F:=fun i=>f i - f b.steps.length)
 have h2:=Bgq ok (m:=m) (F:=fun i=>f i - f b.steps.length) (by simp)
 have h3:Ata (fun i=>(f i - f b.steps.length) * g i + (f b.steps.length - f i) * x i) b.steps.length = Ata (fun i=>(f i - f b.steps.length) * Asm m (Atc b i).out - (f i - f b.steps.length) * Asm m (Atc b i).in_) b.steps.length:=Ats fun i hi=>by
  have hs:b.steps[i]? = some b.steps[i]:=List.getElem?_eq_getElem hi
  have hf:=ht.flow i _ hs
  rw [Asu hs]
  have e1:g i = x i + Asm m b.steps[i].out - Asm m b.steps[i].in_:=by omega
  rw [e1,Int.mul_sub,Int.mul_add]
  have e2:(f b.steps.length - f i) * x i = -((f i - f b.steps.length) * x i):=by rw [← Int.neg_mul]; congr 1; omega
  rw [e2]; omega
 rw [h3,Axr,h1,h2,← Axr,← Avo]
 refine (Ats fun p hp=>?_).trans (sumI_zero (n:=b.piles.length))
 rw [← Int.sub_mul,← Int.add_mul]
 rw [show f (Ast b (p:Int)) - f (As b (p:Int)) + (f (As b (p:Int)) - f b.steps.length - (f (Ast b (p:Int)) - f b.steps.length)) = 0 by omega,Int.zero_mul]
def Att (set v:Nat):Nat:=set >>> v &&& 1
def Atd (set fa ta:Nat):Int:=if Att set fa < Att set ta then 1 else if Att set fa > Att set ta then 2 else 0
def Awc (set:Nat) (x:Strm):Int:=Atd set x.from_.toNat x.to_.toNat
def sgI (set:Nat) (x:Strm):Int:=(Att set x.to_.toNat:Int) - (Att set x.from_.toNat:Int)
def Atl (set:Nat) (x:Strm):Int:=if Awc set x = 1 then -x.b.high else if Awc set x = 2 then x.b.low else 0
def Asc (S:List Strm) (set:Nat):Int:=(S.map (Atl set)).sum
theorem Azc {set v:Nat}:Att set v ≤ 1:=by
 unfold Att
 rw [Nat.and_one_is_mod]
 omega
theorem Ave {set:Nat} {x:Strm}:(Awc set x = 1∧sgI set x = 1)∨(Awc set x = 2∧sgI set x = -1)∨(Awc set x = 0∧sgI set x = 0):=by
 have h1:=Azc (set:=set) (v:=x.from_.toNat)
 have h2:=Azc (set:=set) (v:=x.to_.toNat)
 unfold Awc Atd sgI
 by_cases h:Att set x.from_.toNat < Att set x.to_.toNat
 ·rw [if_pos h]; left; exact ⟨rfl,by omega⟩
 ·rw [if_neg h]
  by_cases h':Att set x.from_.toNat > Att set x.to_.toNat
  ·rw [if_pos h']; right; left; exact ⟨rfl,by omega⟩
  ·rw [if_neg h']; right; right; exact ⟨rfl,by omega⟩
theorem Axg {α:Type} {f:α→Int}:∀ {l:List α},(∀ q ∈ l,0 ≤ f q)→(∀ q ∈ l,f q ≤ (l.map f).sum)∧0 ≤ (l.map f).sum
 | [],_=>⟨fun q h=>by (cases h),Int.le_refl _⟩
 | a :: l,h=>by
  have h0:=h a (List.mem_cons_self ..)
  obtain ⟨h1,h2⟩:=Axg (l:=l) (fun q hq=>h q (List.mem_cons_of_mem _ hq))
  rw [List.map_cons,List.sum_cons]
  refine ⟨fun q hq=>?_,by omega⟩
  rcases List.mem_cons.1 hq with rfl | hq
  ·omega
  ·have:=h1 q hq; omega
theorem Awg {α:Type} {f g:α→Int}:∀ {l:List α},(l.map fun q=>f q - g q).sum = (l.map f).sum - (l.map g).sum
 | []=>rfl
 | a :: l=>by simp only [List.map_cons,List.sum_cons,Awg (l:=l)]; omega
theorem Awd {α:Type} {f:α→Int}:∀ {l:List α},(l.map fun q=>-f q).sum = -(l.map f).sum
 | []=>rfl
 | a :: l=>by simp only [List.map_cons,List.sum_cons,Awd (l:=l)]; omega
/-- Streams with what really flows: within their bounds,and balanced for every set of nodes. -/
structure FlowT (P:List (Strm × Int)):Prop where
 low:∀ q ∈ P,q.1.b.low ≤ q.2∧q.2 ≤ q.1.b.high
 bal:∀ set:Nat,(P.map fun q=>sgI set q.1 * q.2).sum = 0
/-- The cut's law. -/
theorem Baj {P:List (Strm × Int)} (h:FlowT P) {set:Nat} {q:Strm × Int} (hq:q ∈ P):Asc (P.map (·.1)) set ≤ Atl set q.1 + sgI set q.1 * q.2:=by
 have key:∀ q ∈ P,0 ≤ -(sgI set q.1 * q.2) - Atl set q.1:=fun q hq=>by
  have hb:=h.low q hq
  unfold Atl
  rcases Ave (set:=set) (x:=q.1) with ⟨h1,h2⟩ | ⟨h1,h2⟩ | ⟨h1,h2⟩
  ·rw [h1,h2,if_pos rfl]; omega
  ·rw [h1,h2,if_neg (by decide),if_pos rfl]; omega
  ·rw [h1,h2,if_neg (by decide),if_neg (by decide)]; omega
 have h1:=(Axg key).1 q hq
 have h2:(P.map fun q=>-(sgI set q.1 * q.2) - Atl set q.1).sum = -(P.map fun q=>sgI set q.1 * q.2).sum - (P.map fun q=>Atl set q.1).sum:=by
  rw [Awg (f:=fun q:Strm × Int=>-(sgI set q.1 * q.2)) (g:=fun q:Strm × Int=>Atl set q.1),Awd]
 rw [h2,h.bal set] at h1
 have h3:Asc (P.map (·.1)) set = (P.map fun q=>Atl set q.1).sum:=by unfold Asc; rw [List.map_map]; rfl
 rw [h3]
 omega
/-- A span that is met by what comes into a set,or leaves it,still has what flows. -/
theorem Bga {P:List (Strm × Int)} (h:FlowT P) {set:Nat} {q:Strm × Int} (hq:q ∈ P) (hs:Awc set q.1 = 1):Asc (P.map (·.1)) set + q.1.b.high ≤ q.2:=by
 have h1:=Baj h (set:=set) hq
 unfold Atl at h1
 rcases Ave (set:=set) (x:=q.1) with ⟨h2,h3⟩ | ⟨h2,h3⟩ | ⟨h2,h3⟩
 ·rw [h3,if_pos hs] at h1; omega
 ·rw [hs] at h2; cases h2
 ·rw [hs] at h2; cases h2
theorem Bel {P:List (Strm × Int)} (h:FlowT P) {set:Nat} {q:Strm × Int} (hq:q ∈ P) (hs:Awc set q.1 = 2):q.2 ≤ q.1.b.low - Asc (P.map (·.1)) set:=by
 have h1:=Baj h (set:=set) hq
 unfold Atl at h1
 rcases Ave (set:=set) (x:=q.1) with ⟨h2,h3⟩ | ⟨h2,h3⟩ | ⟨h2,h3⟩
 ·rw [hs] at h2; cases h2
 ·rw [h3,if_neg (by rw [hs]; decide),if_pos hs] at h1; omega
 ·rw [hs] at h2; cases h2
def Bas (a b:Bnd):Bnd:=⟨max a.low b.low,min a.high b.high⟩
/-- What the first scales say of a pile. -/
def Atq (b:TBook) (p:Int):Nat→Bnd
 | 0=>⟨0,1000000⟩
 | n + 1=>match b.scales[n]? with
  | some x=>if x.pile = p then Bas (Atq b p n) ⟨x.mass.low,x.mass.high⟩ else Atq b p n
  | none=>Atq b p n
theorem Bcr {b:TBook} {p:Int} {n:Nat} {x:TScale} (hx:b.scales[n]? = some x):Atq b p (n + 1) = if x.pile = p then Bas (Atq b p n) ⟨x.mass.low,x.mass.high⟩ else Atq b p n:=by
 show (match b.scales[n]? with | some x=>if x.pile = p then Bas (Atq b p n) ⟨x.mass.low,x.mass.high⟩ else Atq b p n | none=>Atq b p n) = _
 rw [hx]
def Bbp (b:TBook) (p:Nat):Strm:=⟨Atq b (p:Int) b.scales.length,(As b (p:Int):Int),(Ast b (p:Int):Int)⟩
def Ayh (b:TBook) (i:Nat):Strm:=⟨⟨(Atc b i).gain.low,(Atc b i).gain.high⟩,(b.steps.length:Int),(i:Int)⟩
def Ayi (b:TBook) (i:Nat):Strm:=⟨⟨(Atc b i).loss.low,(Atc b i).loss.high⟩,(i:Int),(b.steps.length:Int)⟩
def glS (b:TBook):Nat→List Strm
 | 0=>[]
 | k + 1=>glS b k ++ [Ayh b k,Ayi b k]
def Atu (b:TBook) (n:Nat):List Strm:=(List.range n).map (Bbp b)
def Asi (b:TBook):List Strm:=Atu b b.piles.length ++ glS b b.steps.length
def Bfb (b:TBook):Web:=⟨Asi b,(b.steps.length:Int),((b.steps.length + 1:Nat):Int)⟩
theorem Azn {b:TBook}:∀ {k:Nat},(glS b k).length = 2 * k
 | 0=>rfl
 | k + 1=>by unfold glS; rw [List.length_append,Azn (k:=k)]; simp; omega
theorem Axh {b:TBook} {n:Nat}:(Atu b n).length = n:=by simp [Atu]
theorem Ayq {b:TBook} {n:Nat}:Atu b n ++ [Bbp b n] = Atu b (n + 1):=by unfold Atu; rw [List.range_succ,List.map_append]; rfl
theorem Auu {b:TBook} (ok:TBookOk b):(Asi b).length = b.piles.length + 2 * b.steps.length∧(Asi b).length ≤ 28:=by
 have h1:=Awu ok; have h2:=ok.nsteps
 unfold Asi
 rw [List.length_append,Axh,Azn]
 omega
theorem Avn {b:TBook} (ok:TBookOk b) {p:Int}:∀ n:Nat,0 ≤ (Atq b p n).low∧(Atq b p n).low ≤ 1000000∧0 ≤ (Atq b p n).high∧(Atq b p n).high ≤ 1000000
 | 0=>by simp [Atq]
 | n + 1=>by
  have h:=Avn ok (p:=p) n
  unfold Atq
  split
  ·rename_i x hx
   have hs:=ok.scale n x hx
   split
   ·unfold Bas; simp only; omega
   ·exact h
  ·exact h
/-- Every stream of a book: numbers within bounds,nodes by numbers. -/
def Awm (n:Nat) (x:Strm):Prop:=∃ (lo hi:Int) (fa ta:Nat),x = ⟨⟨lo,hi⟩,(fa:Int),(ta:Int)⟩∧0 ≤ lo∧lo ≤ 1000000∧0 ≤ hi∧hi ≤ 1000000∧fa ≤ n∧ta ≤ n
theorem Bgp {b:TBook} (ok:TBookOk b) {p:Nat} (hp:p < b.piles.length):Awm b.steps.length (Bbp b p):=by
 have h:=Avn ok (p:=(p:Int)) b.scales.length
 exact ⟨_,_,_,_,rfl,h.1,h.2.1,h.2.2.1,h.2.2.2,Nat.le_of_lt (Awz ok (by omega)),Bdh⟩
theorem Bgx {b:TBook} (ok:TBookOk b):∀ {k:Nat},k ≤ b.steps.length→∀ x ∈ glS b k,Awm b.steps.length x
 | 0,_,x,h=>by cases h
 | k + 1,hk,x,h=>by
  have hs:b.steps[k]? = some b.steps[k]:=List.getElem?_eq_getElem (by omega)
  have so:=ok.step k _ hs
  have e:=Asu hs
  unfold glS at h
  rcases List.mem_append.1 h with h | h
  ·exact Bgx ok (by omega) x h
  ·have hg:=so.gain; have hl:=so.loss
   rcases List.mem_cons.1 h with rfl | h
   ·exact ⟨_,_,_,_,rfl,by rw [e]; omega,by rw [e]; omega,by rw [e]; omega,by rw [e]; omega,Nat.le_refl _,by omega⟩
   ·rw [List.mem_singleton] at h; subst h
    exact ⟨_,_,_,_,rfl,by rw [e]; omega,by rw [e]; omega,by rw [e]; omega,by rw [e]; omega,by omega,Nat.le_refl _⟩
theorem Axv {b:TBook} (ok:TBookOk b) {i:Nat} {x:Strm} (hx:(Asi b)[i]? = some x):Awm b.steps.length x:=by
 have hm:=List.mem_of_getElem? hx
 unfold Asi at hm
 rcases List.mem_append.1 hm with h | h
 ·unfold Atu at h
  obtain ⟨p,hp,rfl⟩:=List.mem_map.1 h
  exact Bgp ok (List.mem_range.1 hp)
 ·exact Bgx ok (Nat.le_refl _) x h
/-- What is short stays within bounds. -/
theorem Bcf {n:Nat} {set:Nat} {x:Strm} (h:Awm n x):-1000000 ≤ Atl set x∧Atl set x ≤ 1000000:=by
 obtain ⟨lo,hi,fa,ta,rfl,h1,h2,h3,h4,_⟩:=h
 unfold Atl
 simp only
 split
 ·omega
 ·split
  ·omega
  ·omega
theorem Awb {n:Nat} {set:Nat}:∀ {S:List Strm},(∀ x ∈ S,Awm n x)→-1000000 * (S.length:Int) ≤ Asc S set∧Asc S set ≤ 1000000 * (S.length:Int)
 | [],_=>by simp [Asc]
 | a :: S,h=>by
  have h1:=Bcf (set:=set) (h a (List.mem_cons_self ..))
  have h2:=Awb (set:=set) (S:=S) (fun x hx=>h x (List.mem_cons_of_mem _ hx))
  unfold Asc at h2 ⊢
  rw [List.map_cons,List.sum_cons,List.length_cons]
  push_cast
  omega
theorem Avc {S:List Strm} {set i:Nat} {x:Strm} (hx:S[i]? = some x):Asc (S.take (i + 1)) set = Asc (S.take i) set + Atl set x:=by
 unfold Asc
 rw [List.take_add_one,hx]
 simp [List.map_append,List.sum_append]
def glP (b:TBook) (g x:Nat→Int):Nat→List (Strm × Int)
 | 0=>[]
 | k + 1=>glP b g x k ++ [(Ayh b k,g k),(Ayi b k,x k)]
def Azr (b:TBook) (m:List Int) (n:Nat):List (Strm × Int):=(List.range n).map fun p=>(Bbp b p,Aht m (p:Int))
def Aut (b:TBook) (m:List Int) (g x:Nat→Int):List (Strm × Int):=Azr b m b.piles.length ++ glP b g x b.steps.length
theorem Bcu {b:TBook} {g x:Nat→Int}:∀ {k:Nat},(glP b g x k).map (·.1) = glS b k
 | 0=>rfl
 | k + 1=>by unfold glP glS; rw [List.map_append,Bcu (k:=k)]; rfl
theorem Auh {b:TBook} {m:List Int} {g x:Nat→Int}:(Aut b m g x).map (·.1) = Asi b:=by
 unfold Aut Asi
 rw [List.map_append,Bcu]
 congr 1
 unfold Azr Atu
 rw [List.map_map]; rfl
theorem Bcx {b:TBook} {g x:Nat→Int} {set:Nat}:∀ {k:Nat},((glP b g x k).map fun q=>sgI set q.1 * q.2).sum = Ata (fun i=>((Att set i:Int) - (Att set b.steps.length:Int)) * g i + ((Att set b.steps.length:Int) - (Att set i:Int)) * x i) k
 | 0=>rfl
 | k + 1=>by
  unfold glP Ata
  rw [List.map_append,List.sum_append,Bcx (k:=k)]
  simp [sgI,Ayh,Ayi]
theorem Baz {b:TBook} {m:List Int} {set:Nat}:∀ {n:Nat},((Azr b m n).map fun q=>sgI set q.1 * q.2).sum = Ata (fun p=>((Att set (Ast b (p:Int)):Int) - (Att set (As b (p:Int)):Int)) * Aht m (p:Int)) n
 | 0=>rfl
 | n + 1=>by
  have h:Azr b m (n + 1) = Azr b m n ++ [(Bbp b n,Aht m (n:Int))]:=by unfold Azr; rw [List.range_succ,List.map_append]; rfl
  unfold Ata
  rw [h,List.map_append,List.sum_append,Baz (n:=n)]
  simp [sgI,Bbp]
/-- The scales hold for these masses. -/
def Ato (b:TBook) (m:List Int):Prop:=∀ (i:Nat) (x:TScale),b.scales[i]? = some x→x.mass.low ≤ Aht m x.pile∧Aht m x.pile ≤ x.mass.high
theorem Axe {b:TBook} {m:List Int} {g x:Nat→Int} (ht:Truth b m g x) {p:Nat} (hp:p < b.piles.length):0 ≤ Aht m (p:Int)∧Aht m (p:Int) ≤ 1000000:=by
 have hl:=ht.len
 have hv:m[p]? = some m[p]:=List.getElem?_eq_getElem (by omega)
 unfold Aht
 rw [Int.toNat_natCast,List.getD_eq_getElem?_getD,hv]
 exact ht.mass p _ hv
theorem Bcs {b:TBook} {m:List Int} (hs:Ato b m) {p:Int} (hp:0 ≤ Aht m p∧Aht m p ≤ 1000000):∀ n:Nat,(Atq b p n).low ≤ Aht m p∧Aht m p ≤ (Atq b p n).high
 | 0=>hp
 | n + 1=>by
  have h:=Bcs hs hp n
  unfold Atq
  split
  ·rename_i x hx
   split
   ·rename_i he
    have:=hs n x hx
    rw [he] at this
    unfold Bas; simp only; omega
   ·exact h
  ·exact h
theorem Axu {b:TBook} (ok:TBookOk b) {m:List Int} {g x:Nat→Int} (ht:Truth b m g x) (hs:Ato b m):FlowT (Aut b m g x):=by
 refine ⟨fun q hq=>?_,fun set=>?_⟩
 ·unfold Aut at hq
  rcases List.mem_append.1 hq with h | h
  ·unfold Azr at h
   obtain ⟨p,hp,rfl⟩:=List.mem_map.1 h
   exact Bcs hs (Axe ht (List.mem_range.1 hp)) _
  ·have key:∀ k,k ≤ b.steps.length→q ∈ glP b g x k→q.1.b.low ≤ q.2∧q.2 ≤ q.1.b.high:=by
    intro k
    induction k with
    | zero=>intro _ h; cases h
    | succ k ih =>
     intro hk h
     have hs:b.steps[k]? = some b.steps[k]:=List.getElem?_eq_getElem (by omega)
     unfold glP at h
     rcases List.mem_append.1 h with h | h
     ·exact ih (by omega) h
     ·rcases List.mem_cons.1 h with rfl | h
      ·have:=ht.gain k _ hs; simp only [Ayh,Asu hs]; exact this
      ·rw [List.mem_singleton] at h; subst h
       have:=ht.loss k _ hs; simp only [Ayi,Asu hs]; exact this
   exact key _ (Nat.le_refl _) h
 ·unfold Aut
  rw [List.map_append,List.sum_append,Baz,Bcx]
  exact Bfq ok ht fun v=>(Att set v:Int)
/-- Spans that have what flows. -/
def Asx (P:List (Strm × Int)) (o:List Span):Prop:=o.length = P.length∧∀ (i:Nat) (z:Span) (q:Strm × Int),o[i]? = some z→P[i]? = some q→0 ≤ z.low∧z.low ≤ q.2∧q.2 ≤ z.high∧z.high ≤ 1000000
theorem Ayr {P:List (Strm × Int)} {o:List Span} (h:Asx P o) {i:Nat} {z:Span} (hz:∀ q,P[i]? = some q→0 ≤ z.low∧z.low ≤ q.2∧q.2 ≤ z.high∧z.high ≤ 1000000):Asx P (o.set i z):=by
 refine ⟨by rw [List.length_set]; exact h.1,fun j w q hw hq=>?_⟩
 rw [List.getElem?_set] at hw
 split at hw
 ·rename_i e
  subst e
  split at hw
  ·cases hw; exact hz q hq
  ·cases hw
 ·exact h.2 j w q hw hq
theorem Bgc {P:List (Strm × Int)} {S:List Strm} (h:P.map (·.1) = S) {i:Nat} {x:Strm} (hx:S[i]? = some x):∃ v,P[i]? = some (x,v):=by
 rw [← h,List.getElem?_map] at hx
 obtain ⟨q,hq,rfl⟩:=Option.map_eq_some_iff.1 hx
 exact ⟨q.2,hq⟩
/-- What the masses' spans say of a pile. -/
theorem Bce {b:TBook} {m:List Int} {g x:Nat→Int} {o:List Span} (h:Asx (Aut b m g x) o) {p:Nat} (hp:p < b.piles.length) {z:Span} (hz:o[p]? = some z):0 ≤ z.low∧z.low ≤ Aht m (p:Int)∧Aht m (p:Int) ≤ z.high∧z.high ≤ 1000000:=by
 refine h.2 p z (Bbp b p,Aht m (p:Int)) hz ?_
 unfold Aut
 rw [List.getElem?_append_left (by simp [Azr]; exact hp)]
 unfold Azr
 rw [List.getElem?_map,List.getElem?_range hp]; rfl
theorem Axs {b:TBook} {m:List Int} {g x:Nat→Int}:(Aut b m g x).length = (Asi b).length:=by rw [← Auh (m:=m) (g:=g) (x:=x),List.length_map]
theorem Ayo {l:List Int} {n:Nat} (h:l.Nodup) (hr:∀ p ∈ l,0 ≤ p∧p < (n:Int)):l.length ≤ n:=by
 have:=Ayt (dn:=l) (l:=(List.range n).map fun i:Nat=>(i:Int)) h fun p hp=>by
  have:=hr p hp
  exact List.mem_map.2 ⟨p.toNat,List.mem_range.2 (by omega),by omega⟩
 simpa using this
theorem StepOk.inLen {b:TBook} (ok:TBookOk b) {i:Nat} {s:TStep} (h:StepOk b i s):s.in_.length ≤ 12:=by
 have h1:=Ayo (n:=b.piles.length) (Aua fun k p hk=>(h.ins k p hk).2.2.2) (fun p hp=>by
  obtain ⟨k,hk⟩:=List.mem_iff_getElem?.1 hp
  have:=(h.ins k p hk).1
  omega)
 have:=Awu ok
 omega
theorem StepOk.outLen {b:TBook} (ok:TBookOk b) {i:Nat} {s:TStep} (h:StepOk b i s):s.out.length ≤ 12:=by
 have h1:=Ayo (n:=b.piles.length) (Aua fun k p hk=>(h.outs k p hk).2.2) (fun p hp=>by
  obtain ⟨k,hk⟩:=List.mem_iff_getElem?.1 hp
  have:=(h.outs k p hk).1
  omega)
 have:=Awu ok
 omega
theorem Auk {m:List Int} {p v:Int} (h:m[p.toNat]? = some v):Aht m p = v:=by unfold Aht; rw [List.getD_eq_getElem?_getD,h]; rfl
theorem Aym {m:List Int} {p q v:Int} (hp:0 ≤ p) (hq:0 ≤ q∧q < (m.length:Int)):Aht (m.set q.toNat v) p = if p = q then v else Aht m p:=by
 unfold Aht
 rw [List.getD_eq_getElem?_getD,List.getD_eq_getElem?_getD,List.getElem?_set]
 by_cases h:p = q
 ·subst h; rw [if_pos rfl,if_pos rfl,if_pos (by omega)]; rfl
 ·rw [if_neg h,if_neg (by omega)]
theorem Avv {m:List Int}:Asm m [] = 0:=rfl
theorem Axp {m:List Int} {l:List Int} {k:Nat} {p:Int} (h:l[k]? = some p):Asm m (l.take (k + 1)) = Asm m (l.take k) + Aht m p:=by
 unfold Asm
 rw [List.take_add_one,h]
 simp [List.map_append,List.sum_append]
theorem Aue {m:List Int} {q v:Int} (hq:0 ≤ q∧q < (m.length:Int)):∀ {l:List Int},(∀ p ∈ l,0 ≤ p)→q ∉ l→Asm (m.set q.toNat v) l = Asm m l
 | [],_,_=>rfl
 | a :: l,h,hn=>by
  have h1:=Aue (v:=v) hq (l:=l) (fun p hp=>h p (List.mem_cons_of_mem _ hp)) (fun hc=>hn (List.mem_cons_of_mem _ hc))
  have h2:Aht (m.set q.toNat v) a = Aht m a:=by rw [Aym (h a (List.mem_cons_self ..)) hq,if_neg (fun e=>hn (by rw [e]; exact List.mem_cons_self ..))]
  unfold Asm at h1 ⊢
  rw [List.map_cons,List.sum_cons,List.map_cons,List.sum_cons,h1,h2]
structure TruthTo (b:TBook) (m:List Int) (g x:Nat→Int) (i:Nat):Prop where
 len:m.length = b.piles.length
 mass:∀ (p:Nat) (v:Int),m[p]? = some v→0 ≤ v∧v ≤ 1000000
 gain:∀ (j:Nat) (s:TStep),j < i→b.steps[j]? = some s→s.gain.low ≤ g j∧g j ≤ s.gain.high
 loss:∀ (j:Nat) (s:TStep),j < i→b.steps[j]? = some s→s.loss.low ≤ x j∧x j ≤ s.loss.high
 flow:∀ (j:Nat) (s:TStep),j < i→b.steps[j]? = some s→g j + Asm m s.in_ = x j + Asm m s.out
theorem Bgr {b:TBook} {g x:Nat→Int}:TruthTo b (List.replicate b.piles.length 0) g x 0 :=
 ⟨List.length_replicate,fun p v h=>by
  have:=List.mem_of_getElem? h
  rw [(List.mem_replicate.1 this).2]; decide,fun _ _ h=>absurd h (Nat.not_lt_zero _),fun _ _ h=>absurd h (Nat.not_lt_zero _),fun _ _ h=>absurd h (Nat.not_lt_zero _)⟩
theorem Bcg {b:TBook} {m:List Int} {g x:Nat→Int} {i:Nat} (h:TruthTo b m g x i) (hi:i = b.steps.length):Truth b m g x :=
 ⟨h.len,h.mass,fun j s hs=>h.gain j s (by have:=(List.getElem?_eq_some_iff.1 hs).1; omega) hs,fun j s hs=>h.loss j s (by have:=(List.getElem?_eq_some_iff.1 hs).1; omega) hs,fun j s hs=>h.flow j s (by have:=(List.getElem?_eq_some_iff.1 hs).1; omega) hs⟩
theorem Bdd {b:TBook} {i:Nat} {s:TStep} (h:StepOk b i s):∀ p ∈ s.in_,0 ≤ p:=fun p hp=>by
 obtain ⟨k,hk⟩:=List.mem_iff_getElem?.1 hp
 exact (h.ins k p hk).1.1
theorem Bax {b:TBook} {i:Nat} {s:TStep} (h:StepOk b i s):∀ p ∈ s.out,0 ≤ p:=fun p hp=>by
 obtain ⟨k,hk⟩:=List.mem_iff_getElem?.1 hp
 exact (h.outs k p hk).1.1
/-- What a step makes was neither made nor used before. -/
theorem Bde {b:TBook} (ok:TBookOk b) {i k:Nat} {s:TStep} {q:Int} (hs:b.steps[i]? = some s) (hq:s.out[k]? = some q):(∀ (j:Nat) (t:TStep),j < i→b.steps[j]? = some t→q ∉ t.out)∧∀ (j:Nat) (t:TStep),j ≤ i→b.steps[j]? = some t→q ∉ t.in_:=by
 have h1:=((ok.step i s hs).outs k q hq).2.1
 refine ⟨h1,fun j t hj ht hm=>?_⟩
 obtain ⟨k',hk'⟩:=List.mem_iff_getElem?.1 hm
 obtain ⟨j',t',hj',ht',hm'⟩:=((ok.step j t ht).ins k' q hk').2.1
 exact h1 j' t' (by omega) ht' hm'
theorem Aux {b:TBook} (ok:TBookOk b) {m:List Int} {g x:Nat→Int} {i k:Nat} {s:TStep} {q v:Int} (h:TruthTo b m g x i) (hs:b.steps[i]? = some s) (hq:s.out[k]? = some q) (hv:0 ≤ v∧v ≤ 1000000):TruthTo b (m.set q.toNat v) g x i:=by
 have hr:=((ok.step i s hs).outs k q hq).1
 have hl:=h.len
 obtain ⟨n1,n2⟩:=Bde ok hs hq
 refine ⟨by rw [List.length_set]; exact hl,fun p w hp=>?_,h.gain,h.loss,fun j t hj ht=>?_⟩
 ·rw [List.getElem?_set] at hp
  split at hp
  ·split at hp
   ·cases hp; exact hv
   ·cases hp
  ·exact h.mass p w hp
 ·have hf:=h.flow j t hj ht
  have ho:=ok.step j t ht
  rw [Aue (by omega) (Bdd ho) (n2 j t (by omega) ht),Aue (by omega) (Bax ho) (n1 j t hj ht)]
  exact hf
def Bci (g:Nat→Int) (i:Nat) (v:Int):Nat→Int:=fun j=>if j = i then v else g j
theorem Axq {b:TBook} {m:List Int} {g x:Nat→Int} {i:Nat} {s:TStep} {gv xv:Int} (h:TruthTo b m g x i) (hs:b.steps[i]? = some s) (h1:s.gain.low ≤ gv∧gv ≤ s.gain.high) (h2:s.loss.low ≤ xv∧xv ≤ s.loss.high) (h3:gv + Asm m s.in_ = xv + Asm m s.out):TruthTo b m (Bci g i gv) (Bci x i xv) (i + 1):=by
 refine ⟨h.len,h.mass,fun j t hj ht=>?_,fun j t hj ht=>?_,fun j t hj ht=>?_⟩
 all_goals unfold Bci; by_cases e:j = i
 ·subst e; rw [if_pos rfl]; rw [hs] at ht; cases ht; exact h1
 ·rw [if_neg e]; exact h.gain j t (by omega) ht
 ·subst e; rw [if_pos rfl]; rw [hs] at ht; cases ht; exact h2
 ·rw [if_neg e]; exact h.loss j t (by omega) ht
 ·subst e; rw [if_pos rfl,if_pos rfl]; rw [hs] at ht; cases ht; exact h3
 ·rw [if_neg e,if_neg e]; exact h.flow j t (by omega) ht
/-- One pile more is given its mass. -/
theorem Auv {b:TBook} (ok:TBookOk b) {m:List Int} {i k:Nat} {s:TStep} {q v:Int} (hl:m.length = b.piles.length) (hs:b.steps[i]? = some s) (hq:s.out[k]? = some q):Asm (m.set q.toNat v) (s.out.take (k + 1)) = Asm m (s.out.take k) + v∧Asm (m.set q.toNat v) s.in_ = Asm m s.in_:=by
 have so:=ok.step i s hs
 have hr:=(so.outs k q hq).1
 refine ⟨?_,Aue (by omega) (Bdd so) ((Bde ok hs hq).2 i s (Nat.le_refl _) hs)⟩
 rw [Axp hq,Aym hr.1 (by omega),if_pos rfl,Aue (by omega) (fun p hp=>Bax so p (List.mem_of_mem_take hp)) (fun hc=>?_)]
 obtain ⟨j,hj⟩:=List.mem_iff_getElem?.1 hc
 rw [List.getElem?_take] at hj
 split at hj
 ·rename_i hjk; exact (so.outs k q hq).2.2 j hjk hj
 ·cases hj
theorem Aun {b:TBook} {m:List Int} {g x:Nat→Int} {i:Nat} (h:TruthTo b m g x i):∀ {l:List Int},(∀ p ∈ l,0 ≤ p∧p < (b.piles.length:Int))→0 ≤ Asm m l∧Asm m l ≤ 1000000 * (l.length:Int)
 | [],_=>by simp [Asm]
 | a :: l,hr=>by
  have h1:=Aun h (l:=l) (fun p hp=>hr p (List.mem_cons_of_mem _ hp))
  have ha:=hr a (List.mem_cons_self ..)
  have hl:=h.len
  have hv:m[a.toNat]? = some (m[a.toNat]'(by omega)):=List.getElem?_eq_getElem _
  have h2:=h.mass _ _ hv
  have e:Aht m a = m[a.toNat]'(by omega):=Auk hv
  unfold Asm at h1 ⊢
  rw [List.map_cons,List.sum_cons,List.length_cons,e]
  push_cast
  omega
theorem Bem {b:TBook} {i:Nat} {s:TStep} (h:StepOk b i s) (n:Nat):∀ p ∈ s.in_.take n,0 ≤ p∧p < (b.piles.length:Int):=fun p hp=>by
 obtain ⟨k,hk⟩:=List.mem_iff_getElem?.1 (List.mem_of_mem_take hp)
 have:=(h.ins k p hk).1
 omega
def Avb (m:List Int) (i:Nat) (x:TScale):TScale:=if Aht m x.pile < x.mass.low∨Aht m x.pile > x.mass.high then ⟨x.pile,⟨max 0 (Aht m x.pile - ((i % 4:Nat):Int)),min 1000000 (Aht m x.pile + ((i % 3:Nat):Int))⟩⟩ else x
def scW (b:TBook) (m:List Int) (n:Nat):List TScale:=(List.range n).map fun i=>Avb m i (b.scales.getD i ⟨0,⟨0,0⟩⟩)
def Axw (b:TBook) (m:List Int):TBook:=⟨b.hands,b.piles,b.steps,scW b m b.scales.length⟩
theorem Bbc {b:TBook} {m:List Int} {n:Nat} {x:TScale} (hx:b.scales[n]? = some x):scW b m n ++ [Avb m n x] = scW b m (n + 1):=by
 unfold scW
 rw [List.range_succ,List.map_append,List.map_cons,List.map_nil,List.getD_eq_getElem?_getD,hx]; rfl
theorem Azs {b:TBook} {m:List Int} {n:Nat}:(scW b m n).length = n:=by simp [scW]
theorem Bbd {m:List Int} {i:Nat} {x:TScale}:(Avb m i x).pile = x.pile:=by unfold Avb; split <;> rfl
theorem Azy {b:TBook} (ok:TBookOk b) {m:List Int} {g x:Nat→Int} (ht:Truth b m g x):Ato (Axw b m) m:=by
 intro i z hz
 have hz':(scW b m b.scales.length)[i]? = some z:=hz
 unfold scW at hz'
 rw [List.getElem?_map] at hz'
 obtain ⟨j,hj,rfl⟩:=Option.map_eq_some_iff.1 hz'
 have hjl:=(List.getElem?_eq_some_iff.1 hj).1
 rw [List.length_range] at hjl
 rw [List.getElem?_range hjl] at hj
 cases hj
 have hs:b.scales[i]? = some b.scales[i]:=List.getElem?_eq_getElem hjl
 have e1:b.scales.getD i ⟨0,⟨0,0⟩⟩ = b.scales[i]:=by rw [List.getD_eq_getElem?_getD,hs]; rfl
 rw [e1,Bbd]
 have hr:=(ok.scale i _ hs).1
 have hm:=Axe ht (p:=(b.scales[i]).pile.toNat) (by omega)
 rw [show (((b.scales[i]).pile.toNat:Nat):Int) = (b.scales[i]).pile by omega] at hm
 unfold Avb
 split
 ·simp only; omega
 ·omega
theorem Bbr {b:TBook} {m:List Int} {g x:Nat→Int} (ht:Truth b m g x):Truth (Axw b m) m g x:=⟨ht.len,ht.mass,ht.gain,ht.loss,ht.flow⟩
end
section
open Go
theorem Axi {ρ:Ro}:∀ (n:Nat),Rows ρ (List.replicate n (Value.int .i64 0)) (List.replicate n (0:Int))
 | 0=>rfl
 | n + 1=>⟨[.int .i64 0],List.replicate n (.int .i64 0),rfl,⟨rfl,by constructor <;> decide⟩,Axi n⟩
theorem Bdu {ρ:Ro} {el r n:Nat} (hn:n < 1073741824):Grow ρ el (.slice (some ⟨r,0,none⟩) n n) (List.replicate n (0:Int)) [(r,.obj (.cells ((List.replicate n (0:Int)).map (Value.int .i64)).toArray el (0,0)))]:=by
 refine ⟨fun p hp=>?_,by rw [List.length_replicate]; omega,.inr ⟨r,n,List.replicate n (.int .i64 0),[],[],by rw [List.length_replicate],by rw [List.map_replicate,List.append_nil],Axi n,?_,by rw [List.length_replicate]; exact Nat.le_refl _⟩⟩
 ·rw [List.mem_singleton.1 hp]; exact ⟨_,rfl⟩
 ·rw [List.append_nil,List.length_replicate]; exact (Nat.mul_one n).symm
theorem Bak {ρ:Ro} {el:TypeId} {v:Value} {xs:List Span} {gr:Own} {i:Nat} {z:Span} (hG:Grow ρ el v xs gr) (hi:xs[i]? = some z):I64 z.low∧I64 z.high:=by
 obtain ⟨_,q0,r0,f0,⟨_,b0⟩,⟨_,b1⟩⟩:=Bfd hG hi; exact ⟨b0,b1⟩
section
variable {C:Ctx} {e:Env} {ds:List Deferred} {ρ:Ro} {σ:Own} {K:Value→List Deferred→Ro→Own→Prop} {rd:Option Nat} {dd:Option Tmp}
variable {ty:TypeId} {pos:String} {af:Array Edge} {g:Option (Nat × Bool)} {x y:Operand} {t:TypeId}
theorem Bgt {el:TypeId} {ti:TypeInfo} {n:Nat} (hT:C.P.underlying t = some (.slice el)) (hi:C.P.info? el = some ti) (hik:ti.size = 1) (hib:ti.bytes ≤ 1000) (hz:ti.zero = some (.int .i64 0))
  (hx:Af e x = .int .i64 (n:Int)) (hy:Af e y = .int .i64 (n:Int)) (hn:n < 1073741824) (h:∀ v gr,Grow ρ el v (List.replicate n (0:Int)) gr→K v ds ρ (gr ++ σ)) :
  wpS C.P ρ (execOp (Af e) ⟨dd,.makeSlice t x y,ty,pos,af,g⟩) σ (NextH C K rd ds ρ) :=
 Bcj hT hi hik hib hz hx hy hn fun _=>h _ _ (Bdu hn)
end
section
variable {P:Program} {ρ₀ ρ:Ro} {A:Own} {e:Env} {ty t t':TypeId} {x y:Operand} {v:Value}
theorem Bff {off i:Nat} {xs:List Span} {z:Span} {gr:Own} {el:TypeId} (hG:Grow ρ₀ el v xs gr) (hsub:∀ p ∈ gr,p ∈ A) (hi:xs[i]? = some z) (hT:∃ d,P.underlying t = some d∧Qv d = false) (hx:Af e x = .pointer (some ⟨Ahx v,off,none⟩)) (ho:off = i * Dat.k Span + 0):Axy P ρ₀ A e (.load t x) ty (.int .i64 z.low):=by
 obtain ⟨w,h1,h2⟩:=Bid (ty:=ty) Span.f_low rfl hG hsub hi hT hx ho
 obtain ⟨rfl,_⟩:=Cv.1 h1
 exact h2
theorem Bfe {off i:Nat} {xs:List Span} {z:Span} {gr:Own} {el:TypeId} (hG:Grow ρ₀ el v xs gr) (hsub:∀ p ∈ gr,p ∈ A) (hi:xs[i]? = some z) (hT:∃ d,P.underlying t = some d∧Qv d = false) (hx:Af e x = .pointer (some ⟨Ahx v,off,none⟩)) (ho:off = i * Dat.k Span + 1):Axy P ρ₀ A e (.load t x) ty (.int .i64 z.high):=by
 obtain ⟨w,h1,h2⟩:=Bid (ty:=ty) Span.f_high rfl hG hsub hi hT hx ho
 obtain ⟨rfl,_⟩:=Cv.1 h1
 exact h2
end
end
section
set_option maxHeartbeats 1000000
open Go
def Bac (b:TBook) (p:Int) (i:Nat):Prop:=∃ (j:Nat) (t:TStep),j < i∧b.steps[j]? = some t∧p ∈ t.out
def Bgv (b:TBook) (p:Int) (i:Nat):Prop:=∃ (j:Nat) (t:TStep),j < i∧b.steps[j]? = some t∧p ∈ t.in_
def Bhj (b:TBook) (i:Nat) (s:TStep) (k:Nat):Prop:=∀ p:Int,s.in_[k]? = some p→(0 ≤ p∧p ≤ (b.piles.length:Int) - 1)∧Bac b p i∧¬ Bgv b p i∧(∀ j:Nat,j < k→s.in_[j]? ≠ some p)
def Bgu (b:TBook) (i:Nat) (s:TStep) (k:Nat):Prop:=∀ p:Int,s.out[k]? = some p→(0 ≤ p∧p ≤ (b.piles.length:Int) - 1)∧¬ Bac b p i∧(∀ j:Nat,j < k→s.out[j]? ≠ some p)
def Bcp (b:TBook) (i:Nat):Prop:=∀ x,b.scales[i]? = some x→(0 ≤ x.pile∧x.pile ≤ (b.piles.length:Int) - 1)∧0 ≤ x.mass.low∧x.mass.low ≤ x.mass.high∧x.mass.high ≤ 1000000
def Bbw (b:TBook) (i:Nat):Prop:=∀ s,b.steps[i]? = some s→StepOk b i s
theorem Azp {α:Type} {l:List α} {i:Nat} {x:α} (h:l[i]? = some x):i < l.length:=(List.getElem?_eq_some_iff.1 h).1
theorem Bav {l:List Int} {k:Nat} {p:Int} (h:p ∉ l.take k):∀ j:Nat,j < k→l[j]? ≠ some p:=fun j hj he=>h (by
 have:(l.take k)[j]? = some p:=by rw [List.getElem?_take,if_pos hj]; exact he
 exact List.mem_of_getElem? this)
theorem Bdz {b:TBook} {i:Nat} {s:TStep} (h1:0 ≤ s.hand∧s.hand ≤ (b.hands.length:Int) - 1) (h2:∀ k,k < s.in_.length→Bhj b i s k) (h3:∀ k,k < s.out.length→Bgu b i s k) (h4:0 ≤ s.gain.low∧s.gain.low ≤ s.gain.high∧s.gain.high ≤ 1000000) (h5:0 ≤ s.loss.low∧s.loss.low ≤ s.loss.high∧s.loss.high ≤ 1000000):StepOk b i s :=
 ⟨h1,fun k p hp=>let ⟨a1,a2,a3,a4⟩:=h2 k (Azp hp) p hp; ⟨a1,a2,fun j t hj ht hm=>a3 ⟨j,t,hj,ht,hm⟩,a4⟩,fun k p hp=>let ⟨a1,a2,a3⟩:=h3 k (Azp hp) p hp; ⟨a1,fun j t hj ht hm=>a2 ⟨j,t,hj,ht,hm⟩,a3⟩,h4,h5⟩
theorem Bdm {b:TBook} (h1:Dd b.hands 4 = 0) (h2:Dd b.piles 12 = 0) (h3:b.steps.length ≤ 8) (h4:∀ j,j < b.steps.length→Bbw b j) (h5:∀ p:Nat,p < b.piles.length→Bac b (p:Int) b.steps.length) (h6:b.scales.length ≤ 10) (h7:∀ j,j < b.scales.length→Bcp b j):TBookOk b :=
 ⟨h1,h2,h3,fun i s hs=>h4 i (Azp hs) s hs,fun p hp=>let ⟨j,t,_,ht,hm⟩:=h5 p hp; ⟨j,t,ht,hm⟩,h6,fun i x hx=>h7 i (Azp hx) x hx⟩
variable {mn:Bool} {X:Frame→List Frame→Ro→Own→Cy→Prop} {ρ:Ro} {σ:Own}
theorem Bah {l:List ByteArray} {vl:Value} {most:Int} (rl:Val ρ vl l):CallsH (CX mn X) 66 #[vl,(iV (most))] ρ σ (rP ρ σ (iV (Dd l most))):=by
 refine Bh (n:=31) (args:=[vl,(iV (most))]) [4] Tryz.func66 rfl rfl rfl rfl fun Q hret hnor=>w_q rfl rfl fun K1 k1=>Bma (iV (0)) (Ary rfl rfl k1 fun K2 K3 k2 k3=>Bmb vl ?_)
 have g4:=Bop rl
 refine l_v (Ci (el:=9) Bhs rfl rl) (Bmb (iV (most)) (l_v (Gl rfl rfl) (l_k k3 (Up (t:=decide (((l.length:Nat):Int) > most)) rfl (fun b5=>?_) (fun b5=>?_)))))
 ·have q5:=of_decide_eq_true b5
  refine w_q rfl rfl fun K6 k6=>Bma (iV (2)) (l_k k6 (Aq (hret _ _ _ ⟨rfl,rfl,eT (iV (2)) ?_⟩)))
  rw [Dd,if_pos (by omega)]
 have q5:=of_decide_eq_false b5
 refine Al (k2 _ _ _ _ ?_)
 refine Asb rfl rfl fun K7 K8 k7 k8=>Bma (iV (0)) (l_k k8 (Ao (Cc (fun mm ee dd ρ' σ'=>∃ (i:Nat),(l.length - i) = mm∧[] = dd∧ρ = ρ'∧σ = σ'∧ee 0 = vl∧ee 5 = (iV ((i:Int)))∧(i ≤ l.length)∧(∀ j,j < i→Nh l j = 0)∧True) (m:=_) ⟨0,rfl,rfl,rfl,rfl,rfl,rfl,(Nat.zero_le _),(fun j h=>absurd h (Nat.not_lt_zero _)),trivial⟩ ?_)))
 rintro m9 e9 _ _ _ ⟨i,rfl,rfl,rfl,rfl,h9_0,h9_5,p9_0,p9_1,_⟩
 refine Asb rfl rfl fun K10 K11 k10 k11=>l_v (Ah (v:=(iV ((i:Int)))) h9_5) (l_v (Ah (v:=vl) h9_0) ?_)
 have g12:=Bop rl
 refine l_v (Ci (el:=9) Bhs rfl rl) (l_v (Da rfl rfl) (l_k k11 (Up (t:=decide ((i:Int) < ((l.length:Nat):Int))) rfl (fun b13=>?_) (fun b13=>?_))))
 ·have q13:=of_decide_eq_true b13
  refine Al (k10 _ _ _ _ ?_)
  refine Ai fun K14 k14=>Ao (Asb rfl rfl fun K15 K16 k15 k16=>l_v (Ah (v:=vl) h9_0) (l_v (Ah (v:=(iV ((i:Int)))) h9_5) ?_))
  obtain ⟨a18,ha18⟩:=Ed (xs:=l) (i:=i) (by omega)
  refine Arw (Ch i Bhs ty9 rfl rl (q:=(i:Int)) rfl rfl ha18) fun v17 r17=>?_
  have g19:=At.slen r17
  refine l_v (Pk ty9 rfl r17) (Arv (Bm (Azk) Boe rfl rfl ⟨rfl,trivial⟩ ?_))
  refine l_v (Iy rfl) (l_k k16 (Up (t:=!(Hg a18)) rfl (fun b20=>?_) (fun b20=>?_)))
  ·have b21:=not_eq_t b20
   refine w_q rfl rfl fun K22 k22=>Bma (iV (4)) (l_k k22 (Aq (hret _ _ _ ⟨rfl,rfl,eT (iV (4)) ?_⟩)))
   have hf:Nh l i = 4:=by simp only [Nh,ha18,b5,b13,b20,b21]; first | rfl | omega | (simp; done) | (simp; omega)
   rw [Dd,if_neg (by omega),Db p9_1 (by omega) hf (by omega)]
  have b23:=not_eq_f b20
  refine Al (k15 _ _ _ _ ?_)
  refine Ai fun K24 k24=>Bmw (Bmq 0 Aqu rfl (Ah (v:=vl) h9_0) (Bmq 1 Aqv rfl (Ah (v:=(iV ((i:Int)))) h9_5) (Bms 2 Aqw rfl (Avf i Bhs ty9 rfl rl (q:=(i:Int)) rfl rfl (by omega)) fun v25 r25=>Bmq 3 Aqx rfl (Ah (v:=vl) h9_0) (Bmr 4 Aqy rfl (Ah (v:=(iV ((i:Int)))) h9_5) (Bmu 5 Aoo rfl (Ch i Bhs ty9 rfl rl (q:=(i:Int)) rfl rfl ha18) fun v26 r26=>?_)))))
  have g27:=At.slen r26
  refine Bmr 6 Aop rfl (Pk ty9 rfl r26) (Bmt 7 Aqz rfl (Bm (Ber r25) Tryz.func109 rfl rfl ⟨rfl,rfl,trivial⟩ ⟨Bon,?_⟩))
  refine Bmr 8 Ara rfl (Uy rfl rfl) (Ec rfl (k24 _ _ _ _ ?_))
  refine Up (t:=decide (findI ((l.take i)) a18 ≥ 0)) rfl (fun b28=>?_) (fun b28=>?_)
  ·have q28:=of_decide_eq_true b28
   refine w_q rfl rfl fun K29 k29=>Bma (iV (5)) (l_k k29 (Aq (hret _ _ _ ⟨rfl,rfl,eT (iV (5)) ?_⟩)))
   have hf:Nh l i = 5:=by simp only [Nh,ha18,b5,b13,b20,b23,b28]; first | rfl | omega | (simp; done) | (simp; omega)
   rw [Dd,if_neg (by omega),Db p9_1 (by omega) hf (by omega)]
  have q28:=of_decide_eq_false b28
  refine Al (k14 _ _ _ _ ?_)
  refine Ag rfl rfl (l_v (Ah (v:=(iV ((i:Int)))) h9_5) (l_v (Br rfl rfl (z:=(((i + 1):Nat):Int)) wrE) (Bma (iV ((((i + 1):Nat):Int))) (Ac ?_))))
  refine ⟨_,?_,((i + 1)),rfl,rfl,rfl,rfl,h9_0,rfl,(by omega),(Eg p9_1 (by simp only [Nh,ha18,b5,b13,b20,b23,b28]; first | rfl | omega | (simp; done) | (simp; omega))),trivial⟩
  omega
 have q13:=of_decide_eq_false b13
 refine Bx (k7 _ _ _ _ ?_)
 refine w_q rfl rfl fun K30 k30=>Bma (iV (0)) (l_k k30 (Aq (hret _ _ _ ⟨rfl,rfl,eT (iV (0)) ?_⟩)))
 rw [Dd,if_neg (by omega),Fb fun j hj=>p9_1 j (by omega)]
theorem Azm {l:List Int} {vl:Value} {n:Int} (rl:Val ρ vl l):CallsH (CX mn X) 119 #[vl,(iV (n))] ρ σ (rP ρ σ (.bool (decide (n ∈ l)))):=by
 refine Bh (n:=18) (args:=[vl,(iV (n))]) [4] Bnm rfl rfl rfl rfl fun Q hret hnor=>w_q rfl rfl fun K1 k1=>Bma (.bool (false)) (Ary rfl rfl k1 fun K2 K3 k2 k3=>Bma (iV (0)) (l_k k3 (Ao (Cc (fun mm ee dd ρ' σ'=>∃ (i:Nat),(l.length - i) = mm∧[] = dd∧ρ = ρ'∧σ = σ'∧ee 0 = vl∧ee 1 = (iV (n))∧ee 5 = (iV ((i:Int)))∧(i ≤ l.length)∧(∀ j,j < i→l[j]? ≠ some n)∧True) (m:=_) ⟨0,rfl,rfl,rfl,rfl,rfl,rfl,rfl,(Nat.zero_le _),(fun j h=>absurd h (Nat.not_lt_zero _)),trivial⟩ ?_))))
 rintro m4 e4 _ _ _ ⟨i,rfl,rfl,rfl,rfl,h4_0,h4_1,h4_5,p4_0,p4_1,_⟩
 refine Asb rfl rfl fun K5 K6 k5 k6=>l_v (Ah (v:=(iV ((i:Int)))) h4_5) (l_v (Ah (v:=vl) h4_0) ?_)
 have g7:=Bop rl
 refine l_v (Ci (el:=3) Bho rfl rl) (l_v (Da rfl rfl) (l_k k6 (Up (t:=decide ((i:Int) < ((l.length:Nat):Int))) rfl (fun b8=>?_) (fun b8=>?_))))
 ·have q8:=of_decide_eq_true b8
  refine Al (k5 _ _ _ _ ?_)
  refine Ai fun K9 k9=>Ao (w_q rfl rfl fun K10 k10=>l_v (Ah (v:=vl) h4_0) (l_v (Ah (v:=(iV ((i:Int)))) h4_5) ?_))
  obtain ⟨a12,ha12⟩:=Ed (xs:=l) (i:=i) (by omega)
  refine Arw (Ch i Bho ty3 rfl rl (q:=(i:Int)) rfl rfl ha12) fun v11 r11=>?_
  have ⟨g13a,g13b⟩:=At.rng r11
  refine l_v (Bc ty3 rfl r11) (l_v (Ah (v:=(iV (n))) h4_1) (l_v (Ek rfl rfl) (l_k k10 (Up (t:=a12 == n) rfl (fun b14=>?_) (fun b14=>?_)))))
  ·have q14:=Jr b14
   refine w_q rfl rfl fun K15 k15=>Bma (.bool (true)) (l_k k15 (Aq (hret _ _ _ ⟨rfl,rfl,eT (.bool (true)) ?_⟩)))
   rw [decide_eq_true (List.mem_of_getElem? (i:=i) (by rw [ha12,q14]))]
  have q14:=Jq b14
  refine Al (k9 _ _ _ _ ?_)
  refine Ag rfl rfl (l_v (Ah (v:=(iV ((i:Int)))) h4_5) (l_v (Br rfl rfl (z:=(((i + 1):Nat):Int)) wrE) (Bma (iV ((((i + 1):Nat):Int))) (Ac ?_))))
  refine ⟨_,?_,((i + 1)),rfl,rfl,rfl,rfl,h4_0,h4_1,rfl,(by omega),(Eg p4_1 (fun h=>by rw [ha12] at h; injection h with h1; exact q14 h1)),trivial⟩
  omega
 have q8:=of_decide_eq_false b8
 refine Bx (k2 _ _ _ _ ?_)
 refine w_q rfl rfl fun K16 k16=>Bma (.bool (false)) (l_k k16 (Aq (hret _ _ _ ⟨rfl,rfl,eT (.bool (false)) ?_⟩)))
 rw [decide_eq_false (Bcb fun j hj=>p4_1 j (by omega))]
theorem Awq {b:TBook} {vb:Value} {p:Int} {i:Nat} (rb:Val ρ vb b) (hi:i ≤ b.steps.length) (hn:b.steps.length ≤ 8):CallsH (CX mn X) 68 #[vb,(iV (p)),(iV ((i:Int)))] ρ σ (fun w ρ' σ'=>ρ' = ρ∧σ' = σ∧∃ f:Int,w = .int .i64 f∧-1 ≤ f∧f ≤ 100∧(0 ≤ f↔Bac b p i)):=by
 refine Bh (n:=22) (args:=[vb,(iV (p)),(iV ((i:Int)))]) [6] Bof rfl rfl rfl rfl fun Q hret hnor=>w_q rfl rfl fun K1 k1=>Arv (Eb (v:=vb) rfl fun k2=>?_)
 refine Bb (a:=b) rb fun ρ2 l2 r2=>Bma (iV (0)) (Ary rfl rfl k1 fun K3 K4 k3 k4=>Bma (iV (0)) (l_k k4 (Ao (Cc (fun mm ee dd ρ' σ'=>∃ (k:Nat),(i - k) = mm∧[] = dd∧ρ2 = ρ'∧σ = σ'∧ee 1 = (iV (p))∧ee 2 = (iV ((i:Int)))∧ee 3 = (.pointer (some ⟨k2,0,none⟩))∧ee 7 = (iV ((k:Int)))∧(k ≤ i)∧(∀ j,j < k→∀ t,b.steps[j]? = some t→p ∉ t.out)∧True) (m:=_) ⟨0,rfl,rfl,rfl,rfl,rfl,rfl,rfl,rfl,(Nat.zero_le _),(fun j h=>absurd h (Nat.not_lt_zero _)),trivial⟩ ?_))))
 rintro m5 e5 _ _ _ ⟨k,rfl,rfl,rfl,rfl,h5_1,h5_2,h5_3,h5_7,p5_0,p5_1,_⟩
 refine Asb rfl rfl fun K6 K7 k6 k7=>l_v (Ah (v:=(iV ((k:Int)))) h5_7) (l_v (Ah (v:=(iV ((i:Int)))) h5_2) (l_v (Da rfl rfl) (l_k k7 (Up (t:=decide ((k:Int) < (i:Int))) rfl (fun b8=>?_) (fun b8=>?_)))))
 ·have q8:=of_decide_eq_true b8
  refine Al (k6 _ _ _ _ ?_)
  refine Ai fun K9 k9=>Ao (w_q rfl rfl fun K10 k10=>Arw (Ay TBook.f_steps Bhr rfl rfl Mx (by decide) h5_3 r2) fun v11 r11=>Arw (Ax Mx rfl r11) fun v12 r12=>l_v (Ah (v:=(iV ((k:Int)))) h5_7) ?_)
  obtain ⟨a14,ha14⟩:=Ed (xs:=b.steps) (i:=k) (by omega)
  refine Arw (Ch k Bih Atb rfl r12 (q:=(k:Int)) rfl rfl ha14) fun v13 r13=>Arw (Ay TStep.f_out Bht rfl rfl Vh (by decide) rfl r13) fun v15 r15=>Arw (Ax Vh rfl r15) fun v16 r16=>l_v (Ah (v:=(iV (p))) h5_1) (Arv (Bm (Azm r16) Bnm rfl rfl ⟨rfl,rfl,trivial⟩ ?_))
  refine l_k k10 (Up (t:=decide (p ∈ a14.out)) rfl (fun b17=>?_) (fun b17=>?_))
  ·have q17:=of_decide_eq_true b17
   refine w_q rfl rfl fun K18 k18=>l_v (Ah (v:=(iV ((k:Int)))) h5_7) (Bma (iV ((k:Int))) (l_k k18 (Aj (Bok l2) (Aq (hret _ _ _ (⟨rfl,rfl,_,rfl,by omega,by omega,⟨fun _=>⟨k,a14,by omega,ha14,q17⟩,fun _=>by omega⟩⟩))))))
  have q17:=of_decide_eq_false b17
  refine Al (k9 _ _ _ _ ?_)
  refine Ag rfl rfl (l_v (Ah (v:=(iV ((k:Int)))) h5_7) (l_v (Br rfl rfl (z:=(((k + 1):Nat):Int)) wrE) (Bma (iV ((((k + 1):Nat):Int))) (Ac ?_))))
  refine ⟨_,?_,((k + 1)),rfl,rfl,rfl,rfl,h5_1,h5_2,h5_3,rfl,(by omega),(Eg p5_1 (fun t ht=>by rw [ha14] at ht; cases ht; exact q17)),trivial⟩
  omega
 have q8:=of_decide_eq_false b8
 refine Bx (k3 _ _ _ _ ?_)
 refine w_q rfl rfl fun K19 k19=>Bma (iV ((-1))) (l_k k19 (Aj (Bok l2) (Aq (hret _ _ _ (⟨rfl,rfl,_,rfl,by omega,by omega,⟨fun h=>absurd h (by omega),fun h=>?_⟩⟩)))))
 obtain ⟨j,t,hj,ht,hm⟩:=h
 exact absurd hm (p5_1 j (by omega) t ht)
theorem Bfs {b:TBook} {vb:Value} {p:Int} {i:Nat} (rb:Val ρ vb b) (hi:i ≤ b.steps.length) (hn:b.steps.length ≤ 8):CallsH (CX mn X) 118 #[vb,(iV (p)),(iV ((i:Int)))] ρ σ (fun w ρ' σ'=>ρ' = ρ∧σ' = σ∧∃ f:Int,w = .int .i64 f∧-1 ≤ f∧f ≤ 100∧(0 ≤ f↔Bgv b p i)):=by
 refine Bh (n:=22) (args:=[vb,(iV (p)),(iV ((i:Int)))]) [6] Tryz.func118 rfl rfl rfl rfl fun Q hret hnor=>w_q rfl rfl fun K1 k1=>Arv (Eb (v:=vb) rfl fun k2=>?_)
 refine Bb (a:=b) rb fun ρ2 l2 r2=>Bma (iV (0)) (Ary rfl rfl k1 fun K3 K4 k3 k4=>Bma (iV (0)) (l_k k4 (Ao (Cc (fun mm ee dd ρ' σ'=>∃ (k:Nat),(i - k) = mm∧[] = dd∧ρ2 = ρ'∧σ = σ'∧ee 1 = (iV (p))∧ee 2 = (iV ((i:Int)))∧ee 3 = (.pointer (some ⟨k2,0,none⟩))∧ee 7 = (iV ((k:Int)))∧(k ≤ i)∧(∀ j,j < k→∀ t,b.steps[j]? = some t→p ∉ t.in_)∧True) (m:=_) ⟨0,rfl,rfl,rfl,rfl,rfl,rfl,rfl,rfl,(Nat.zero_le _),(fun j h=>absurd h (Nat.not_lt_zero _)),trivial⟩ ?_))))
 rintro m5 e5 _ _ _ ⟨k,rfl,rfl,rfl,rfl,h5_1,h5_2,h5_3,h5_7,p5_0,p5_1,_⟩
 refine Asb rfl rfl fun K6 K7 k6 k7=>l_v (Ah (v:=(iV ((k:Int)))) h5_7) (l_v (Ah (v:=(iV ((i:Int)))) h5_2) (l_v (Da rfl rfl) (l_k k7 (Up (t:=decide ((k:Int) < (i:Int))) rfl (fun b8=>?_) (fun b8=>?_)))))
 ·have q8:=of_decide_eq_true b8
  refine Al (k6 _ _ _ _ ?_)
  refine Ai fun K9 k9=>Ao (w_q rfl rfl fun K10 k10=>Arw (Ay TBook.f_steps Bhr rfl rfl Mx (by decide) h5_3 r2) fun v11 r11=>Arw (Ax Mx rfl r11) fun v12 r12=>l_v (Ah (v:=(iV ((k:Int)))) h5_7) ?_)
  obtain ⟨a14,ha14⟩:=Ed (xs:=b.steps) (i:=k) (by omega)
  refine Arw (Ch k Bih Atb rfl r12 (q:=(k:Int)) rfl rfl ha14) fun v13 r13=>Arw (Ay TStep.f_in_ Bht rfl rfl Vh (by decide) rfl r13) fun v15 r15=>Arw (Ax Vh rfl r15) fun v16 r16=>l_v (Ah (v:=(iV (p))) h5_1) (Arv (Bm (Azm r16) Bnm rfl rfl ⟨rfl,rfl,trivial⟩ ?_))
  refine l_k k10 (Up (t:=decide (p ∈ a14.in_)) rfl (fun b17=>?_) (fun b17=>?_))
  ·have q17:=of_decide_eq_true b17
   refine w_q rfl rfl fun K18 k18=>l_v (Ah (v:=(iV ((k:Int)))) h5_7) (Bma (iV ((k:Int))) (l_k k18 (Aj (Bok l2) (Aq (hret _ _ _ (⟨rfl,rfl,_,rfl,by omega,by omega,⟨fun _=>⟨k,a14,by omega,ha14,q17⟩,fun _=>by omega⟩⟩))))))
  have q17:=of_decide_eq_false b17
  refine Al (k9 _ _ _ _ ?_)
  refine Ag rfl rfl (l_v (Ah (v:=(iV ((k:Int)))) h5_7) (l_v (Br rfl rfl (z:=(((k + 1):Nat):Int)) wrE) (Bma (iV ((((k + 1):Nat):Int))) (Ac ?_))))
  refine ⟨_,?_,((k + 1)),rfl,rfl,rfl,rfl,h5_1,h5_2,h5_3,rfl,(by omega),(Eg p5_1 (fun t ht=>by rw [ha14] at ht; cases ht; exact q17)),trivial⟩
  omega
 have q8:=of_decide_eq_false b8
 refine Bx (k3 _ _ _ _ ?_)
 refine w_q rfl rfl fun K19 k19=>Bma (iV ((-1))) (l_k k19 (Aj (Bok l2) (Aq (hret _ _ _ (⟨rfl,rfl,_,rfl,by omega,by omega,⟨fun h=>absurd h (by omega),fun h=>?_⟩⟩)))))
 obtain ⟨j,t,hj,ht,hm⟩:=h
 exact absurd hm (p5_1 j (by omega) t ht)
theorem Azd {b:TBook} {vb:Value} {i:Nat} (rb:Val ρ vb b) (hi:i < b.steps.length) (hn:b.steps.length ≤ 8):CallsH (CX mn X) 67 #[vb,(iV ((i:Int)))] ρ σ (fun w ρ' σ'=>ρ' = ρ∧σ' = σ∧∃ f:Int,w = .int .i64 f∧(f = 0→Bbw b i)):=by
 refine Bh (n:=118) (args:=[vb,(iV ((i:Int)))]) [4] Tryz.func67 rfl rfl rfl rfl fun Q hret hnor=>w_q rfl rfl fun K1 k1=>Arv (Eb (v:=vb) rfl fun k2=>?_)
 refine Bb (a:=b) rb fun ρ2 l2 r2=>Bma (iV (0)) (Arx rfl rfl k1 fun K3 k3=>Arw (Ay TBook.f_steps Bhr rfl rfl Mx (by decide) rfl r2) fun v4 r4=>Arw (Ax Mx rfl r4) fun v5 r5=>Bmb (iV ((i:Int))) ?_)
 obtain ⟨a7,ha7⟩:=Ed (xs:=b.steps) (i:=i) (by omega)
 refine Arw (Ch i Bih Atb rfl r5 (q:=(i:Int)) rfl rfl ha7) fun v6 r6=>Arw (Ax Atb rfl r6) fun v8 r8=>Arv (Ct Ayd fun k9=>?_)
 refine Cx rfl (Dv (v:=v8) (a:=a7) (c:=Bab) Atb rfl rfl r8 rfl ?_)
 refine Bb (a:=a7) r8 fun ρ10 l10 r10=>?_
 replace r2:=At.mono l10 r2
 refine Ary rfl rfl k3 fun K11 K12 k11 k12=>Arw (Ay TStep.f_hand Bht rfl rfl ty3 (by decide) rfl r10) fun v13 r13=>?_
 have ⟨g14a,g14b⟩:=At.rng r13
 refine l_v (Bc ty3 rfl r13) (Arw (Ay TBook.f_hands Bhr rfl rfl Hw (by decide) rfl r2) fun v15 r15=>Arw (Ax Hw rfl r15) fun v16 r16=>?_)
 have g17:=Bop r16
 refine l_v (Ci (el:=9) Bhs rfl r16) (l_v (Ou rfl rfl (z:=(((b.hands.length:Nat):Int) - 1)) wrE) (Arv (Bm (Aul) Blj rfl rfl ⟨rfl,rfl,rfl,trivial⟩ ?_)))
 refine l_v (Iy rfl) (l_k k12 (Up (t:=!(inR a7.hand 0 ((((b.hands.length:Nat):Int) - 1)))) rfl (fun b18=>?_) (fun b18=>?_)))
 ·have b19:=not_eq_t b18
  have q19:=Tr.1 b19
  refine w_q rfl rfl fun K20 k20=>Bma (iV (6)) (l_k k20 (Aj (Bok (Boo l2 l10)) (Aq (hret _ _ _ (⟨rfl,rfl,_,rfl,fun h=>absurd h (by decide)⟩)))))
 have b21:=not_eq_f b18
 have q21:=Fz.1 b21
 refine Al (k11 _ _ _ _ ?_)
 refine Asb rfl rfl fun K22 K23 k22 k23=>Bma (iV (0)) (l_k k23 (Ao (Cc (fun mm ee dd ρ' σ'=>∃ (k:Nat),(a7.in_.length - k) = mm∧[] = dd∧ρ10 = ρ'∧σ = σ'∧ee 1 = (iV ((i:Int)))∧ee 2 = (.pointer (some ⟨k2,0,none⟩))∧ee 5 = (.pointer (some ⟨k9,0,none⟩))∧ee 6 = (iV ((k:Int)))∧(k ≤ a7.in_.length)∧(∀ j,j < k→Bhj b i a7 j)∧True) (m:=_) ⟨0,rfl,rfl,rfl,rfl,rfl,rfl,rfl,rfl,(Nat.zero_le _),(fun j h=>absurd h (Nat.not_lt_zero _)),trivial⟩ ?_)))
 rintro m24 e24 _ _ _ ⟨k,rfl,rfl,rfl,rfl,h24_1,h24_2,h24_5,h24_6,p24_0,p24_1,_⟩
 refine Asb rfl rfl fun K25 K26 k25 k26=>l_v (Ah (v:=(iV ((k:Int)))) h24_6) (Arw (Ay TStep.f_in_ Bht rfl rfl Vh (by decide) h24_5 r10) fun v27 r27=>Arw (Ax Vh rfl r27) fun v28 r28=>?_)
 have g29:=Bop r28
 refine l_v (Ci (el:=3) Bho rfl r28) (l_v (Da rfl rfl) (l_k k26 (Up (t:=decide ((k:Int) < ((a7.in_.length:Nat):Int))) rfl (fun b30=>?_) (fun b30=>?_))))
 ·have q30:=of_decide_eq_true b30
  refine Al (k25 _ _ _ _ ?_)
  refine Ai fun K31 k31=>Ao (Ai fun K32 k32=>Ai fun K33 k33=>Bmw (Bms 0 Aoz rfl (Ay TStep.f_in_ Bht rfl rfl Vh (by decide) h24_5 r10) fun v34 r34=>Bms 1 Apa rfl (Ax Vh rfl r34) fun v35 r35=>Bmq 2 Amh rfl (Ah (v:=(iV ((k:Int)))) h24_6) ?_))
  obtain ⟨a37,ha37⟩:=Ed (xs:=a7.in_) (i:=k) (by omega)
  refine Bms 3 Ami rfl (Ch k Bho ty3 rfl r35 (q:=(k:Int)) rfl rfl ha37) fun v36 r36=>?_
  have ⟨g38a,g38b⟩:=At.rng r36
  refine Bmq 4 Apb rfl (Bc ty3 rfl r36) (Bmu 5 Aqs rfl (Ay TBook.f_piles Bhr rfl rfl Hw (by decide) h24_2 r2) fun v39 r39=>Bmu 6 Aoc rfl (Ax Hw rfl r39) fun v40 r40=>?_)
  have g41:=Bop r40
  refine Bmr 7 Aod rfl (Ci (el:=9) Bhs rfl r40) (Bmr 8 Aoe rfl (Ou rfl rfl (z:=(((b.piles.length:Nat):Int) - 1)) wrE) (Bmt 9 Aof rfl (Bm (Aul) Blj rfl rfl ⟨rfl,rfl,rfl,trivial⟩ ⟨Bon,?_⟩)))
  refine Bmr 10 Aog rfl (Iy rfl) (Ec rfl (k33 _ _ _ _ ?_))
  refine Up (t:=!(inR a37 0 ((((b.piles.length:Nat):Int) - 1)))) rfl (fun b42=>?_) (fun b42=>?_)
  ·have b43:=not_eq_t b42
   have q43:=Tr.1 b43
   refine w_q rfl rfl fun K44 k44=>Bma (iV (6)) (l_k k44 (Aj (Bok (Boo l2 l10)) (Aq (hret _ _ _ (⟨rfl,rfl,_,rfl,fun h=>absurd h (by decide)⟩)))))
  have b45:=not_eq_f b42
  have q45:=Fz.1 b45
  refine Al (k32 _ _ _ _ ?_)
  refine Ai fun K46 k46=>Ai fun K47 k47=>Bmw (Bms 0 Aqu rfl (Ax Ath h24_2 r2) fun v48 r48=>Bms 1 Aqv rfl (Ay TStep.f_in_ Bht rfl rfl Vh (by decide) h24_5 r10) fun v49 r49=>Bms 2 Aqw rfl (Ax Vh rfl r49) fun v50 r50=>Bmq 3 Aqx rfl (Ah (v:=(iV ((k:Int)))) h24_6) (Bms 4 Aqy rfl (Ch k Bho ty3 rfl r50 (q:=(k:Int)) rfl rfl ha37) fun v51 r51=>?_))
  have ⟨g52a,g52b⟩:=At.rng r51
  refine Bmq 5 Aoo rfl (Bc ty3 rfl r51) (Bmr 6 Aop rfl (Ah (v:=(iV ((i:Int)))) h24_1) (Bmt 7 Aqz rfl (Cm (vs:=[v48,(iV (a37)),(iV ((i:Int)))]) (Awq r48 (by omega) (by omega)) Bof rfl rfl ⟨rfl,rfl,rfl,trivial⟩ fun w53 ρ53 σ53 hc53=>?_)))
  obtain ⟨hr53,hs53,f53_,hw53,ga53,gb53,hz53⟩:=hc53
  replace hr53:=hr53.symm; replace hs53:=hs53.symm; subst hr53 hs53 hw53
  refine ⟨Bon,?_⟩
  refine Bmr 8 Ara rfl (Da rfl rfl) (Ec rfl (k47 _ _ _ _ ?_))
  refine Up (t:=decide (f53_ < 0)) rfl (fun b54=>?_) (fun b54=>?_)
  ·have q54:=of_decide_eq_true b54
   refine w_q rfl rfl fun K55 k55=>Bma (iV (7)) (l_k k55 (Aj (Bok (Boo l2 l10)) (Aq (hret _ _ _ (⟨rfl,rfl,_,rfl,fun h=>absurd h (by decide)⟩)))))
  have q54:=of_decide_eq_false b54
  refine Al (k46 _ _ _ _ ?_)
  refine Ai fun K56 k56=>Bmw (Bms 0 Arb rfl (Ax Ath h24_2 r2) fun v57 r57=>Bms 1 Arc rfl (Ay TStep.f_in_ Bht rfl rfl Vh (by decide) h24_5 r10) fun v58 r58=>Bms 2 Ard rfl (Ax Vh rfl r58) fun v59 r59=>Bmq 3 Are rfl (Ah (v:=(iV ((k:Int)))) h24_6) (Bms 4 Arf rfl (Ch k Bho ty3 rfl r59 (q:=(k:Int)) rfl rfl ha37) fun v60 r60=>?_))
  have ⟨g61a,g61b⟩:=At.rng r60
  refine Bmq 5 Bbj rfl (Bc ty3 rfl r60) (Bmr 6 Azf rfl (Ah (v:=(iV ((i:Int)))) h24_1) (Bmt 7 Azg rfl (Cm (vs:=[v57,(iV (a37)),(iV ((i:Int)))]) (Bfs r57 (by omega) (by omega)) Tryz.func118 rfl rfl ⟨rfl,rfl,rfl,trivial⟩ fun w62 ρ62 σ62 hc62=>?_)))
  obtain ⟨hr62,hs62,f62_,hw62,ga62,gb62,hz62⟩:=hc62
  replace hr62:=hr62.symm; replace hs62:=hs62.symm; subst hr62 hs62 hw62
  refine ⟨Bon,?_⟩
  refine Bmr 8 Azh rfl (Uy rfl rfl) (Bmr 9 Azi rfl (Ah (v:=(.bool (decide (f62_ ≥ 0)))) rfl) (Akk (decide (f62_ ≥ 0)) (fun b63=>?_) (fun b63=>?_)))
  ·have q63:=of_decide_eq_true b63
   refine Bmh 10 Aon rfl Bon (gN rfl b63) (Bmh 11 Aqg rfl Bon (gN rfl b63) (Bmh 12 Aqh rfl Bon (gN rfl b63) (Bmh 13 Aqi rfl Bon (gN rfl b63) (Bmh 14 Aqj rfl Bon (gN rfl b63) (Bmh 15 Ant rfl Bon (gN rfl b63) (Bmi 16 Anu rfl Bon (gN rfl b63) (Bmi 17 Anv rfl Bon (gN rfl b63) (Bmi 18 Anw rfl Bon (gN rfl b63) (Bmi 19 Anx rfl Bon (gN rfl b63) (Bmr 20 Anz rfl (Bt rfl b63 (v:=(.bool (true))) rfl) (Ec rfl (k56 _ _ _ _ ?_))))))))))))
   refine Co rfl rfl (w_q rfl rfl fun K64 k64=>Bma (iV (5)) (l_k k64 (Aj (Bok (Boo l2 l10)) (Aq (hret _ _ _ (⟨rfl,rfl,_,rfl,fun h=>absurd h (by decide)⟩))))))
  have q63:=of_decide_eq_false b63
  refine Bme 10 Aon rfl Bon (gY rfl b63) (Ay TStep.f_in_ Bht rfl rfl Vh (by decide) h24_5 r10) fun v65 r65=>Bme 11 Aqg rfl Bon (gY rfl b63) (Ax Vh rfl r65) fun v66 r66=>Bmc 12 Aqh rfl Bon (gY rfl b63) (Ah (v:=(iV ((k:Int)))) h24_6) (Bme 13 Aqi rfl Bon (gY rfl b63) (Avf k Bho ty3 rfl r66 (q:=(k:Int)) rfl rfl (by omega)) fun v67 r67=>Bme 14 Aqj rfl Bon (gY rfl b63) (Ay TStep.f_in_ Bht rfl rfl Vh (by decide) h24_5 r10) fun v68 r68=>Bme 15 Ant rfl Bon (gY rfl b63) (Ax Vh rfl r68) fun v69 r69=>Bmd 16 Anu rfl Bon (gY rfl b63) (Ah (v:=(iV ((k:Int)))) h24_6) (Bmg 17 Anv rfl Bon (gY rfl b63) (Ch k Bho ty3 rfl r69 (q:=(k:Int)) rfl rfl ha37) fun v70 r70=>?_))
  have ⟨g71a,g71b⟩:=At.rng r70
  refine Bmd 18 Anw rfl Bon (gY rfl b63) (Bc ty3 rfl r70) (Bmf 19 Anx rfl (gY rfl b63) (Bm (Azm r67) Bnm rfl rfl ⟨rfl,rfl,trivial⟩ ⟨Bon,?_⟩))
  refine Bmr 20 Anz rfl (Bn rfl b63 (v:=(.bool (decide (a37 ∈ ((a7.in_.take k)))))) rfl) (Ec rfl (k56 _ _ _ _ ?_))
  refine Up (t:=decide (a37 ∈ ((a7.in_.take k)))) rfl (fun b72=>?_) (fun b72=>?_)
  ·have q72:=of_decide_eq_true b72
   refine w_q rfl rfl fun K73 k73=>Bma (iV (5)) (l_k k73 (Aj (Bok (Boo l2 l10)) (Aq (hret _ _ _ (⟨rfl,rfl,_,rfl,fun h=>absurd h (by decide)⟩)))))
  have q72:=of_decide_eq_false b72
  refine Al (k31 _ _ _ _ ?_)
  refine Ag rfl rfl (l_v (Ah (v:=(iV ((k:Int)))) h24_6) (l_v (Br rfl rfl (z:=(((k + 1):Nat):Int)) wrE) (Bma (iV ((((k + 1):Nat):Int))) (Ac ?_))))
  refine ⟨_,?_,((k + 1)),rfl,rfl,rfl,rfl,h24_1,h24_2,h24_5,rfl,(by omega),(Eg p24_1 (fun p hp=>by rw [ha37] at hp; cases hp; exact ⟨by omega,hz53.1 (by omega),fun hc=>absurd (hz62.2 hc) (by omega),Bav q72⟩)),trivial⟩
  omega
 have q30:=of_decide_eq_false b30
 refine Bx (k22 _ _ _ _ ?_)
 refine Asb rfl rfl fun K74 K75 k74 k75=>Bma (iV (0)) (l_k k75 (Ao (Cc (fun mm ee dd ρ' σ'=>∃ (kk:Nat),(a7.out.length - kk) = mm∧[] = dd∧ρ10 = ρ'∧σ = σ'∧ee 1 = (iV ((i:Int)))∧ee 2 = (.pointer (some ⟨k2,0,none⟩))∧ee 5 = (.pointer (some ⟨k9,0,none⟩))∧ee 7 = (iV ((kk:Int)))∧(kk ≤ a7.out.length)∧(∀ j,j < kk→Bgu b i a7 j)∧True) (m:=_) ⟨0,rfl,rfl,rfl,rfl,h24_1,h24_2,h24_5,rfl,(Nat.zero_le _),(fun j h=>absurd h (Nat.not_lt_zero _)),trivial⟩ ?_)))
 rintro m76 e76 _ _ _ ⟨kk,rfl,rfl,rfl,rfl,h76_1,h76_2,h76_5,h76_7,p76_0,p76_1,_⟩
 refine Asb rfl rfl fun K77 K78 k77 k78=>l_v (Ah (v:=(iV ((kk:Int)))) h76_7) (Arw (Ay TStep.f_out Bht rfl rfl Vh (by decide) h76_5 r10) fun v79 r79=>Arw (Ax Vh rfl r79) fun v80 r80=>?_)
 have g81:=Bop r80
 refine l_v (Ci (el:=3) Bho rfl r80) (l_v (Da rfl rfl) (l_k k78 (Up (t:=decide ((kk:Int) < ((a7.out.length:Nat):Int))) rfl (fun b82=>?_) (fun b82=>?_))))
 ·have q82:=of_decide_eq_true b82
  refine Al (k77 _ _ _ _ ?_)
  refine Ai fun K83 k83=>Ao (Ai fun K84 k84=>Ai fun K85 k85=>Bmw (Bms 0 Aoz rfl (Ay TStep.f_out Bht rfl rfl Vh (by decide) h76_5 r10) fun v86 r86=>Bms 1 Apa rfl (Ax Vh rfl r86) fun v87 r87=>Bmq 2 Amh rfl (Ah (v:=(iV ((kk:Int)))) h76_7) ?_))
  obtain ⟨a89,ha89⟩:=Ed (xs:=a7.out) (i:=kk) (by omega)
  refine Bms 3 Ami rfl (Ch kk Bho ty3 rfl r87 (q:=(kk:Int)) rfl rfl ha89) fun v88 r88=>?_
  have ⟨g90a,g90b⟩:=At.rng r88
  refine Bmq 4 Apb rfl (Bc ty3 rfl r88) (Bmu 5 Aqs rfl (Ay TBook.f_piles Bhr rfl rfl Hw (by decide) h76_2 r2) fun v91 r91=>Bmu 6 Aoc rfl (Ax Hw rfl r91) fun v92 r92=>?_)
  have g93:=Bop r92
  refine Bmr 7 Aod rfl (Ci (el:=9) Bhs rfl r92) (Bmr 8 Aoe rfl (Ou rfl rfl (z:=(((b.piles.length:Nat):Int) - 1)) wrE) (Bmt 9 Aof rfl (Bm (Aul) Blj rfl rfl ⟨rfl,rfl,rfl,trivial⟩ ⟨Bon,?_⟩)))
  refine Bmr 10 Aog rfl (Iy rfl) (Ec rfl (k85 _ _ _ _ ?_))
  refine Up (t:=!(inR a89 0 ((((b.piles.length:Nat):Int) - 1)))) rfl (fun b94=>?_) (fun b94=>?_)
  ·have b95:=not_eq_t b94
   have q95:=Tr.1 b95
   refine w_q rfl rfl fun K96 k96=>Bma (iV (6)) (l_k k96 (Aj (Bok (Boo l2 l10)) (Aq (hret _ _ _ (⟨rfl,rfl,_,rfl,fun h=>absurd h (by decide)⟩)))))
  have b97:=not_eq_f b94
  have q97:=Fz.1 b97
  refine Al (k84 _ _ _ _ ?_)
  refine Ai fun K98 k98=>Bmw (Bms 0 Arb rfl (Ax Ath h76_2 r2) fun v99 r99=>Bms 1 Arc rfl (Ay TStep.f_out Bht rfl rfl Vh (by decide) h76_5 r10) fun v100 r100=>Bms 2 Ard rfl (Ax Vh rfl r100) fun v101 r101=>Bmq 3 Are rfl (Ah (v:=(iV ((kk:Int)))) h76_7) (Bms 4 Arf rfl (Ch kk Bho ty3 rfl r101 (q:=(kk:Int)) rfl rfl ha89) fun v102 r102=>?_))
  have ⟨g103a,g103b⟩:=At.rng r102
  refine Bmq 5 Bbj rfl (Bc ty3 rfl r102) (Bmr 6 Azf rfl (Ah (v:=(iV ((i:Int)))) h76_1) (Bmt 7 Azg rfl (Cm (vs:=[v99,(iV (a89)),(iV ((i:Int)))]) (Awq r99 (by omega) (by omega)) Bof rfl rfl ⟨rfl,rfl,rfl,trivial⟩ fun w104 ρ104 σ104 hc104=>?_)))
  obtain ⟨hr104,hs104,f104_,hw104,ga104,gb104,hz104⟩:=hc104
  replace hr104:=hr104.symm; replace hs104:=hs104.symm; subst hr104 hs104 hw104
  refine ⟨Bon,?_⟩
  refine Bmr 8 Azh rfl (Uy rfl rfl) (Bmr 9 Azi rfl (Ah (v:=(.bool (decide (f104_ ≥ 0)))) rfl) (Akk (decide (f104_ ≥ 0)) (fun b105=>?_) (fun b105=>?_)))
  ·have q105:=of_decide_eq_true b105
   refine Bmh 10 Aon rfl Bon (gN rfl b105) (Bmh 11 Aqg rfl Bon (gN rfl b105) (Bmh 12 Aqh rfl Bon (gN rfl b105) (Bmh 13 Aqi rfl Bon (gN rfl b105) (Bmh 14 Aqj rfl Bon (gN rfl b105) (Bmh 15 Ant rfl Bon (gN rfl b105) (Bmi 16 Anu rfl Bon (gN rfl b105) (Bmi 17 Anv rfl Bon (gN rfl b105) (Bmi 18 Anw rfl Bon (gN rfl b105) (Bmi 19 Anx rfl Bon (gN rfl b105) (Bmr 20 Anz rfl (Bt rfl b105 (v:=(.bool (true))) rfl) (Ec rfl (k98 _ _ _ _ ?_))))))))))))
   refine Co rfl rfl (w_q rfl rfl fun K106 k106=>Bma (iV (5)) (l_k k106 (Aj (Bok (Boo l2 l10)) (Aq (hret _ _ _ (⟨rfl,rfl,_,rfl,fun h=>absurd h (by decide)⟩))))))
  have q105:=of_decide_eq_false b105
  refine Bme 10 Aon rfl Bon (gY rfl b105) (Ay TStep.f_out Bht rfl rfl Vh (by decide) h76_5 r10) fun v107 r107=>Bme 11 Aqg rfl Bon (gY rfl b105) (Ax Vh rfl r107) fun v108 r108=>Bmc 12 Aqh rfl Bon (gY rfl b105) (Ah (v:=(iV ((kk:Int)))) h76_7) (Bme 13 Aqi rfl Bon (gY rfl b105) (Avf kk Bho ty3 rfl r108 (q:=(kk:Int)) rfl rfl (by omega)) fun v109 r109=>Bme 14 Aqj rfl Bon (gY rfl b105) (Ay TStep.f_out Bht rfl rfl Vh (by decide) h76_5 r10) fun v110 r110=>Bme 15 Ant rfl Bon (gY rfl b105) (Ax Vh rfl r110) fun v111 r111=>Bmd 16 Anu rfl Bon (gY rfl b105) (Ah (v:=(iV ((kk:Int)))) h76_7) (Bmg 17 Anv rfl Bon (gY rfl b105) (Ch kk Bho ty3 rfl r111 (q:=(kk:Int)) rfl rfl ha89) fun v112 r112=>?_))
  have ⟨g113a,g113b⟩:=At.rng r112
  refine Bmd 18 Anw rfl Bon (gY rfl b105) (Bc ty3 rfl r112) (Bmf 19 Anx rfl (gY rfl b105) (Bm (Azm r109) Bnm rfl rfl ⟨rfl,rfl,trivial⟩ ⟨Bon,?_⟩))
  refine Bmr 20 Anz rfl (Bn rfl b105 (v:=(.bool (decide (a89 ∈ ((a7.out.take kk)))))) rfl) (Ec rfl (k98 _ _ _ _ ?_))
  refine Up (t:=decide (a89 ∈ ((a7.out.take kk)))) rfl (fun b114=>?_) (fun b114=>?_)
  ·have q114:=of_decide_eq_true b114
   refine w_q rfl rfl fun K115 k115=>Bma (iV (5)) (l_k k115 (Aj (Bok (Boo l2 l10)) (Aq (hret _ _ _ (⟨rfl,rfl,_,rfl,fun h=>absurd h (by decide)⟩)))))
  have q114:=of_decide_eq_false b114
  refine Al (k83 _ _ _ _ ?_)
  refine Ag rfl rfl (l_v (Ah (v:=(iV ((kk:Int)))) h76_7) (l_v (Br rfl rfl (z:=(((kk + 1):Nat):Int)) wrE) (Bma (iV ((((kk + 1):Nat):Int))) (Ac ?_))))
  refine ⟨_,?_,((kk + 1)),rfl,rfl,rfl,rfl,h76_1,h76_2,h76_5,rfl,(by omega),(Eg p76_1 (fun p hp=>by rw [ha89] at hp; cases hp; exact ⟨by omega,fun hc=>absurd (hz104.2 hc) (by omega),Bav q114⟩)),trivial⟩
  omega
 have q82:=of_decide_eq_false b82
 refine Bx (k74 _ _ _ _ ?_)
 refine Asb rfl rfl fun K116 K117 k116 k117=>Arw (Ay TStep.f_gain Bht rfl rfl ty65 (by decide) h76_5 r10) fun v118 r118=>Arw (Ax ty65 rfl r118) fun v119 r119=>Arv (Bm (Aum r119) Bng rfl rfl ⟨rfl,rfl,rfl,trivial⟩ ?_)
 refine l_v (Iy rfl) (Bmb (.bool (!(Ef a7.gain 0 1000000))) (Cn (!(Ef a7.gain 0 1000000)) (fun b120=>?_) (fun b120=>?_)))
 ·have b121:=not_eq_t b120
  have q121:=trivial
  refine Ap (gN rfl b120) (Ap (gN rfl b120) (Ap (gN rfl b120) (Ap (gN rfl b120) (l_v (Bt rfl b120 (v:=(.bool (true))) rfl) (l_k k117 (Co rfl rfl (w_q rfl rfl fun K122 k122=>Bma (iV (1)) (l_k k122 (Aj (Bok (Boo l2 l10)) (Aq (hret _ _ _ (⟨rfl,rfl,_,rfl,fun h=>absurd h (by decide)⟩))))))))))))
 have b123:=not_eq_f b120
 have q123:=Re.1 b123
 refine Ak (gY rfl b120) (Ay TStep.f_loss Bht rfl rfl ty65 (by decide) h76_5 r10) fun v124 r124=>Ak (gY rfl b120) (Ax ty65 rfl r124) fun v125 r125=>Ae (gY rfl b120) (Bm (Aum r125) Bng rfl rfl ⟨rfl,rfl,rfl,trivial⟩ ?_)
 refine Aa (gY rfl b120) (Iy rfl) (l_v (Bn rfl b120 (v:=(.bool (!(Ef a7.loss 0 1000000)))) rfl) (l_k k117 (Up (t:=!(Ef a7.loss 0 1000000)) rfl (fun b126=>?_) (fun b126=>?_))))
 ·have b127:=not_eq_t b126
  have q127:=trivial
  refine w_q rfl rfl fun K128 k128=>Bma (iV (1)) (l_k k128 (Aj (Bok (Boo l2 l10)) (Aq (hret _ _ _ (⟨rfl,rfl,_,rfl,fun h=>absurd h (by decide)⟩)))))
 have b129:=not_eq_f b126
 have q129:=Re.1 b129
 refine Al (k116 _ _ _ _ ?_)
 refine w_q rfl rfl fun K130 k130=>Bma (iV (0)) (l_k k130 (Aj (Bok (Boo l2 l10)) (Aq (hret _ _ _ (⟨rfl,rfl,_,rfl,fun _ s hs=>?_⟩)))))
 rw [ha7] at hs; cases hs
 exact Bdz (by omega) (fun k hk=>p24_1 k (by omega)) (fun k hk=>p76_1 k (by omega)) q123 q129
theorem Aws {b:TBook} {vb:Value}  (rb:Val ρ vb b):CallsH (CX mn X) 25 #[vb] ρ σ (fun w ρ' σ'=>ρ' = ρ∧σ' = σ∧∃ f:Int,w = .int .i64 f∧(f = 0→TBookOk b)):=by
 refine Bh (n:=83) (args:=[vb]) [2] Tryz.func25 rfl rfl rfl rfl fun Q hret hnor=>w_q rfl rfl fun K1 k1=>Arv (Eb (v:=vb) rfl fun k2=>?_)
 refine Bb (a:=b) rb fun ρ2 l2 r2=>Bma (iV (0)) (Ary rfl rfl k1 fun K3 K4 k3 k4=>Arw (Ay TBook.f_hands Bhr rfl rfl Hw (by decide) rfl r2) fun v5 r5=>Arw (Ax Hw rfl r5) fun v6 r6=>Arv (Bm (Bah r6) Tryz.func66 rfl rfl ⟨rfl,rfl,trivial⟩ ?_))
 refine Bma (iV (Dd b.hands 4)) (Arx rfl rfl k4 fun K7 k7=>Bmb (iV (Dd b.hands 4)) (l_v (Dg rfl rfl) (l_k k7 (Up (t:=Dd b.hands 4 != 0) rfl (fun b8=>?_) (fun b8=>?_)))))
 ·have q8:=Ls b8
  refine w_q rfl rfl fun K9 k9=>Bmb (iV (Dd b.hands 4)) (Bma (iV (Dd b.hands 4)) (l_k k9 (Aj (Bok l2) (Aq (hret _ _ _ (⟨rfl,rfl,_,rfl,fun h=>absurd h (by exact q8)⟩))))))
 have q8:=Jh b8
 refine Al (k3 _ _ _ _ ?_)
 refine Asb rfl rfl fun K10 K11 k10 k11=>Arw (Ay TBook.f_piles Bhr rfl rfl Hw (by decide) rfl r2) fun v12 r12=>Arw (Ax Hw rfl r12) fun v13 r13=>Arv (Bm (Bah r13) Tryz.func66 rfl rfl ⟨rfl,rfl,trivial⟩ ?_)
 refine Bma (iV (Dd b.piles 12)) (Arx rfl rfl k11 fun K14 k14=>Bmb (iV (Dd b.piles 12)) (l_v (Dg rfl rfl) (l_k k14 (Up (t:=Dd b.piles 12 != 0) rfl (fun b15=>?_) (fun b15=>?_)))))
 ·have q15:=Ls b15
  refine w_q rfl rfl fun K16 k16=>Bmb (iV (Dd b.piles 12)) (Bma (iV (Dd b.piles 12)) (l_k k16 (Aj (Bok l2) (Aq (hret _ _ _ (⟨rfl,rfl,_,rfl,fun h=>absurd h (by exact q15)⟩))))))
 have q15:=Jh b15
 refine Al (k10 _ _ _ _ ?_)
 refine Asb rfl rfl fun K17 K18 k17 k18=>Arw (Ay TBook.f_steps Bhr rfl rfl Mx (by decide) rfl r2) fun v19 r19=>Arw (Ax Mx rfl r19) fun v20 r20=>?_
 have g21:=Bop r20
 refine l_v (Ci (el:=176) Bih rfl r20) (l_v (Gl rfl rfl) (l_k k18 (Up (t:=decide (((b.steps.length:Nat):Int) > 8)) rfl (fun b22=>?_) (fun b22=>?_))))
 ·have q22:=of_decide_eq_true b22
  refine w_q rfl rfl fun K23 k23=>Bma (iV (2)) (l_k k23 (Aj (Bok l2) (Aq (hret _ _ _ (⟨rfl,rfl,_,rfl,fun h=>absurd h (by decide)⟩)))))
 have q22:=of_decide_eq_false b22
 refine Al (k17 _ _ _ _ ?_)
 refine Asb rfl rfl fun K24 K25 k24 k25=>Bma (iV (0)) (l_k k25 (Ao (Cc (fun mm ee dd ρ' σ'=>∃ (i:Nat),(b.steps.length - i) = mm∧[] = dd∧ρ2 = ρ'∧σ = σ'∧ee 1 = (.pointer (some ⟨k2,0,none⟩))∧ee 5 = (iV ((i:Int)))∧(i ≤ b.steps.length)∧(∀ j,j < i→Bbw b j)∧True) (m:=_) ⟨0,rfl,rfl,rfl,rfl,rfl,rfl,(Nat.zero_le _),(fun j h=>absurd h (Nat.not_lt_zero _)),trivial⟩ ?_)))
 rintro m26 e26 _ _ _ ⟨i,rfl,rfl,rfl,rfl,h26_1,h26_5,p26_0,p26_1,_⟩
 refine Asb rfl rfl fun K27 K28 k27 k28=>l_v (Ah (v:=(iV ((i:Int)))) h26_5) (Arw (Ay TBook.f_steps Bhr rfl rfl Mx (by decide) h26_1 r2) fun v29 r29=>Arw (Ax Mx rfl r29) fun v30 r30=>?_)
 have g31:=Bop r30
 refine l_v (Ci (el:=176) Bih rfl r30) (l_v (Da rfl rfl) (l_k k28 (Up (t:=decide ((i:Int) < ((b.steps.length:Nat):Int))) rfl (fun b32=>?_) (fun b32=>?_))))
 ·have q32:=of_decide_eq_true b32
  refine Al (k27 _ _ _ _ ?_)
  refine Ai fun K33 k33=>Ao (w_q rfl rfl fun K34 k34=>Arw (Ax Ath h26_1 r2) fun v35 r35=>l_v (Ah (v:=(iV ((i:Int)))) h26_5) (Arv (Cm (vs:=[v35,(iV ((i:Int)))]) (Azd r35 (by omega) (by omega)) Tryz.func67 rfl rfl ⟨rfl,rfl,trivial⟩ fun w36 ρ36 σ36 hc36=>?_)))
  obtain ⟨hr36,hs36,f36_,hw36,hz36⟩:=hc36
  replace hr36:=hr36.symm; replace hs36:=hs36.symm; subst hr36 hs36 hw36
  refine Bma (iV (f36_)) (Arx rfl rfl k34 fun K37 k37=>Bmb (iV (f36_)) (l_v (Dg rfl rfl) (l_k k37 (Up (t:=f36_ != 0) rfl (fun b38=>?_) (fun b38=>?_)))))
  ·have q38:=Ls b38
   refine w_q rfl rfl fun K39 k39=>Bmb (iV (f36_)) (Bma (iV (f36_)) (l_k k39 (Aj (Bok l2) (Aq (hret _ _ _ (⟨rfl,rfl,_,rfl,fun h=>absurd h (by exact q38)⟩))))))
  have q38:=Jh b38
  refine Al (k33 _ _ _ _ ?_)
  refine Ag rfl rfl (l_v (Ah (v:=(iV ((i:Int)))) h26_5) (l_v (Br rfl rfl (z:=(((i + 1):Nat):Int)) wrE) (Bma (iV ((((i + 1):Nat):Int))) (Ac ?_))))
  refine ⟨_,?_,((i + 1)),rfl,rfl,rfl,rfl,h26_1,rfl,(by omega),(Eg p26_1 ((hz36 q38))),trivial⟩
  omega
 have q32:=of_decide_eq_false b32
 refine Bx (k24 _ _ _ _ ?_)
 refine Asb rfl rfl fun K40 K41 k40 k41=>Bma (iV (0)) (l_k k41 (Ao (Cc (fun mm ee dd ρ' σ'=>∃ (k:Nat),(b.piles.length - k) = mm∧[] = dd∧ρ2 = ρ'∧σ = σ'∧ee 1 = (.pointer (some ⟨k2,0,none⟩))∧ee 7 = (iV ((k:Int)))∧(k ≤ b.piles.length)∧(∀ j,j < k→Bac b (j:Int) b.steps.length)∧True) (m:=_) ⟨0,rfl,rfl,rfl,rfl,h26_1,rfl,(Nat.zero_le _),(fun j h=>absurd h (Nat.not_lt_zero _)),trivial⟩ ?_)))
 rintro m42 e42 _ _ _ ⟨k,rfl,rfl,rfl,rfl,h42_1,h42_7,p42_0,p42_1,_⟩
 refine Asb rfl rfl fun K43 K44 k43 k44=>l_v (Ah (v:=(iV ((k:Int)))) h42_7) (Arw (Ay TBook.f_piles Bhr rfl rfl Hw (by decide) h42_1 r2) fun v45 r45=>Arw (Ax Hw rfl r45) fun v46 r46=>?_)
 have g47:=Bop r46
 refine l_v (Ci (el:=9) Bhs rfl r46) (l_v (Da rfl rfl) (l_k k44 (Up (t:=decide ((k:Int) < ((b.piles.length:Nat):Int))) rfl (fun b48=>?_) (fun b48=>?_))))
 ·have q48:=of_decide_eq_true b48
  refine Al (k43 _ _ _ _ ?_)
  refine Ai fun K49 k49=>Ao (w_q rfl rfl fun K50 k50=>Arw (Ax Ath h42_1 r2) fun v51 r51=>l_v (Ah (v:=(iV ((k:Int)))) h42_7) (Arw (Ay TBook.f_steps Bhr rfl rfl Mx (by decide) h42_1 r2) fun v52 r52=>Arw (Ax Mx rfl r52) fun v53 r53=>?_))
  have g54:=Bop r53
  refine l_v (Ci (el:=176) Bih rfl r53) (Arv (Cm (vs:=[v51,(iV ((k:Int))),(iV (((b.steps.length:Nat):Int)))]) (Awq r51 (by omega) (by omega)) Bof rfl rfl ⟨rfl,rfl,rfl,trivial⟩ fun w55 ρ55 σ55 hc55=>?_))
  obtain ⟨hr55,hs55,f55_,hw55,ga55,gb55,hz55⟩:=hc55
  replace hr55:=hr55.symm; replace hs55:=hs55.symm; subst hr55 hs55 hw55
  refine l_v (Da rfl rfl) (l_k k50 (Up (t:=decide (f55_ < 0)) rfl (fun b56=>?_) (fun b56=>?_)))
  ·have q56:=of_decide_eq_true b56
   refine w_q rfl rfl fun K57 k57=>Bma (iV (6)) (l_k k57 (Aj (Bok l2) (Aq (hret _ _ _ (⟨rfl,rfl,_,rfl,fun h=>absurd h (by decide)⟩)))))
  have q56:=of_decide_eq_false b56
  refine Al (k49 _ _ _ _ ?_)
  refine Ag rfl rfl (l_v (Ah (v:=(iV ((k:Int)))) h42_7) (l_v (Br rfl rfl (z:=(((k + 1):Nat):Int)) wrE) (Bma (iV ((((k + 1):Nat):Int))) (Ac ?_))))
  refine ⟨_,?_,((k + 1)),rfl,rfl,rfl,rfl,h42_1,rfl,(by omega),(Eg p42_1 ((hz55.1 (by omega)))),trivial⟩
  omega
 have q48:=of_decide_eq_false b48
 refine Bx (k40 _ _ _ _ ?_)
 refine Asb rfl rfl fun K58 K59 k58 k59=>Arw (Ay TBook.f_scales Bhr rfl rfl Asy (by decide) h42_1 r2) fun v60 r60=>Arw (Ax Asy rfl r60) fun v61 r61=>?_
 have g62:=Bop r61
 refine l_v (Ci (el:=180) Bib rfl r61) (l_v (Gl rfl rfl) (l_k k59 (Up (t:=decide (((b.scales.length:Nat):Int) > 10)) rfl (fun b63=>?_) (fun b63=>?_))))
 ·have q63:=of_decide_eq_true b63
  refine w_q rfl rfl fun K64 k64=>Bma (iV (2)) (l_k k64 (Aj (Bok l2) (Aq (hret _ _ _ (⟨rfl,rfl,_,rfl,fun h=>absurd h (by decide)⟩)))))
 have q63:=of_decide_eq_false b63
 refine Al (k58 _ _ _ _ ?_)
 refine Asb rfl rfl fun K65 K66 k65 k66=>Bma (iV (0)) (l_k k66 (Ao (Cc (fun mm ee dd ρ' σ'=>∃ (m:Nat),(b.scales.length - m) = mm∧[] = dd∧ρ2 = ρ'∧σ = σ'∧ee 1 = (.pointer (some ⟨k2,0,none⟩))∧ee 8 = (iV ((m:Int)))∧(m ≤ b.scales.length)∧(∀ j,j < m→Bcp b j)∧True) (m:=_) ⟨0,rfl,rfl,rfl,rfl,h42_1,rfl,(Nat.zero_le _),(fun j h=>absurd h (Nat.not_lt_zero _)),trivial⟩ ?_)))
 rintro m67 e67 _ _ _ ⟨m,rfl,rfl,rfl,rfl,h67_1,h67_8,p67_0,p67_1,_⟩
 refine Asb rfl rfl fun K68 K69 k68 k69=>l_v (Ah (v:=(iV ((m:Int)))) h67_8) (Arw (Ay TBook.f_scales Bhr rfl rfl Asy (by decide) h67_1 r2) fun v70 r70=>Arw (Ax Asy rfl r70) fun v71 r71=>?_)
 have g72:=Bop r71
 refine l_v (Ci (el:=180) Bib rfl r71) (l_v (Da rfl rfl) (l_k k69 (Up (t:=decide ((m:Int) < ((b.scales.length:Nat):Int))) rfl (fun b73=>?_) (fun b73=>?_))))
 ·have q73:=of_decide_eq_true b73
  refine Al (k68 _ _ _ _ ?_)
  refine Ai fun K74 k74=>Ao (Ai fun K75 k75=>Ai fun K76 k76=>Bmw (Bms 0 Aql rfl (Ay TBook.f_scales Bhr rfl rfl Asy (by decide) h67_1 r2) fun v77 r77=>Bms 1 Aqm rfl (Ax Asy rfl r77) fun v78 r78=>Bmq 2 Aqn rfl (Ah (v:=(iV ((m:Int)))) h67_8) ?_))
  obtain ⟨a80,ha80⟩:=Ed (xs:=b.scales) (i:=m) (by omega)
  refine Bms 3 Aqo rfl (Ch m Bib Atn rfl r78 (q:=(m:Int)) rfl rfl ha80) fun v79 r79=>Bms 4 Aqp rfl (Ay TScale.f_pile Bjb rfl rfl ty3 (by decide) rfl r79) fun v81 r81=>?_
  have ⟨g82a,g82b⟩:=At.rng r81
  refine Bmq 5 Aqq rfl (Bc ty3 rfl r81) (Bmu 6 Aqr rfl (Ay TBook.f_piles Bhr rfl rfl Hw (by decide) h67_1 r2) fun v83 r83=>Bmu 7 Aom rfl (Ax Hw rfl r83) fun v84 r84=>?_)
  have g85:=Bop r84
  refine Bmr 8 Aoa rfl (Ci (el:=9) Bhs rfl r84) (Bmr 9 Ans rfl (Ou rfl rfl (z:=(((b.piles.length:Nat):Int) - 1)) wrE) (Bmt 10 zZ4 rfl (Bm (Aul) Blj rfl rfl ⟨rfl,rfl,rfl,trivial⟩ ⟨Bon,?_⟩)))
  refine Bmr 11 zZ5 rfl (Iy rfl) (Ec rfl (k76 _ _ _ _ ?_))
  refine Up (t:=!(inR a80.pile 0 ((((b.piles.length:Nat):Int) - 1)))) rfl (fun b86=>?_) (fun b86=>?_)
  ·have b87:=not_eq_t b86
   have q87:=Tr.1 b87
   refine w_q rfl rfl fun K88 k88=>Bma (iV (6)) (l_k k88 (Aj (Bok l2) (Aq (hret _ _ _ (⟨rfl,rfl,_,rfl,fun h=>absurd h (by decide)⟩)))))
  have b89:=not_eq_f b86
  have q89:=Fz.1 b89
  refine Al (k75 _ _ _ _ ?_)
  refine w_q rfl rfl fun K90 k90=>Arw (Ay TBook.f_scales Bhr rfl rfl Asy (by decide) h67_1 r2) fun v91 r91=>Arw (Ax Asy rfl r91) fun v92 r92=>l_v (Ah (v:=(iV ((m:Int)))) h67_8) (Arw (Ch m Bib Atn rfl r92 (q:=(m:Int)) rfl rfl ha80) fun v93 r93=>Arw (Ay TScale.f_mass Bjb rfl rfl ty65 (by decide) rfl r93) fun v94 r94=>Arw (Ax ty65 rfl r94) fun v95 r95=>Arv (Bm (Aum r95) Bng rfl rfl ⟨rfl,rfl,rfl,trivial⟩ ?_))
  refine l_v (Iy rfl) (l_k k90 (Up (t:=!(Ef a80.mass 0 1000000)) rfl (fun b96=>?_) (fun b96=>?_)))
  ·have b97:=not_eq_t b96
   have q97:=trivial
   refine w_q rfl rfl fun K98 k98=>Bma (iV (1)) (l_k k98 (Aj (Bok l2) (Aq (hret _ _ _ (⟨rfl,rfl,_,rfl,fun h=>absurd h (by decide)⟩)))))
  have b99:=not_eq_f b96
  have q99:=Re.1 b99
  refine Al (k74 _ _ _ _ ?_)
  refine Ag rfl rfl (l_v (Ah (v:=(iV ((m:Int)))) h67_8) (l_v (Br rfl rfl (z:=(((m + 1):Nat):Int)) wrE) (Bma (iV ((((m + 1):Nat):Int))) (Ac ?_))))
  refine ⟨_,?_,((m + 1)),rfl,rfl,rfl,rfl,h67_1,rfl,(by omega),(Eg p67_1 (fun x hx=>by rw [ha80] at hx; cases hx; exact ⟨by omega,q99⟩)),trivial⟩
  omega
 have q73:=of_decide_eq_false b73
 refine Bx (k65 _ _ _ _ ?_)
 refine w_q rfl rfl fun K100 k100=>Bma (iV (0)) (l_k k100 (Aj (Bok l2) (Aq (hret _ _ _ (⟨rfl,rfl,_,rfl,fun _=>Bdm q8 q15 (by omega) (fun j hj=>p26_1 j (by omega)) (fun j hj=>p42_1 j (by omega)) (by omega) (fun j hj=>p67_1 j (by omega))⟩)))))
theorem Bec {b:TBook} {vb:Value}  (rb:Val ρ vb b):CallsH (CX mn X) 24 #[vb] ρ σ (fun w ρ' σ'=>ρ' = ρ∧σ' = σ∧∃ b,w = .bool b):=by
 refine Bh (n:=81) (args:=[vb]) [2] Tryz.func24 rfl rfl rfl rfl fun Q hret hnor=>w_q rfl rfl fun K1 k1=>Arv (Eb (v:=vb) rfl fun k2=>?_)
 refine Bb (a:=b) rb fun ρ2 l2 r2=>Bma (.bool (false)) (Ary rfl rfl k1 fun K3 K4 k3 k4=>Arw (Ay TBook.f_hands Bhr rfl rfl Hw (by decide) rfl r2) fun v5 r5=>Arw (Ax Hw rfl r5) fun v6 r6=>?_)
 have g7:=Bop r6
 refine l_v (Ci (el:=9) Bhs rfl r6) (l_v (Gl rfl rfl) (Bmb (.bool (decide (((b.hands.length:Nat):Int) > 40))) (Cn (decide (((b.hands.length:Nat):Int) > 40)) (fun b8=>?_) (fun b8=>?_))))
 ·have q8:=of_decide_eq_true b8
  refine Ap (gN rfl b8) (Ap (gN rfl b8) (Ap (gN rfl b8) (Ap (gN rfl b8) (l_v (Bt rfl b8 (v:=(.bool (true))) rfl) (Bmb (.bool (true)) (Ap (gN rfl rfl) (Ap (gN rfl rfl) (Ap (gN rfl rfl) (Ap (gN rfl rfl) (l_v (Bt rfl rfl (v:=(.bool (true))) rfl) (Bmb (.bool (true)) (Ap (gN rfl rfl) (Ap (gN rfl rfl) (Ap (gN rfl rfl) (Ap (gN rfl rfl) (l_v (Bt rfl rfl (v:=(.bool (true))) rfl) (l_k k4 (Co rfl rfl (w_q rfl rfl fun K9 k9=>Bma (.bool (true)) (l_k k9 (Aj (Bok l2) (Aq (hret _ _ _ (⟨rfl,rfl,_,rfl⟩))))))))))))))))))))))))
 have q8:=of_decide_eq_false b8
 refine Ak (gY rfl b8) (Ay TBook.f_piles Bhr rfl rfl Hw (by decide) rfl r2) fun v10 r10=>Ak (gY rfl b8) (Ax Hw rfl r10) fun v11 r11=>?_
 have g12:=Bop r11
 refine Aa (gY rfl b8) (Ci (el:=9) Bhs rfl r11) (Aa (gY rfl b8) (Gl rfl rfl) (l_v (Bn rfl b8 (v:=(.bool (decide (((b.piles.length:Nat):Int) > 40)))) rfl) (Bmb (.bool (decide (((b.piles.length:Nat):Int) > 40))) (Cn (decide (((b.piles.length:Nat):Int) > 40)) (fun b13=>?_) (fun b13=>?_)))))
 ·have q13:=of_decide_eq_true b13
  refine Ap (gN rfl b13) (Ap (gN rfl b13) (Ap (gN rfl b13) (Ap (gN rfl b13) (l_v (Bt rfl b13 (v:=(.bool (true))) rfl) (Bmb (.bool (true)) (Ap (gN rfl rfl) (Ap (gN rfl rfl) (Ap (gN rfl rfl) (Ap (gN rfl rfl) (l_v (Bt rfl rfl (v:=(.bool (true))) rfl) (l_k k4 (Co rfl rfl (w_q rfl rfl fun K14 k14=>Bma (.bool (true)) (l_k k14 (Aj (Bok l2) (Aq (hret _ _ _ (⟨rfl,rfl,_,rfl⟩))))))))))))))))))
 have q13:=of_decide_eq_false b13
 refine Ak (gY rfl b13) (Ay TBook.f_steps Bhr rfl rfl Mx (by decide) rfl r2) fun v15 r15=>Ak (gY rfl b13) (Ax Mx rfl r15) fun v16 r16=>?_
 have g17:=Bop r16
 refine Aa (gY rfl b13) (Ci (el:=176) Bih rfl r16) (Aa (gY rfl b13) (Gl rfl rfl) (l_v (Bn rfl b13 (v:=(.bool (decide (((b.steps.length:Nat):Int) > 40)))) rfl) (Bmb (.bool (decide (((b.steps.length:Nat):Int) > 40))) (Cn (decide (((b.steps.length:Nat):Int) > 40)) (fun b18=>?_) (fun b18=>?_)))))
 ·have q18:=of_decide_eq_true b18
  refine Ap (gN rfl b18) (Ap (gN rfl b18) (Ap (gN rfl b18) (Ap (gN rfl b18) (l_v (Bt rfl b18 (v:=(.bool (true))) rfl) (l_k k4 (Co rfl rfl (w_q rfl rfl fun K19 k19=>Bma (.bool (true)) (l_k k19 (Aj (Bok l2) (Aq (hret _ _ _ (⟨rfl,rfl,_,rfl⟩))))))))))))
 have q18:=of_decide_eq_false b18
 refine Ak (gY rfl b18) (Ay TBook.f_scales Bhr rfl rfl Asy (by decide) rfl r2) fun v20 r20=>Ak (gY rfl b18) (Ax Asy rfl r20) fun v21 r21=>?_
 have g22:=Bop r21
 refine Aa (gY rfl b18) (Ci (el:=180) Bib rfl r21) (Aa (gY rfl b18) (Gl rfl rfl) (l_v (Bn rfl b18 (v:=(.bool (decide (((b.scales.length:Nat):Int) > 40)))) rfl) (l_k k4 (Up (t:=decide (((b.scales.length:Nat):Int) > 40)) rfl (fun b23=>?_) (fun b23=>?_)))))
 ·have q23:=of_decide_eq_true b23
  refine w_q rfl rfl fun K24 k24=>Bma (.bool (true)) (l_k k24 (Aj (Bok l2) (Aq (hret _ _ _ (⟨rfl,rfl,_,rfl⟩)))))
 have q23:=of_decide_eq_false b23
 refine Al (k3 _ _ _ _ ?_)
 refine Asb rfl rfl fun K25 K26 k25 k26=>Bma (iV (0)) (l_k k26 (Ao (Cc (fun mm ee dd ρ' σ'=>∃ (i:Nat),(b.hands.length - i) = mm∧[] = dd∧ρ2 = ρ'∧σ = σ'∧ee 1 = (.pointer (some ⟨k2,0,none⟩))∧ee 3 = (iV ((i:Int)))∧(i ≤ b.hands.length)∧True) (m:=_) ⟨0,rfl,rfl,rfl,rfl,rfl,rfl,(Nat.zero_le _),trivial⟩ ?_)))
 rintro m27 e27 _ _ _ ⟨i,rfl,rfl,rfl,rfl,h27_1,h27_3,p27_0,_⟩
 refine Asb rfl rfl fun K28 K29 k28 k29=>l_v (Ah (v:=(iV ((i:Int)))) h27_3) (Arw (Ay TBook.f_hands Bhr rfl rfl Hw (by decide) h27_1 r2) fun v30 r30=>Arw (Ax Hw rfl r30) fun v31 r31=>?_)
 have g32:=Bop r31
 refine l_v (Ci (el:=9) Bhs rfl r31) (l_v (Da rfl rfl) (l_k k29 (Up (t:=decide ((i:Int) < ((b.hands.length:Nat):Int))) rfl (fun b33=>?_) (fun b33=>?_))))
 ·have q33:=of_decide_eq_true b33
  refine Al (k28 _ _ _ _ ?_)
  refine Ai fun K34 k34=>Ao (w_q rfl rfl fun K35 k35=>Arw (Ay TBook.f_hands Bhr rfl rfl Hw (by decide) h27_1 r2) fun v36 r36=>Arw (Ax Hw rfl r36) fun v37 r37=>l_v (Ah (v:=(iV ((i:Int)))) h27_3) ?_)
  obtain ⟨a39,ha39⟩:=Ed (xs:=b.hands) (i:=i) (by omega)
  refine Arw (Ch i Bhs ty9 rfl r37 (q:=(i:Int)) rfl rfl ha39) fun v38 r38=>?_
  have g40:=At.slen r38
  refine l_v (Pk ty9 rfl r38) (l_v (Afz Bja (s:=a39) rfl) (l_v (Gl rfl rfl) (l_k k35 (Up (t:=decide (((a39.size:Nat):Int) > 100)) rfl (fun b41=>?_) (fun b41=>?_)))))
  ·have q41:=of_decide_eq_true b41
   refine w_q rfl rfl fun K42 k42=>Bma (.bool (true)) (l_k k42 (Aj (Bok l2) (Aq (hret _ _ _ (⟨rfl,rfl,_,rfl⟩)))))
  have q41:=of_decide_eq_false b41
  refine Al (k34 _ _ _ _ ?_)
  refine Ag rfl rfl (l_v (Ah (v:=(iV ((i:Int)))) h27_3) (l_v (Br rfl rfl (z:=(((i + 1):Nat):Int)) wrE) (Bma (iV ((((i + 1):Nat):Int))) (Ac ?_))))
  refine ⟨_,?_,((i + 1)),rfl,rfl,rfl,rfl,h27_1,rfl,(by omega),trivial⟩
  omega
 have q33:=of_decide_eq_false b33
 refine Bx (k25 _ _ _ _ ?_)
 refine Asb rfl rfl fun K43 K44 k43 k44=>Bma (iV (0)) (l_k k44 (Ao (Cc (fun mm ee dd ρ' σ'=>∃ (i:Nat),(b.piles.length - i) = mm∧[] = dd∧ρ2 = ρ'∧σ = σ'∧ee 1 = (.pointer (some ⟨k2,0,none⟩))∧ee 4 = (iV ((i:Int)))∧(i ≤ b.piles.length)∧True) (m:=_) ⟨0,rfl,rfl,rfl,rfl,h27_1,rfl,(Nat.zero_le _),trivial⟩ ?_)))
 rintro m45 e45 _ _ _ ⟨i,rfl,rfl,rfl,rfl,h45_1,h45_4,p45_0,_⟩
 refine Asb rfl rfl fun K46 K47 k46 k47=>l_v (Ah (v:=(iV ((i:Int)))) h45_4) (Arw (Ay TBook.f_piles Bhr rfl rfl Hw (by decide) h45_1 r2) fun v48 r48=>Arw (Ax Hw rfl r48) fun v49 r49=>?_)
 have g50:=Bop r49
 refine l_v (Ci (el:=9) Bhs rfl r49) (l_v (Da rfl rfl) (l_k k47 (Up (t:=decide ((i:Int) < ((b.piles.length:Nat):Int))) rfl (fun b51=>?_) (fun b51=>?_))))
 ·have q51:=of_decide_eq_true b51
  refine Al (k46 _ _ _ _ ?_)
  refine Ai fun K52 k52=>Ao (w_q rfl rfl fun K53 k53=>Arw (Ay TBook.f_piles Bhr rfl rfl Hw (by decide) h45_1 r2) fun v54 r54=>Arw (Ax Hw rfl r54) fun v55 r55=>l_v (Ah (v:=(iV ((i:Int)))) h45_4) ?_)
  obtain ⟨a57,ha57⟩:=Ed (xs:=b.piles) (i:=i) (by omega)
  refine Arw (Ch i Bhs ty9 rfl r55 (q:=(i:Int)) rfl rfl ha57) fun v56 r56=>?_
  have g58:=At.slen r56
  refine l_v (Pk ty9 rfl r56) (l_v (Afz Bja (s:=a57) rfl) (l_v (Gl rfl rfl) (l_k k53 (Up (t:=decide (((a57.size:Nat):Int) > 100)) rfl (fun b59=>?_) (fun b59=>?_)))))
  ·have q59:=of_decide_eq_true b59
   refine w_q rfl rfl fun K60 k60=>Bma (.bool (true)) (l_k k60 (Aj (Bok l2) (Aq (hret _ _ _ (⟨rfl,rfl,_,rfl⟩)))))
  have q59:=of_decide_eq_false b59
  refine Al (k52 _ _ _ _ ?_)
  refine Ag rfl rfl (l_v (Ah (v:=(iV ((i:Int)))) h45_4) (l_v (Br rfl rfl (z:=(((i + 1):Nat):Int)) wrE) (Bma (iV ((((i + 1):Nat):Int))) (Ac ?_))))
  refine ⟨_,?_,((i + 1)),rfl,rfl,rfl,rfl,h45_1,rfl,(by omega),trivial⟩
  omega
 have q51:=of_decide_eq_false b51
 refine Bx (k43 _ _ _ _ ?_)
 refine Asb rfl rfl fun K61 K62 k61 k62=>Bma (iV (0)) (l_k k62 (Ao (Cc (fun mm ee dd ρ' σ'=>∃ (i:Nat),(b.steps.length - i) = mm∧[] = dd∧ρ2 = ρ'∧σ = σ'∧ee 1 = (.pointer (some ⟨k2,0,none⟩))∧ee 5 = (iV ((i:Int)))∧(i ≤ b.steps.length)∧True) (m:=_) ⟨0,rfl,rfl,rfl,rfl,h45_1,rfl,(Nat.zero_le _),trivial⟩ ?_)))
 rintro m63 e63 _ _ _ ⟨i,rfl,rfl,rfl,rfl,h63_1,h63_5,p63_0,_⟩
 refine Asb rfl rfl fun K64 K65 k64 k65=>l_v (Ah (v:=(iV ((i:Int)))) h63_5) (Arw (Ay TBook.f_steps Bhr rfl rfl Mx (by decide) h63_1 r2) fun v66 r66=>Arw (Ax Mx rfl r66) fun v67 r67=>?_)
 have g68:=Bop r67
 refine l_v (Ci (el:=176) Bih rfl r67) (l_v (Da rfl rfl) (l_k k65 (Up (t:=decide ((i:Int) < ((b.steps.length:Nat):Int))) rfl (fun b69=>?_) (fun b69=>?_))))
 ·have q69:=of_decide_eq_true b69
  refine Al (k64 _ _ _ _ ?_)
  refine Ai fun K70 k70=>Ao (w_q rfl rfl fun K71 k71=>Arw (Ay TBook.f_steps Bhr rfl rfl Mx (by decide) h63_1 r2) fun v72 r72=>Arw (Ax Mx rfl r72) fun v73 r73=>l_v (Ah (v:=(iV ((i:Int)))) h63_5) ?_)
  obtain ⟨a75,ha75⟩:=Ed (xs:=b.steps) (i:=i) (by omega)
  refine Arw (Ch i Bih Atb rfl r73 (q:=(i:Int)) rfl rfl ha75) fun v74 r74=>Arw (Ay TStep.f_in_ Bht rfl rfl Vh (by decide) rfl r74) fun v76 r76=>Arw (Ax Vh rfl r76) fun v77 r77=>?_
  have g78:=Bop r77
  refine l_v (Ci (el:=3) Bho rfl r77) (l_v (Gl rfl rfl) (Bmb (.bool (decide (((a75.in_.length:Nat):Int) > 40))) (Cn (decide (((a75.in_.length:Nat):Int) > 40)) (fun b79=>?_) (fun b79=>?_))))
  ·have q79:=of_decide_eq_true b79
   refine Ap (gN rfl b79) (Ap (gN rfl b79) (Ap (gN rfl b79) (Ap (gN rfl b79) (Ap (gN rfl b79) (Ap (gN rfl b79) (Ap (gN rfl b79) (Ap (gN rfl b79) (l_v (Bt rfl b79 (v:=(.bool (true))) rfl) (l_k k71 (Co rfl rfl (w_q rfl rfl fun K80 k80=>Bma (.bool (true)) (l_k k80 (Aj (Bok l2) (Aq (hret _ _ _ (⟨rfl,rfl,_,rfl⟩))))))))))))))))
  have q79:=of_decide_eq_false b79
  refine Ak (gY rfl b79) (Ay TBook.f_steps Bhr rfl rfl Mx (by decide) h63_1 r2) fun v81 r81=>Ak (gY rfl b79) (Ax Mx rfl r81) fun v82 r82=>Aa (gY rfl b79) (Ah (v:=(iV ((i:Int)))) h63_5) (Ak (gY rfl b79) (Ch i Bih Atb rfl r82 (q:=(i:Int)) rfl rfl ha75) fun v83 r83=>Ak (gY rfl b79) (Ay TStep.f_out Bht rfl rfl Vh (by decide) rfl r83) fun v84 r84=>Ak (gY rfl b79) (Ax Vh rfl r84) fun v85 r85=>?_)
  have g86:=Bop r85
  refine Aa (gY rfl b79) (Ci (el:=3) Bho rfl r85) (Aa (gY rfl b79) (Gl rfl rfl) (l_v (Bn rfl b79 (v:=(.bool (decide (((a75.out.length:Nat):Int) > 40)))) rfl) (l_k k71 (Up (t:=decide (((a75.out.length:Nat):Int) > 40)) rfl (fun b87=>?_) (fun b87=>?_)))))
  ·have q87:=of_decide_eq_true b87
   refine w_q rfl rfl fun K88 k88=>Bma (.bool (true)) (l_k k88 (Aj (Bok l2) (Aq (hret _ _ _ (⟨rfl,rfl,_,rfl⟩)))))
  have q87:=of_decide_eq_false b87
  refine Al (k70 _ _ _ _ ?_)
  refine Ag rfl rfl (l_v (Ah (v:=(iV ((i:Int)))) h63_5) (l_v (Br rfl rfl (z:=(((i + 1):Nat):Int)) wrE) (Bma (iV ((((i + 1):Nat):Int))) (Ac ?_))))
  refine ⟨_,?_,((i + 1)),rfl,rfl,rfl,rfl,h63_1,rfl,(by omega),trivial⟩
  omega
 have q69:=of_decide_eq_false b69
 refine Bx (k61 _ _ _ _ ?_)
 refine w_q rfl rfl fun K89 k89=>Bma (.bool (false)) (l_k k89 (Aj (Bok l2) (Aq (hret _ _ _ (⟨rfl,rfl,_,rfl⟩)))))
end
section
set_option maxHeartbeats 1000000
open Go
theorem Bha {b:TBook} {m:List Int} {n:Nat} {x:TScale} {v:Int} (hx:b.scales[n]? = some x) (hv:m[x.pile.toNat]? = some v) (h:¬ (v < x.mass.low∨v > x.mass.high)):scW b m n ++ [(⟨x.pile,⟨x.mass.low,x.mass.high⟩⟩:TScale)] = scW b m (n + 1):=by
 rw [← Bbc hx]
 congr 2
 unfold Avb
 rw [Auk hv,if_neg h]
theorem Bdf {b:TBook} {m:List Int} {n:Nat} {x:TScale} {v:Int} (hx:b.scales[n]? = some x) (hv:m[x.pile.toNat]? = some v) (h:v < x.mass.low∨v > x.mass.high):scW b m n ++ [(⟨x.pile,⟨max 0 (v - ((n % 4:Nat):Int)),min 1000000 (v + ((n % 3:Nat):Int))⟩⟩:TScale)] = scW b m (n + 1):=by
 rw [← Bbc hx]
 congr 2
 unfold Avb
 rw [Auk hv,if_pos h]
variable {mn:Bool} {X:Frame→List Frame→Ro→Own→Cy→Prop} {ρ:Ro} {σ:Own}
theorem Awl {x:Span} {vx vp:Value} {picks:List UH} {i:Nat} (rx:Val ρ vx x) (hx:0 ≤ x.low∧x.low ≤ x.high∧x.high ≤ 1000000000) (rp:Val ρ vp picks) (hi:i ≤ 1000):CallsH (CX mn X) 69 #[vx,vp,(iV ((i:Int)))] ρ σ (fun w ρ' σ'=>ρ' = ρ∧σ' = σ∧∃ v:Int,w = .int .i64 v∧x.low ≤ v∧v ≤ x.high):=by
 refine Bh (n:=30) (args:=[vx,vp,(iV ((i:Int)))]) [6] Bnn rfl rfl rfl rfl fun Q hret hnor=>w_q rfl rfl fun K1 k1=>Arv (Eb (v:=vx) rfl fun k2=>?_)
 refine Bb (a:=x) rx fun ρ2 l2 r2=>?_
 replace rp:=Boq l2 rp
 refine Bma (iV (0)) (Arx rfl rfl k1 fun K3 k3=>Bmb (iV ((i:Int))) (l_v (Wq rfl rfl (z:=(((i * 37):Nat):Int)) wrE) (Bma (iV ((((i * 37):Nat):Int))) (Ary rfl rfl k3 fun K4 K5 k4 k5=>Bmb (iV ((i:Int))) (Bmb vp ?_)))))
 have g6:=Bop rp
 refine l_v (Ci (el:=75) Bnf rfl rp) (l_v (Da rfl rfl) (l_k k5 (Up (t:=decide ((i:Int) < ((picks.length:Nat):Int))) rfl (fun b7=>?_) (fun b7=>?_))))
 ·have q7:=of_decide_eq_true b7
  refine Ag rfl rfl (Bmb vp (Bmb (iV ((i:Int))) ?_))
  obtain ⟨a9,ha9⟩:=Ed (xs:=picks) (i:=i) (by omega)
  refine Arw (Ch i Bnf Bhk rfl rp (q:=(i:Int)) rfl rfl ha9) fun v8 r8=>?_
  have g10:=a9.lt
  refine l_v (Bea Bhk rfl r8) (l_v (Acf (p:=((a9.n:Nat):Int)) (z:=((a9.n:Nat):Int)) Blt Bhv rfl wrR) (Bma (iV (((a9.n:Nat):Int))) (Asa k4 fun K11 k11=>Bmw (Bms 0 Aql rfl (Ay Span.f_low Bhu rfl rfl ty3 (by decide) rfl r2) fun v12 r12=>?_))))
  have ⟨g13a,g13b⟩:=At.rng r12
  refine Bmq 1 Aqm rfl (Bc ty3 rfl r12) (Bmq 2 Aqn rfl (Ah (v:=(iV (((a9.n:Nat):Int)))) rfl) (Bms 3 Aqo rfl (Ay Span.f_high Bhu rfl rfl ty3 (by decide) rfl r2) fun v14 r14=>?_))
  have ⟨g15a,g15b⟩:=At.rng r14
  refine Bmq 4 Aqp rfl (Bc ty3 rfl r14) (Bmu 5 Aqq rfl (Ay Span.f_low Bhu rfl rfl ty3 (by decide) rfl r2) fun v16 r16=>?_)
  have ⟨g17a,g17b⟩:=At.rng r16
  refine Bmr 6 Aqr rfl (Bc ty3 rfl r16) (Bmr 7 Aom rfl (Ou rfl rfl (z:=(x.high - x.low)) (Bo (by rfl) (by omega) (by omega))) (Bmr 8 Aoa rfl (Br rfl rfl (z:=((x.high - x.low) + 1)) (Bo (by rfl) (by omega) (by omega))) ?_))
  have hmod18:0 ≤ (((a9.n:Nat):Int)).tmod (((x.high - x.low) + 1))∧(((a9.n:Nat):Int)).tmod (((x.high - x.low) + 1)) < ((x.high - x.low) + 1):=⟨Int.tmod_nonneg _ (by omega),Int.tmod_lt_of_pos _ (by omega)⟩
  refine Bmr 9 Ans rfl (Bdj (p:=((a9.n:Nat):Int)) (q:=((x.high - x.low) + 1)) rfl rfl (by omega) (z:=((((a9.n:Nat):Int)).tmod (((x.high - x.low) + 1)))) rfl) (Bmr 10 zZ4 rfl (Br rfl rfl (z:=(x.low + ((((a9.n:Nat):Int)).tmod (((x.high - x.low) + 1))))) (Bo (by rfl) (by omega) (by omega))) (Bmr 11 zZ5 rfl (Cp (v:=(iV ((x.low + ((((a9.n:Nat):Int)).tmod (((x.high - x.low) + 1))))))) rfl) (Ec rfl (k11 _ _ _ _ ?_))))
  refine Aj (Bok l2) (Aq (hret _ _ _ (⟨rfl,rfl,_,rfl,by omega,by omega⟩)))
 have q7:=of_decide_eq_false b7
 refine Al (k4 _ _ _ _ ?_)
 refine Ai fun K19 k19=>Bmw (Bms 0 Aql rfl (Ay Span.f_low Bhu rfl rfl ty3 (by decide) rfl r2) fun v20 r20=>?_)
 have ⟨g21a,g21b⟩:=At.rng r20
 refine Bmq 1 Aqm rfl (Bc ty3 rfl r20) (Bmq 2 Aqn rfl (Ah (v:=(iV ((((i * 37):Nat):Int)))) rfl) (Bms 3 Aqo rfl (Ay Span.f_high Bhu rfl rfl ty3 (by decide) rfl r2) fun v22 r22=>?_))
 have ⟨g23a,g23b⟩:=At.rng r22
 refine Bmq 4 Aqp rfl (Bc ty3 rfl r22) (Bmu 5 Aqq rfl (Ay Span.f_low Bhu rfl rfl ty3 (by decide) rfl r2) fun v24 r24=>?_)
 have ⟨g25a,g25b⟩:=At.rng r24
 refine Bmr 6 Aqr rfl (Bc ty3 rfl r24) (Bmr 7 Aom rfl (Ou rfl rfl (z:=(x.high - x.low)) (Bo (by rfl) (by omega) (by omega))) (Bmr 8 Aoa rfl (Br rfl rfl (z:=((x.high - x.low) + 1)) (Bo (by rfl) (by omega) (by omega))) ?_))
 have hmod26:0 ≤ ((((i * 37):Nat):Int)).tmod (((x.high - x.low) + 1))∧((((i * 37):Nat):Int)).tmod (((x.high - x.low) + 1)) < ((x.high - x.low) + 1):=⟨Int.tmod_nonneg _ (by omega),Int.tmod_lt_of_pos _ (by omega)⟩
 refine Bmr 9 Ans rfl (Bdj (p:=(((i * 37):Nat):Int)) (q:=((x.high - x.low) + 1)) rfl rfl (by omega) (z:=(((((i * 37):Nat):Int)).tmod (((x.high - x.low) + 1)))) rfl) (Bmr 10 zZ4 rfl (Br rfl rfl (z:=(x.low + (((((i * 37):Nat):Int)).tmod (((x.high - x.low) + 1))))) (Bo (by rfl) (by omega) (by omega))) (Bmr 11 zZ5 rfl (Cp (v:=(iV ((x.low + (((((i * 37):Nat):Int)).tmod (((x.high - x.low) + 1))))))) rfl) (Ec rfl (k19 _ _ _ _ ?_))))
 refine Aj (Bok l2) (Aq (hret _ _ _ (⟨rfl,rfl,_,rfl,by omega,by omega⟩)))
theorem Avh {a b:Int} (ha:I64 a) (hb:I64 b):CallsH (CX mn X) 70 #[(iV (a)),(iV (b))] ρ σ (fun w ρ' σ'=>Ro.le ρ ρ'∧σ' = σ∧Val ρ' w ((⟨a,b⟩:Span):Span)):=by
 obtain ⟨ha1,ha2⟩:=ha
 obtain ⟨hb1,hb2⟩:=hb
 refine Lt (n:=8) (args:=[(iV (a)),(iV (b))]) [.cell 4 41] Bnh rfl rfl rfl rfl fun Q hret hnor=>w_q rfl rfl fun K1 k1=>Arv (Ct Aak fun k2=>?_)
 refine Arx rfl rfl k1 fun K3 k3=>Bmb (iV (a)) (Bmb (iV (b)) ?_)
 have r4:Val ρ (.agg #[(iV (a)),(iV (b))]) (⟨a,b⟩:Span):=Span.shut (x:=(⟨a,b⟩:Span)) (show I64 (a) from by constructor <;> omega) (show I64 (b) from by constructor <;> omega)
 refine l_v (Dn (ns:=[1,1]) (vs:=[(0,(iV (a))),(1,(iV (b)))]) (zc:=Arm) (cs:=[(iV (a)),(iV (b))]) Bhu Aak rfl ⟨⟨_,Ab Bhq,rfl⟩,⟨_,Ab Bhq,rfl⟩,trivial⟩ (EvB.map ⟨⟨rfl,rfl⟩,⟨rfl,rfl⟩,trivial⟩) ((Be (cs:=[(iV (a))]) rfl rfl (Nat.le_of_ble_eq_true rfl)).trans ((Be (cs:=[(iV (b))]) rfl rfl (Nat.le_of_ble_eq_true rfl)).trans rfl))) (Cx rfl (Li (i:=0) (vs:=[(iV (a)),(iV (b))]) (c':=[(iV (a)),(iV (b))]) ⟨_,Ab Bii,rfl⟩ rfl rfl rfl rfl (Zh ⟨rfl,rfl,trivial⟩) rfl (Nat.le_of_ble_eq_true rfl) rfl ?_))
 refine l_k k3 (Aq ?_)
 have r5:Val ρ (.agg #[(iV (a)),(iV (b))]) (⟨a,b⟩:Span):=Span.shut (x:=(⟨a,b⟩:Span)) (show I64 (a) from by constructor <;> omega) (show I64 (b) from by constructor <;> omega)
 refine hret _ _ _ _ _ [(.agg #[(iV (a)),(iV (b))])] ⟨(Qh ⟨_,Bhu,rfl⟩ ⟨_,Ab Bii,rfl⟩ rfl (i:=0) rfl rfl),trivial⟩ Boj (⟨Bon,rfl,Abz (v:=(.agg #[(iV (a)),(iV (b))])) rfl (Val.cast ?_ r5)⟩)
 ·rfl
set_option maxHeartbeats 2000000 in
theorem Bee {b:TBook} {vb vp:Value} {picks:List UH} (rb:Val ρ vb b) (ok:TBookOk b) (rp:Val ρ vp picks):CallsH (CX mn X) 26 #[vb,vp] ρ σ (fun w ρ' σ'=>Ro.le ρ ρ'∧σ' = σ∧∃ (a c:Value) (m t:List Int) (bb:Bool),w = .tuple #[a,c,.bool bb]∧Val ρ' a m∧Val ρ' c t∧(bb = true→∃ g x,Truth b m g x)):=by
 have hl12:=Awu ok
 have hn8:=ok.nsteps
 refine Bh (n:=129) (args:=[vb,vp]) [4,5,6] Tryz.func26 rfl rfl rfl rfl fun Q hret hnor=>w_q rfl rfl fun K1 k1=>Arv (Eb (v:=vb) rfl fun k2=>?_)
 refine Bb (a:=b) rb fun ρ2 l2 r2=>?_
 replace rp:=Boq l2 rp
 refine Bma (nS) (Bma (nS) (Bma (.bool (false)) (Arx rfl rfl k1 fun K3 k3=>Arw (Ay TBook.f_piles Bhr rfl rfl Hw (by decide) rfl r2) fun v4 r4=>Arw (Ax Hw rfl r4) fun v5 r5=>?_)))
 have g6:=Bop r5
 refine l_v (Ci (el:=9) Bhs rfl r5) (Arv (Bgt (n:=b.piles.length) Bho (Ab Bhq) rfl (Nat.le_of_ble_eq_true rfl) rfl rfl rfl (by omega) fun v7 g7 G7=>?_))
 refine Bma v7 (Arx rfl rfl k3 fun K8 k8=>Bma (nS) (Ary rfl rfl k8 fun K9 K10 k9 k10=>Bma (iV (0)) (l_k k10 (Ao (Cc (fun mm ee dd ρ' σ'=>∃ (i:Nat) (m:List Int) (t:List Int) (g:Nat→Int) (x:Nat→Int) (ov11_7:Value) (og11_7:Own) (ov11_8:Value) (og11_8:Own),(b.steps.length - i) = mm∧[] = dd∧Ro.le ρ2 ρ'∧(og11_7 ++ (og11_8 ++ σ)) = σ'∧ee 1 = vp∧ee 2 = (.pointer (some ⟨k2,0,none⟩))∧ee 7 = ov11_7∧ee 8 = ov11_8∧ee 9 = (iV ((i:Int)))∧(i ≤ b.steps.length)∧(TruthTo b m g x i)∧(t.length = i)∧Grow ρ' 3 ov11_7 m og11_7∧Grow ρ' 3 ov11_8 t og11_8∧True) (m:=_) ⟨0,(List.replicate b.piles.length (0:Int)),[],(fun _=>0),(fun _=>0),v7,g7,(nS),[],rfl,rfl,Bon,rfl,rfl,rfl,rfl,rfl,rfl,(Nat.zero_le _),Bgr,rfl,G7,Hm,trivial⟩ ?_)))))
 rintro m11 e11 _ ρ11 _ ⟨i,m,t,g,x,ov11_7,og11_7,ov11_8,og11_8,rfl,rfl,l11,rfl,h11_1,h11_2,h11_7,h11_8,h11_9,p11_0,p11_1,p11_2,OG11_7,OG11_8,_⟩
 replace rp:=Boq l11 rp
 replace r2:=At.mono l11 r2
 have hml:=p11_1.len
 refine Asb rfl rfl fun K12 K13 k12 k13=>l_v (Ah (v:=(iV ((i:Int)))) h11_9) (Arw (Ay TBook.f_steps Bhr rfl rfl Mx (by decide) h11_2 r2) fun v14 r14=>Arw (Ax Mx rfl r14) fun v15 r15=>?_)
 have g16:=Bop r15
 refine l_v (Ci (el:=176) Bih rfl r15) (l_v (Da rfl rfl) (l_k k13 (Up (t:=decide ((i:Int) < ((b.steps.length:Nat):Int))) rfl (fun b17=>?_) (fun b17=>?_))))
 ·have q17:=of_decide_eq_true b17
  refine Al (k12 _ _ _ _ ?_)
  refine Ai fun K18 k18=>Ao (w_q rfl rfl fun K19 k19=>Arw (Ay TBook.f_steps Bhr rfl rfl Mx (by decide) h11_2 r2) fun v20 r20=>Arw (Ax Mx rfl r20) fun v21 r21=>l_v (Ah (v:=(iV ((i:Int)))) h11_9) ?_)
  obtain ⟨a23,ha23⟩:=Ed (xs:=b.steps) (i:=i) (by omega)
  have hsoa23:=ok.step i a23 ha23; have hgaa23:=hsoa23.gain; have hloa23:=hsoa23.loss; have hola23:=hsoa23.outLen ok; have hila23:=hsoa23.inLen ok
  refine Arw (Ch i Bih Atb rfl r21 (q:=(i:Int)) rfl rfl ha23) fun v22 r22=>Arw (Ax Atb rfl r22) fun v24 r24=>Arv (Ct Ayd fun k25=>?_)
  obtain ⟨c26_0,c26_1,e26_,⟨i26_1a,i26_1b⟩,i26_2,i26_3,⟨i26_4a,i26_4b⟩,⟨i26_5a,i26_5b⟩,⟨i26_6a,i26_6b⟩,⟨i26_7a,i26_7b⟩⟩:=TStep.open_ r24
  have e26_c:v24.cells = [(iV (a23.hand)),c26_0,c26_1,(iV (a23.gain.low)),(iV (a23.gain.high)),(iV (a23.loss.low)),(iV (a23.loss.high))].toArray:=by rw [e26_]; rfl
  refine Cx rfl (Li (i:=0) (vs:=[(iV (a23.hand)),c26_0,c26_1,(iV (a23.gain.low)),(iV (a23.gain.high)),(iV (a23.loss.low)),(iV (a23.loss.high))]) (c':=[(iV (a23.hand)),c26_0,c26_1,(iV (a23.gain.low)),(iV (a23.gain.high)),(iV (a23.loss.low)),(iV (a23.loss.high))]) ⟨_,Ab Bob,rfl⟩ rfl rfl e26_c rfl (Zh ⟨rfl,(Val.single_l i26_2),(Val.single_l i26_3),rfl,rfl,rfl,rfl,trivial⟩) rfl (Nat.le_of_ble_eq_true rfl) rfl ?_)
  refine Arx rfl rfl k19 fun K27 k27=>l_v (Cb Bht rfl rfl ⟨_,Ab Bii,rfl⟩ (by decide) rfl rfl) (Arv (Xo (i:=0) (cs:=[(iV (a23.gain.low)),(iV (a23.gain.high))]) (rs:=[(iV (a23.loss.low)),(iV (a23.loss.high))]) ⟨_,Bhu,rfl⟩ ⟨_,Ab Bii,rfl⟩ rfl rfl rfl rfl ?_))
  have r28:Val ρ11 (.agg #[(iV (a23.gain.low)),(iV (a23.gain.high))]) (⟨a23.gain.low,a23.gain.high⟩:Span):=Span.shut (x:=(⟨a23.gain.low,a23.gain.high⟩:Span)) (show I64 (a23.gain.low) from by constructor <;> omega) (show I64 (a23.gain.high) from by constructor <;> omega)
  refine l_v (Ah (v:=vp) h11_1) (l_v (Ah (v:=(iV ((i:Int)))) h11_9) (l_v (Wq rfl rfl (z:=(((2 * i):Nat):Int)) wrE) (Arv (Cm (vs:=[(.agg #[(iV (a23.gain.low)),(iV (a23.gain.high))]),vp,(iV ((((2 * i):Nat):Int)))]) (Awl r28 (show 0 ≤ a23.gain.low∧a23.gain.low ≤ a23.gain.high∧a23.gain.high ≤ 1000000000 from by omega) rp (by omega)) Bnn rfl rfl ⟨rfl,rfl,rfl,trivial⟩ fun w29 ρ29 σ29 hc29=>?_))))
  obtain ⟨hr29,hs29,f29_,hw29,hy29,hz29⟩:=hc29
  replace hr29:=hr29.symm; replace hs29:=hs29.symm; subst hr29 hs29 hw29
  replace hy29:a23.gain.low ≤ f29_:=hy29; replace hz29:f29_ ≤ a23.gain.high:=hz29
  refine Bma (iV (f29_)) (Ary rfl rfl k27 fun K30 K31 k30 k31=>Bma (iV (0)) (l_k k31 (Ao ?_)))
  have hsi:=Bem hsoa23 a23.in_.length; rw [List.take_length] at hsi; have hsb:=Aun p11_1 hsi
  refine Cc (fun mm ee dd ρ' σ'=>∃ (k:Nat) (av:Int),(a23.in_.length - k) = mm∧[] = dd∧ρ11 = ρ'∧((k25,oC #[(iV (a23.hand)),c26_0,c26_1,(iV (a23.gain.low)),(iV (a23.gain.high)),(iV (a23.loss.low)),(iV (a23.loss.high))] 176) :: (og11_7 ++ (og11_8 ++ σ))) = σ'∧ee 1 = vp∧ee 2 = (.pointer (some ⟨k2,0,none⟩))∧ee 7 = ov11_7∧ee 8 = ov11_8∧ee 9 = (iV ((i:Int)))∧ee 10 = (.pointer (some ⟨k25,0,none⟩))∧ee 11 = (iV (av))∧ee 12 = (iV ((k:Int)))∧(k ≤ a23.in_.length)∧(av = f29_ + Asm m (a23.in_.take k))∧True) (m:=_) ⟨0,f29_,rfl,rfl,rfl,rfl,h11_1,h11_2,h11_7,h11_8,h11_9,rfl,rfl,rfl,(Nat.zero_le _),(by rw [List.take_zero,Avv]; omega),trivial⟩ ?_
  rintro m32 e32 _ _ _ ⟨k,av,rfl,rfl,rfl,rfl,h32_1,h32_2,h32_7,h32_8,h32_9,h32_10,h32_11,h32_12,p32_0,p32_1,_⟩
  have hsk:=Aun p11_1 (Bem hsoa23 k); rw [List.length_take] at hsk
  refine Asb rfl rfl fun K33 K34 k33 k34=>l_v (Ah (v:=(iV ((k:Int)))) h32_12) (l_v (Cb Bht rfl rfl ⟨_,Ab Bjn,rfl⟩ (by decide) h32_10 rfl) (Arv (Dt (i:=0) (v:=c26_0) ⟨_,Bho,rfl⟩ rfl rfl rfl ?_)))
  have g35:=Bop i26_2
  refine l_v (Ci (el:=3) Bho rfl i26_2) (l_v (Da rfl rfl) (l_k k34 (Up (t:=decide ((k:Int) < ((a23.in_.length:Nat):Int))) rfl (fun b36=>?_) (fun b36=>?_))))
  ·have q36:=of_decide_eq_true b36
   refine Al (k33 _ _ _ _ ?_)
   refine Ai fun K37 k37=>Ao (Ag rfl rfl (l_v (Ah (v:=(iV (av))) h32_11) (l_v (Ah (v:=ov11_7) h32_7) (l_v (Cb Bht rfl rfl ⟨_,Ab Bjn,rfl⟩ (by decide) h32_10 rfl) (Arv (Dt (i:=0) (v:=c26_0) ⟨_,Bho,rfl⟩ rfl rfl rfl ?_))))))
   refine l_v (Ah (v:=(iV ((k:Int)))) h32_12) ?_
   obtain ⟨a39,ha39⟩:=Ed (xs:=a23.in_) (i:=k) (by omega)
   have hina39:=(hsoa23.ins k a39 ha39).1
   refine Arw (Ch k Bho ty3 rfl i26_2 (q:=(k:Int)) rfl rfl ha39) fun v38 r38=>?_
   have ⟨g40a,g40b⟩:=At.rng r38
   refine l_v (Bc ty3 rfl r38) (l_v (Nw ((a39).toNat) Bho ty3.info rfl OG11_7 (q:=a39) rfl (by omega) (by omega) rfl) ?_)
   obtain ⟨a42,ha42⟩:=Ed (xs:=m) (i:=(a39).toNat) (by omega)
   have hmva42:=p11_1.mass (a39).toNat a42 ha42
   have ⟨g41a,g41b⟩:=Awh OG11_7 ha42
   refine Avs ⟨Bon,fun _ h=>h⟩ rfl (Awp OG11_7 (fun p hp=>(List.mem_cons_of_mem _ (List.mem_append_left _ hp))) ha42 ⟨_,Bhv,rfl⟩ rfl rfl) (l_v (Br rfl rfl (z:=(av + a42)) (Bo (by rfl) (by omega) (by omega))) (Bma (iV ((av + a42))) (l_k k37 (Ag rfl rfl (l_v (Ah (v:=(iV ((k:Int)))) h32_12) (l_v (Br rfl rfl (z:=(((k + 1):Nat):Int)) wrE) (Bma (iV ((((k + 1):Nat):Int))) (Ac ?_))))))))
   refine ⟨_,?_,((k + 1)),((av + a42)),rfl,rfl,rfl,rfl,h32_1,h32_2,h32_7,h32_8,h32_9,h32_10,rfl,rfl,(by omega),(by rw [Axp ha39,Auk ha42]; omega),trivial⟩
   omega
  have q36:=of_decide_eq_false b36
  refine Bx (k30 _ _ _ _ ?_)
  refine Asb rfl rfl fun K43 K44 k43 k44=>l_v (Cb Bht rfl rfl ⟨_,Ab Bii,rfl⟩ (by decide) h32_10 rfl) (l_v (Cb Bhu rfl rfl ⟨_,Ab Bhq,rfl⟩ (by decide) rfl rfl) (Arv (Dt (i:=0) (v:=(iV (a23.loss.low))) ⟨_,Bhv,rfl⟩ rfl rfl rfl ?_)))
  refine l_v (Ah (v:=(iV (av))) h32_11) (l_v (Gl rfl rfl) (l_k k44 (Up (t:=decide (a23.loss.low > av)) rfl (fun b45=>?_) (fun b45=>?_))))
  ·have q45:=of_decide_eq_true b45
   refine w_q rfl rfl fun K46 k46=>Bma (nS) (Bma (nS) (Bma (.bool (false)) (l_k k46 (Aj Boj (Hc OG11_7 fun ρ47 l47 r47=>?_)))))
   replace OG11_8:=Bom l47 OG11_8
   refine Hc OG11_8 fun ρ48 l48 r48=>Aq (hret _ _ _ (⟨(Boo (Boo (Boo l2 l11) l47) l48),rfl,_,_,[],[],false,(Mp (r:=4) (r':=5) (rs:=[6]) (v:=(nS)) (v':=(nS)) (vs:=[(.bool (false))]) ⟨rfl,rfl,rfl,trivial⟩),Gx,Gx,fun h=>absurd h (by decide)⟩))
  have q45:=of_decide_eq_false b45
  refine Al (k43 _ _ _ _ ?_)
  refine w_q rfl rfl fun K49 k49=>l_v (Cb Bht rfl rfl ⟨_,Ab Bii,rfl⟩ (by decide) h32_10 rfl) (l_v (Cb Bhu rfl rfl ⟨_,Ab Bhq,rfl⟩ (by decide) rfl rfl) (Arv (Dt (i:=0) (v:=(iV (a23.loss.low))) ⟨_,Bhv,rfl⟩ rfl rfl rfl ?_)))
  refine l_v (Ah (v:=(iV (av))) h32_11) (l_v (Cb Bht rfl rfl ⟨_,Ab Bii,rfl⟩ (by decide) h32_10 rfl) (l_v (Cb Bhu rfl rfl ⟨_,Ab Bhq,rfl⟩ (by decide) rfl rfl) (Arv (Dt (i:=0) (v:=(iV (a23.loss.high))) ⟨_,Bhv,rfl⟩ rfl rfl rfl ?_))))
  refine l_v (Ajx (p:=av) (q:=a23.loss.high) rfl rfl) (Arv (Cm (vs:=[(iV (a23.loss.low)),(iV ((min av a23.loss.high)))]) (Avh (a:=a23.loss.low) (b:=(min av a23.loss.high)) (by constructor <;> omega) (by constructor <;> omega)) Bnh rfl rfl ⟨rfl,rfl,trivial⟩ fun v50 ρ50 σ50 hc50=>?_))
  obtain ⟨l50,s50,r50⟩:=hc50
  replace s50:=s50.symm; subst s50
  replace rp:=Boq l50 rp
  replace OG11_7:=Bom l50 OG11_7
  replace OG11_8:=Bom l50 OG11_8
  replace i26_3:=Boq l50 i26_3
  refine l_v (Ah (v:=vp) h32_1) (l_v (Ah (v:=(iV ((i:Int)))) h32_9) (l_v (Wq rfl rfl (z:=(((2 * i):Nat):Int)) wrE) (l_v (Br rfl rfl (z:=((((2 * i) + 1):Nat):Int)) wrE) (Arv (Cm (vs:=[v50,vp,(iV (((((2 * i) + 1):Nat):Int)))]) (Awl r50 (show 0 ≤ a23.loss.low∧a23.loss.low ≤ (min av a23.loss.high)∧(min av a23.loss.high) ≤ 1000000000 from by omega) rp (by omega)) Bnn rfl rfl ⟨rfl,rfl,rfl,trivial⟩ fun w51 ρ51 σ51 hc51=>?_)))))
  obtain ⟨hr51,hs51,f51_,hw51,hy51,hz51⟩:=hc51
  replace hr51:=hr51.symm; replace hs51:=hs51.symm; subst hr51 hs51 hw51
  replace hy51:a23.loss.low ≤ f51_:=hy51; replace hz51:f51_ ≤ (min av a23.loss.high):=hz51
  refine Bma (iV (f51_)) (Ary rfl rfl k49 fun K52 K53 k52 k53=>l_v (Cb Bht rfl rfl ⟨_,Ab Bjn,rfl⟩ (by decide) h32_10 rfl) (Arv (Dt (i:=0) (v:=c26_1) ⟨_,Bho,rfl⟩ rfl rfl rfl ?_)))
  have g54:=Bop i26_3
  refine l_v (Ci (el:=3) Bho rfl i26_3) (l_v (Ek rfl rfl) (l_k k53 (Up (t:=((a23.out.length:Nat):Int) == 0) rfl (fun b55=>?_) (fun b55=>?_))))
  ·have q55:=Jr b55
   refine Ag rfl rfl (l_v (Ah (v:=(iV (av))) h32_11) (Bma (iV (av)) (Ary rfl rfl k52 fun K56 K57 k56 k57=>Bmb (iV (av)) (l_v (Cb Bht rfl rfl ⟨_,Ab Bii,rfl⟩ (by decide) h32_10 rfl) (l_v (Cb Bhu rfl rfl ⟨_,Ab Bhq,rfl⟩ (by decide) rfl rfl) (Arv (Dt (i:=0) (v:=(iV (a23.loss.high))) ⟨_,Bhv,rfl⟩ rfl rfl rfl ?_)))))))
   refine l_v (Gl rfl rfl) (l_k k57 (Up (t:=decide (av > a23.loss.high)) rfl (fun b58=>?_) (fun b58=>?_)))
   ·have q58:=of_decide_eq_true b58
    refine w_q rfl rfl fun K59 k59=>Bma (nS) (Bma (nS) (Bma (.bool (false)) (l_k k59 (Aj Boj (Hc OG11_7 fun ρ60 l60 r60=>?_)))))
    replace OG11_8:=Bom l60 OG11_8
    refine Hc OG11_8 fun ρ61 l61 r61=>Aq (hret _ _ _ (⟨(Boo (Boo (Boo (Boo l2 l11) l50) l60) l61),rfl,_,_,[],[],false,(Mp (r:=4) (r':=5) (rs:=[6]) (v:=(nS)) (v':=(nS)) (vs:=[(.bool (false))]) ⟨rfl,rfl,rfl,trivial⟩),Gx,Gx,fun h=>absurd h (by decide)⟩))
   have q58:=of_decide_eq_false b58
   refine Al (k56 _ _ _ _ ?_)
   refine w_q rfl rfl fun K62 k62=>l_v (Ah (v:=ov11_8) h32_8) (Bmb (iV (av)) (Arv (Bi (α:=Int) (xs:=[av]) (vs:=[(iV (av))]) Bho ty3 zr3 rfl (by decide) (Dk (os:=[.tmp 85]) ⟨rfl,trivial⟩) ⟨(Cv.2 ⟨rfl,by constructor <;> omega⟩),trivial⟩ rfl (by decide) fun k63 cs63 R63=>?_)))
   have G63:Grow ρ50 3 (.slice (some ⟨k63,0,none⟩) 1 1) ([av]:List Int) [(k63,oC cs63.toArray 3)]:=Bs R63 rfl (by decide)
   refine Ca G63 fun ρ65 l65 r65=>?_
   replace rp:=Boq l65 rp
   replace OG11_7:=Bom l65 OG11_7
   replace OG11_8:=Bom l65 OG11_8
   replace i26_3:=Boq l65 i26_3
   refine Bj (Bol ((p_c Ase).trans Asw)) (Arv (Gc (σ:=((k25,oC #[(iV (a23.hand)),c26_0,c26_1,(iV (a23.gain.low)),(iV (a23.gain.high)),(iV (a23.loss.low)),(iV (a23.loss.high))] 176) :: (og11_7 ++ σ))) (gr:=og11_8) (xs:=t) (ys:=([av]:List Int)) Bho Bho (Ab Bhq) rfl (Nat.le_of_ble_eq_true rfl) rfl rfl rfl rfl OG11_8 r65 (by simp only [List.length_append,List.length_cons,List.length_nil] at *; omega) fun v64 gr64 G64=>?_))
   refine Bma v64 (Arx rfl rfl k62 fun K66 k66=>l_v (Ah (v:=(iV (av))) h32_11) (Bmb (iV (av)) (l_v (Ou rfl rfl (z:=(av - av)) (Bo (by rfl) (by omega) (by omega))) (Bma (iV ((av - av))) (Arx rfl rfl k66 fun K67 k67=>Bma (iV (0)) (l_k k67 (Ao ?_)))))))
   have hav:av = f29_ + Asm m a23.in_:=by have:=p32_1; rw [show k = a23.in_.length by omega,List.take_length] at this; exact this
   refine Aj (Bol Asd) (Aj (Bol Asw) (Aj (Bol ((p_a Asw).trans Ase)) (Cc (fun mm ee dd ρ' σ'=>∃ (q:Nat) (ma:List Int) (rr:Int) (ov68_7:Value) (og68_7:Own),(a23.out.length - q) = mm∧[] = dd∧Ro.le ρ65 ρ'∧(og68_7 ++ (gr64 ++ ((k25,oC #[(iV (a23.hand)),c26_0,c26_1,(iV (a23.gain.low)),(iV (a23.gain.high)),(iV (a23.loss.low)),(iV (a23.loss.high))] 176) :: σ))) = σ'∧ee 1 = vp∧ee 2 = (.pointer (some ⟨k2,0,none⟩))∧ee 8 = v64∧ee 9 = (iV ((i:Int)))∧ee 10 = (.pointer (some ⟨k25,0,none⟩))∧ee 7 = ov68_7∧ee 11 = (iV (rr))∧ee 14 = (iV ((q:Int)))∧(q ≤ a23.out.length)∧(TruthTo b ma g x i)∧(f29_ + Asm ma a23.in_ = av + rr + Asm ma (a23.out.take q)∧0 ≤ rr∧rr ≤ 100000000∧(q = a23.out.length→rr = 0))∧Grow ρ' 3 ov68_7 ma og68_7∧True) (m:=_) ⟨0,m,(av - av),ov11_7,og11_7,rfl,rfl,Bon,rfl,h32_1,h32_2,rfl,h32_9,h32_10,h32_7,rfl,rfl,(Nat.zero_le _),p11_1,(by rw [List.take_zero,Avv]; omega),OG11_7,trivial⟩ ?_)))
   rintro m68 e68 _ ρ68 _ ⟨q,ma,rr,ov68_7,og68_7,rfl,rfl,l68,rfl,h68_1,h68_2,h68_8,h68_9,h68_10,h68_7,h68_11,h68_14,p68_0,p68_1,p68_2,OG68_7,_⟩
   replace rp:=Boq l68 rp
   replace i26_3:=Boq l68 i26_3
   replace G64:=Bom l68 G64
   have hmm:=p68_1.len
   refine Asb rfl rfl fun K69 K70 k69 k70=>l_v (Ah (v:=(iV ((q:Int)))) h68_14) (l_v (Cb Bht rfl rfl ⟨_,Ab Bjn,rfl⟩ (by decide) h68_10 rfl) (Arv (Gu (v:=c26_1) ⟨_,Bho,rfl⟩ rfl (List.mem_append_right _ (List.mem_append_right _ (List.mem_cons_self ..))) rfl ?_)))
   have g71:=Bop i26_3
   refine l_v (Ci (el:=3) Bho rfl i26_3) (l_v (Da rfl rfl) (l_k k70 (Up (t:=decide ((q:Int) < ((a23.out.length:Nat):Int))) rfl (fun b72=>?_) (fun b72=>?_))))
   ·have q72:=of_decide_eq_true b72
    refine Al (k69 _ _ _ _ ?_)
    refine Ai fun K73 k73=>Ao (w_q rfl rfl fun K74 k74=>l_v (Ah (v:=(iV (rr))) h68_11) (Bma (iV (rr)) (Ary rfl rfl k74 fun K75 K76 k75 k76=>l_v (Ah (v:=(iV ((q:Int)))) h68_14) (l_v (Cb Bht rfl rfl ⟨_,Ab Bjn,rfl⟩ (by decide) h68_10 rfl) (Arv (Gu (v:=c26_1) ⟨_,Bho,rfl⟩ rfl (List.mem_append_right _ (List.mem_append_right _ (List.mem_cons_self ..))) rfl ?_))))))
    have g77:=Bop i26_3
    refine l_v (Ci (el:=3) Bho rfl i26_3) (l_v (Ou rfl rfl (z:=(((a23.out.length:Nat):Int) - 1)) wrE) (l_v (Da rfl rfl) (l_k k76 (Up (t:=decide ((q:Int) < (((a23.out.length:Nat):Int) - 1))) rfl (fun b78=>?_) (fun b78=>?_)))))
    ·have q78:=of_decide_eq_true b78
     refine Ag rfl rfl (l_v (Ah (v:=(iV (rr))) h68_11) (Arv (Cm (vs:=[(iV (0)),(iV (rr))]) (Avh (a:=0) (b:=rr) (by constructor <;> omega) (by constructor <;> omega)) Bnh rfl rfl ⟨rfl,rfl,trivial⟩ fun v79 ρ79 σ79 hc79=>?_)))
     obtain ⟨l79,s79,r79⟩:=hc79
     replace s79:=s79.symm; subst s79
     replace rp:=Boq l79 rp
     replace i26_3:=Boq l79 i26_3
     replace G64:=Bom l79 G64
     replace OG68_7:=Bom l79 OG68_7
     refine l_v (Ah (v:=vp) h68_1) (l_v (Ah (v:=(iV ((i:Int)))) h68_9) (l_v (Wq rfl rfl (z:=(((3 * i):Nat):Int)) wrE) (l_v (Br rfl rfl (z:=(((20 + (3 * i)):Nat):Int)) wrE) (l_v (Ah (v:=(iV ((q:Int)))) h68_14) (l_v (Br rfl rfl (z:=((((20 + (3 * i)) + q):Nat):Int)) wrE) (Arv (Cm (vs:=[v79,vp,(iV (((((20 + (3 * i)) + q):Nat):Int)))]) (Awl r79 (show 0 ≤ 0∧0 ≤ rr∧rr ≤ 1000000000 from by omega) rp (by omega)) Bnn rfl rfl ⟨rfl,rfl,rfl,trivial⟩ fun w80 ρ80 σ80 hc80=>?_)))))))
     obtain ⟨hr80,hs80,f80_,hw80,hy80,hz80⟩:=hc80
     replace hr80:=hr80.symm; replace hs80:=hs80.symm; subst hr80 hs80 hw80
     replace hy80:0 ≤ f80_:=hy80; replace hz80:f80_ ≤ rr:=hz80
     refine Bma (iV (f80_)) (Ary rfl rfl k75 fun K81 K82 k81 k82=>Bmb (iV (f80_)) (l_v (Gl rfl rfl) (l_k k82 (Up (t:=decide (f80_ > 1000000)) rfl (fun b83=>?_) (fun b83=>?_)))))
     ·have q83:=of_decide_eq_true b83
      refine w_q rfl rfl fun K84 k84=>Bma (nS) (Bma (nS) (Bma (.bool (false)) (l_k k84 (Hc OG68_7 fun ρ85 l85 r85=>?_))))
      replace G64:=Bom l85 G64
      refine Hc G64 fun ρ86 l86 r86=>Aj Boj (Aq (hret _ _ _ (⟨(Boo (Boo (Boo (Boo (Boo (Boo (Boo l2 l11) l50) l65) l68) l79) l85) l86),rfl,_,_,[],[],false,(Mp (r:=4) (r':=5) (rs:=[6]) (v:=(nS)) (v':=(nS)) (vs:=[(.bool (false))]) ⟨rfl,rfl,rfl,trivial⟩),Gx,Gx,fun h=>absurd h (by decide)⟩)))
     have q83:=of_decide_eq_false b83
     refine Al (k81 _ _ _ _ ?_)
     refine w_q rfl rfl fun K87 k87=>l_v (Ah (v:=ov68_7) h68_7) (l_v (Cb Bht rfl rfl ⟨_,Ab Bjn,rfl⟩ (by decide) h68_10 rfl) (Arv (Gu (v:=c26_1) ⟨_,Bho,rfl⟩ rfl (List.mem_append_right _ (List.mem_append_right _ (List.mem_cons_self ..))) rfl ?_)))
     refine l_v (Ah (v:=(iV ((q:Int)))) h68_14) ?_
     obtain ⟨a89,ha89⟩:=Ed (xs:=a23.out) (i:=q) (by omega)
     have hina89:=(hsoa23.outs q a89 ha89).1
     refine Arw (Ch q Bho ty3 rfl i26_3 (q:=(q:Int)) rfl rfl ha89) fun v88 r88=>?_
     have ⟨g90a,g90b⟩:=At.rng r88
     refine l_v (Bc ty3 rfl r88) (Bmb (iV (f80_)) (l_v (Nw ((a89).toNat) Bho ty3.info rfl OG68_7 (q:=a89) rfl (by omega) (by omega) rfl) (Cx rfl (Avq (σ:=(gr64 ++ ((k25,oC #[(iV (a23.hand)),c26_0,c26_1,(iV (a23.gain.low)),(iV (a23.gain.high)),(iV (a23.loss.low)),(iV (a23.loss.high))] 176) :: σ))) (gr:=og68_7) (i:=(a89).toNat) (v:=ov68_7) (w:=(iV (f80_))) ty3.info rfl rfl rfl (Cv.2 ⟨rfl,by constructor <;> omega⟩) OG68_7 (by omega) fun gr91 G91=>?_))))
     refine l_k k87 (Ag rfl rfl (l_v (Ah (v:=(iV (rr))) h68_11) (Bmb (iV (f80_)) (l_v (Ou rfl rfl (z:=(rr - f80_)) (Bo (by rfl) (by omega) (by omega))) (Bma (iV ((rr - f80_))) (l_k k73 (Ag rfl rfl (l_v (Ah (v:=(iV ((q:Int)))) h68_14) (l_v (Br rfl rfl (z:=(((q + 1):Nat):Int)) wrE) (Bma (iV ((((q + 1):Nat):Int))) (Ac ?_)))))))))))
     refine ⟨_,?_,((q + 1)),((ma.set ((a89).toNat) f80_)),((rr - f80_)),ov68_7,gr91,rfl,rfl,(Boo l68 l79),rfl,h68_1,h68_2,h68_8,h68_9,h68_10,h68_7,rfl,rfl,(by omega),(Aux ok p68_1 ha23 ha89 ⟨by omega,by omega⟩),(by have ho:=Auv ok (v:=f80_) p68_1.len ha23 ha89; rw [ho.1,ho.2]; omega),(Fy (rfl) G91),trivial⟩
     omega
    have q78:=of_decide_eq_false b78
    refine Al (k75 _ _ _ _ ?_)
    refine Asb rfl rfl fun K92 K93 k92 k93=>Bmb (iV (rr)) (l_v (Gl rfl rfl) (l_k k93 (Up (t:=decide (rr > 1000000)) rfl (fun b94=>?_) (fun b94=>?_))))
    ·have q94:=of_decide_eq_true b94
     refine w_q rfl rfl fun K95 k95=>Bma (nS) (Bma (nS) (Bma (.bool (false)) (l_k k95 (Hc OG68_7 fun ρ96 l96 r96=>?_))))
     replace G64:=Bom l96 G64
     refine Hc G64 fun ρ97 l97 r97=>Aj Boj (Aq (hret _ _ _ (⟨(Boo (Boo (Boo (Boo (Boo (Boo l2 l11) l50) l65) l68) l96) l97),rfl,_,_,[],[],false,(Mp (r:=4) (r':=5) (rs:=[6]) (v:=(nS)) (v':=(nS)) (vs:=[(.bool (false))]) ⟨rfl,rfl,rfl,trivial⟩),Gx,Gx,fun h=>absurd h (by decide)⟩)))
    have q94:=of_decide_eq_false b94
    refine Al (k92 _ _ _ _ ?_)
    refine w_q rfl rfl fun K98 k98=>l_v (Ah (v:=ov68_7) h68_7) (l_v (Cb Bht rfl rfl ⟨_,Ab Bjn,rfl⟩ (by decide) h68_10 rfl) (Arv (Gu (v:=c26_1) ⟨_,Bho,rfl⟩ rfl (List.mem_append_right _ (List.mem_append_right _ (List.mem_cons_self ..))) rfl ?_)))
    refine l_v (Ah (v:=(iV ((q:Int)))) h68_14) ?_
    obtain ⟨a100,ha100⟩:=Ed (xs:=a23.out) (i:=q) (by omega)
    have hina100:=(hsoa23.outs q a100 ha100).1
    refine Arw (Ch q Bho ty3 rfl i26_3 (q:=(q:Int)) rfl rfl ha100) fun v99 r99=>?_
    have ⟨g101a,g101b⟩:=At.rng r99
    refine l_v (Bc ty3 rfl r99) (Bmb (iV (rr)) (l_v (Nw ((a100).toNat) Bho ty3.info rfl OG68_7 (q:=a100) rfl (by omega) (by omega) rfl) (Cx rfl (Avq (σ:=(gr64 ++ ((k25,oC #[(iV (a23.hand)),c26_0,c26_1,(iV (a23.gain.low)),(iV (a23.gain.high)),(iV (a23.loss.low)),(iV (a23.loss.high))] 176) :: σ))) (gr:=og68_7) (i:=(a100).toNat) (v:=ov68_7) (w:=(iV (rr))) ty3.info rfl rfl rfl (Cv.2 ⟨rfl,by constructor <;> omega⟩) OG68_7 (by omega) fun gr102 G102=>?_))))
    refine l_k k98 (Ag rfl rfl (l_v (Ah (v:=(iV (rr))) h68_11) (Bmb (iV (rr)) (l_v (Ou rfl rfl (z:=(rr - rr)) (Bo (by rfl) (by omega) (by omega))) (Bma (iV ((rr - rr))) (l_k k73 (Ag rfl rfl (l_v (Ah (v:=(iV ((q:Int)))) h68_14) (l_v (Br rfl rfl (z:=(((q + 1):Nat):Int)) wrE) (Bma (iV ((((q + 1):Nat):Int))) (Ac ?_)))))))))))
    refine ⟨_,?_,((q + 1)),((ma.set ((a100).toNat) rr)),((rr - rr)),ov68_7,gr102,rfl,rfl,l68,rfl,h68_1,h68_2,h68_8,h68_9,h68_10,h68_7,rfl,rfl,(by omega),(Aux ok p68_1 ha23 ha100 ⟨by omega,by omega⟩),(by have ho:=Auv ok (v:=rr) p68_1.len ha23 ha100; rw [ho.1,ho.2]; omega),(Fy (rfl) G102),trivial⟩
    omega
   have q72:=of_decide_eq_false b72
   refine Bx (k18 _ _ _ _ ?_)
   refine Ag rfl rfl (l_v (Ah (v:=(iV ((i:Int)))) h68_9) (l_v (Br rfl rfl (z:=(((i + 1):Nat):Int)) wrE) (Bma (iV ((((i + 1):Nat):Int))) (Bj (Bol ((p_a Asd).trans Asd)) (Bj Boj (Ac ?_))))))
   refine ⟨_,?_,((i + 1)),(ma),((t ++ ([av]:List Int))),(Bci g i f29_),(Bci x i av),ov68_7,og68_7,v64,gr64,rfl,rfl,(Boo (Boo (Boo l11 l50) l65) l68),rfl,h68_1,h68_2,h68_7,h68_8,rfl,(by omega),(Axq p68_1 ha23 ⟨by omega,by omega⟩ ⟨by omega,by omega⟩ (by have ht:=p68_2; rw [List.take_of_length_le (by omega)] at ht; omega)),(by simp only [List.length_append,List.length_cons,List.length_nil]; omega),(Fy (rfl) OG68_7),(Fy (rfl) G64),trivial⟩
   omega
  have q55:=Jq b55
  refine Al (k52 _ _ _ _ ?_)
  refine Asb rfl rfl fun K103 K104 k103 k104=>Bmb (iV (f51_)) (l_v (Cb Bht rfl rfl ⟨_,Ab Bii,rfl⟩ (by decide) h32_10 rfl) (l_v (Cb Bhu rfl rfl ⟨_,Ab Bhq,rfl⟩ (by decide) rfl rfl) (Arv (Dt (i:=0) (v:=(iV (a23.loss.high))) ⟨_,Bhv,rfl⟩ rfl rfl rfl ?_))))
  refine l_v (Gl rfl rfl) (l_k k104 (Up (t:=decide (f51_ > a23.loss.high)) rfl (fun b105=>?_) (fun b105=>?_)))
  ·have q105:=of_decide_eq_true b105
   refine w_q rfl rfl fun K106 k106=>Bma (nS) (Bma (nS) (Bma (.bool (false)) (l_k k106 (Aj Boj (Hc OG11_7 fun ρ107 l107 r107=>?_)))))
   replace OG11_8:=Bom l107 OG11_8
   refine Hc OG11_8 fun ρ108 l108 r108=>Aq (hret _ _ _ (⟨(Boo (Boo (Boo (Boo l2 l11) l50) l107) l108),rfl,_,_,[],[],false,(Mp (r:=4) (r':=5) (rs:=[6]) (v:=(nS)) (v':=(nS)) (vs:=[(.bool (false))]) ⟨rfl,rfl,rfl,trivial⟩),Gx,Gx,fun h=>absurd h (by decide)⟩))
  have q105:=of_decide_eq_false b105
  refine Al (k103 _ _ _ _ ?_)
  refine w_q rfl rfl fun K109 k109=>l_v (Ah (v:=ov11_8) h32_8) (Bmb (iV (f51_)) (Arv (Bi (α:=Int) (xs:=[f51_]) (vs:=[(iV (f51_))]) Bho ty3 zr3 rfl (by decide) (Dk (os:=[.tmp 85]) ⟨rfl,trivial⟩) ⟨(Cv.2 ⟨rfl,by constructor <;> omega⟩),trivial⟩ rfl (by decide) fun k110 cs110 R110=>?_)))
  have G110:Grow ρ50 3 (.slice (some ⟨k110,0,none⟩) 1 1) ([f51_]:List Int) [(k110,oC cs110.toArray 3)]:=Bs R110 rfl (by decide)
  refine Ca G110 fun ρ112 l112 r112=>?_
  replace rp:=Boq l112 rp
  replace OG11_7:=Bom l112 OG11_7
  replace OG11_8:=Bom l112 OG11_8
  replace i26_3:=Boq l112 i26_3
  refine Bj (Bol ((p_c Ase).trans Asw)) (Arv (Gc (σ:=((k25,oC #[(iV (a23.hand)),c26_0,c26_1,(iV (a23.gain.low)),(iV (a23.gain.high)),(iV (a23.loss.low)),(iV (a23.loss.high))] 176) :: (og11_7 ++ σ))) (gr:=og11_8) (xs:=t) (ys:=([f51_]:List Int)) Bho Bho (Ab Bhq) rfl (Nat.le_of_ble_eq_true rfl) rfl rfl rfl rfl OG11_8 r112 (by simp only [List.length_append,List.length_cons,List.length_nil] at *; omega) fun v111 gr111 G111=>?_))
  refine Bma v111 (Arx rfl rfl k109 fun K113 k113=>l_v (Ah (v:=(iV (av))) h32_11) (Bmb (iV (f51_)) (l_v (Ou rfl rfl (z:=(av - f51_)) (Bo (by rfl) (by omega) (by omega))) (Bma (iV ((av - f51_))) (Arx rfl rfl k113 fun K114 k114=>Bma (iV (0)) (l_k k114 (Ao ?_)))))))
  have hav:av = f29_ + Asm m a23.in_:=by have:=p32_1; rw [show k = a23.in_.length by omega,List.take_length] at this; exact this
  refine Aj (Bol Asd) (Aj (Bol Asw) (Aj (Bol ((p_a Asw).trans Ase)) (Cc (fun mm ee dd ρ' σ'=>∃ (q:Nat) (ma:List Int) (rr:Int) (ov115_7:Value) (og115_7:Own),(a23.out.length - q) = mm∧[] = dd∧Ro.le ρ112 ρ'∧(og115_7 ++ (gr111 ++ ((k25,oC #[(iV (a23.hand)),c26_0,c26_1,(iV (a23.gain.low)),(iV (a23.gain.high)),(iV (a23.loss.low)),(iV (a23.loss.high))] 176) :: σ))) = σ'∧ee 1 = vp∧ee 2 = (.pointer (some ⟨k2,0,none⟩))∧ee 8 = v111∧ee 9 = (iV ((i:Int)))∧ee 10 = (.pointer (some ⟨k25,0,none⟩))∧ee 7 = ov115_7∧ee 11 = (iV (rr))∧ee 14 = (iV ((q:Int)))∧(q ≤ a23.out.length)∧(TruthTo b ma g x i)∧(f29_ + Asm ma a23.in_ = f51_ + rr + Asm ma (a23.out.take q)∧0 ≤ rr∧rr ≤ 100000000∧(q = a23.out.length→rr = 0))∧Grow ρ' 3 ov115_7 ma og115_7∧True) (m:=_) ⟨0,m,(av - f51_),ov11_7,og11_7,rfl,rfl,Bon,rfl,h32_1,h32_2,rfl,h32_9,h32_10,h32_7,rfl,rfl,(Nat.zero_le _),p11_1,(by rw [List.take_zero,Avv]; omega),OG11_7,trivial⟩ ?_)))
  rintro m115 e115 _ ρ115 _ ⟨q,ma,rr,ov115_7,og115_7,rfl,rfl,l115,rfl,h115_1,h115_2,h115_8,h115_9,h115_10,h115_7,h115_11,h115_14,p115_0,p115_1,p115_2,OG115_7,_⟩
  replace rp:=Boq l115 rp
  replace i26_3:=Boq l115 i26_3
  replace G111:=Bom l115 G111
  have hmm:=p115_1.len
  refine Asb rfl rfl fun K116 K117 k116 k117=>l_v (Ah (v:=(iV ((q:Int)))) h115_14) (l_v (Cb Bht rfl rfl ⟨_,Ab Bjn,rfl⟩ (by decide) h115_10 rfl) (Arv (Gu (v:=c26_1) ⟨_,Bho,rfl⟩ rfl (List.mem_append_right _ (List.mem_append_right _ (List.mem_cons_self ..))) rfl ?_)))
  have g118:=Bop i26_3
  refine l_v (Ci (el:=3) Bho rfl i26_3) (l_v (Da rfl rfl) (l_k k117 (Up (t:=decide ((q:Int) < ((a23.out.length:Nat):Int))) rfl (fun b119=>?_) (fun b119=>?_))))
  ·have q119:=of_decide_eq_true b119
   refine Al (k116 _ _ _ _ ?_)
   refine Ai fun K120 k120=>Ao (w_q rfl rfl fun K121 k121=>l_v (Ah (v:=(iV (rr))) h115_11) (Bma (iV (rr)) (Ary rfl rfl k121 fun K122 K123 k122 k123=>l_v (Ah (v:=(iV ((q:Int)))) h115_14) (l_v (Cb Bht rfl rfl ⟨_,Ab Bjn,rfl⟩ (by decide) h115_10 rfl) (Arv (Gu (v:=c26_1) ⟨_,Bho,rfl⟩ rfl (List.mem_append_right _ (List.mem_append_right _ (List.mem_cons_self ..))) rfl ?_))))))
   have g124:=Bop i26_3
   refine l_v (Ci (el:=3) Bho rfl i26_3) (l_v (Ou rfl rfl (z:=(((a23.out.length:Nat):Int) - 1)) wrE) (l_v (Da rfl rfl) (l_k k123 (Up (t:=decide ((q:Int) < (((a23.out.length:Nat):Int) - 1))) rfl (fun b125=>?_) (fun b125=>?_)))))
   ·have q125:=of_decide_eq_true b125
    refine Ag rfl rfl (l_v (Ah (v:=(iV (rr))) h115_11) (Arv (Cm (vs:=[(iV (0)),(iV (rr))]) (Avh (a:=0) (b:=rr) (by constructor <;> omega) (by constructor <;> omega)) Bnh rfl rfl ⟨rfl,rfl,trivial⟩ fun v126 ρ126 σ126 hc126=>?_)))
    obtain ⟨l126,s126,r126⟩:=hc126
    replace s126:=s126.symm; subst s126
    replace rp:=Boq l126 rp
    replace i26_3:=Boq l126 i26_3
    replace G111:=Bom l126 G111
    replace OG115_7:=Bom l126 OG115_7
    refine l_v (Ah (v:=vp) h115_1) (l_v (Ah (v:=(iV ((i:Int)))) h115_9) (l_v (Wq rfl rfl (z:=(((3 * i):Nat):Int)) wrE) (l_v (Br rfl rfl (z:=(((20 + (3 * i)):Nat):Int)) wrE) (l_v (Ah (v:=(iV ((q:Int)))) h115_14) (l_v (Br rfl rfl (z:=((((20 + (3 * i)) + q):Nat):Int)) wrE) (Arv (Cm (vs:=[v126,vp,(iV (((((20 + (3 * i)) + q):Nat):Int)))]) (Awl r126 (show 0 ≤ 0∧0 ≤ rr∧rr ≤ 1000000000 from by omega) rp (by omega)) Bnn rfl rfl ⟨rfl,rfl,rfl,trivial⟩ fun w127 ρ127 σ127 hc127=>?_)))))))
    obtain ⟨hr127,hs127,f127_,hw127,hy127,hz127⟩:=hc127
    replace hr127:=hr127.symm; replace hs127:=hs127.symm; subst hr127 hs127 hw127
    replace hy127:0 ≤ f127_:=hy127; replace hz127:f127_ ≤ rr:=hz127
    refine Bma (iV (f127_)) (Ary rfl rfl k122 fun K128 K129 k128 k129=>Bmb (iV (f127_)) (l_v (Gl rfl rfl) (l_k k129 (Up (t:=decide (f127_ > 1000000)) rfl (fun b130=>?_) (fun b130=>?_)))))
    ·have q130:=of_decide_eq_true b130
     refine w_q rfl rfl fun K131 k131=>Bma (nS) (Bma (nS) (Bma (.bool (false)) (l_k k131 (Hc OG115_7 fun ρ132 l132 r132=>?_))))
     replace G111:=Bom l132 G111
     refine Hc G111 fun ρ133 l133 r133=>Aj Boj (Aq (hret _ _ _ (⟨(Boo (Boo (Boo (Boo (Boo (Boo (Boo l2 l11) l50) l112) l115) l126) l132) l133),rfl,_,_,[],[],false,(Mp (r:=4) (r':=5) (rs:=[6]) (v:=(nS)) (v':=(nS)) (vs:=[(.bool (false))]) ⟨rfl,rfl,rfl,trivial⟩),Gx,Gx,fun h=>absurd h (by decide)⟩)))
    have q130:=of_decide_eq_false b130
    refine Al (k128 _ _ _ _ ?_)
    refine w_q rfl rfl fun K134 k134=>l_v (Ah (v:=ov115_7) h115_7) (l_v (Cb Bht rfl rfl ⟨_,Ab Bjn,rfl⟩ (by decide) h115_10 rfl) (Arv (Gu (v:=c26_1) ⟨_,Bho,rfl⟩ rfl (List.mem_append_right _ (List.mem_append_right _ (List.mem_cons_self ..))) rfl ?_)))
    refine l_v (Ah (v:=(iV ((q:Int)))) h115_14) ?_
    obtain ⟨a136,ha136⟩:=Ed (xs:=a23.out) (i:=q) (by omega)
    have hina136:=(hsoa23.outs q a136 ha136).1
    refine Arw (Ch q Bho ty3 rfl i26_3 (q:=(q:Int)) rfl rfl ha136) fun v135 r135=>?_
    have ⟨g137a,g137b⟩:=At.rng r135
    refine l_v (Bc ty3 rfl r135) (Bmb (iV (f127_)) (l_v (Nw ((a136).toNat) Bho ty3.info rfl OG115_7 (q:=a136) rfl (by omega) (by omega) rfl) (Cx rfl (Avq (σ:=(gr111 ++ ((k25,oC #[(iV (a23.hand)),c26_0,c26_1,(iV (a23.gain.low)),(iV (a23.gain.high)),(iV (a23.loss.low)),(iV (a23.loss.high))] 176) :: σ))) (gr:=og115_7) (i:=(a136).toNat) (v:=ov115_7) (w:=(iV (f127_))) ty3.info rfl rfl rfl (Cv.2 ⟨rfl,by constructor <;> omega⟩) OG115_7 (by omega) fun gr138 G138=>?_))))
    refine l_k k134 (Ag rfl rfl (l_v (Ah (v:=(iV (rr))) h115_11) (Bmb (iV (f127_)) (l_v (Ou rfl rfl (z:=(rr - f127_)) (Bo (by rfl) (by omega) (by omega))) (Bma (iV ((rr - f127_))) (l_k k120 (Ag rfl rfl (l_v (Ah (v:=(iV ((q:Int)))) h115_14) (l_v (Br rfl rfl (z:=(((q + 1):Nat):Int)) wrE) (Bma (iV ((((q + 1):Nat):Int))) (Ac ?_)))))))))))
    refine ⟨_,?_,((q + 1)),((ma.set ((a136).toNat) f127_)),((rr - f127_)),ov115_7,gr138,rfl,rfl,(Boo l115 l126),rfl,h115_1,h115_2,h115_8,h115_9,h115_10,h115_7,rfl,rfl,(by omega),(Aux ok p115_1 ha23 ha136 ⟨by omega,by omega⟩),(by have ho:=Auv ok (v:=f127_) p115_1.len ha23 ha136; rw [ho.1,ho.2]; omega),(Fy (rfl) G138),trivial⟩
    omega
   have q125:=of_decide_eq_false b125
   refine Al (k122 _ _ _ _ ?_)
   refine Asb rfl rfl fun K139 K140 k139 k140=>Bmb (iV (rr)) (l_v (Gl rfl rfl) (l_k k140 (Up (t:=decide (rr > 1000000)) rfl (fun b141=>?_) (fun b141=>?_))))
   ·have q141:=of_decide_eq_true b141
    refine w_q rfl rfl fun K142 k142=>Bma (nS) (Bma (nS) (Bma (.bool (false)) (l_k k142 (Hc OG115_7 fun ρ143 l143 r143=>?_))))
    replace G111:=Bom l143 G111
    refine Hc G111 fun ρ144 l144 r144=>Aj Boj (Aq (hret _ _ _ (⟨(Boo (Boo (Boo (Boo (Boo (Boo l2 l11) l50) l112) l115) l143) l144),rfl,_,_,[],[],false,(Mp (r:=4) (r':=5) (rs:=[6]) (v:=(nS)) (v':=(nS)) (vs:=[(.bool (false))]) ⟨rfl,rfl,rfl,trivial⟩),Gx,Gx,fun h=>absurd h (by decide)⟩)))
   have q141:=of_decide_eq_false b141
   refine Al (k139 _ _ _ _ ?_)
   refine w_q rfl rfl fun K145 k145=>l_v (Ah (v:=ov115_7) h115_7) (l_v (Cb Bht rfl rfl ⟨_,Ab Bjn,rfl⟩ (by decide) h115_10 rfl) (Arv (Gu (v:=c26_1) ⟨_,Bho,rfl⟩ rfl (List.mem_append_right _ (List.mem_append_right _ (List.mem_cons_self ..))) rfl ?_)))
   refine l_v (Ah (v:=(iV ((q:Int)))) h115_14) ?_
   obtain ⟨a147,ha147⟩:=Ed (xs:=a23.out) (i:=q) (by omega)
   have hina147:=(hsoa23.outs q a147 ha147).1
   refine Arw (Ch q Bho ty3 rfl i26_3 (q:=(q:Int)) rfl rfl ha147) fun v146 r146=>?_
   have ⟨g148a,g148b⟩:=At.rng r146
   refine l_v (Bc ty3 rfl r146) (Bmb (iV (rr)) (l_v (Nw ((a147).toNat) Bho ty3.info rfl OG115_7 (q:=a147) rfl (by omega) (by omega) rfl) (Cx rfl (Avq (σ:=(gr111 ++ ((k25,oC #[(iV (a23.hand)),c26_0,c26_1,(iV (a23.gain.low)),(iV (a23.gain.high)),(iV (a23.loss.low)),(iV (a23.loss.high))] 176) :: σ))) (gr:=og115_7) (i:=(a147).toNat) (v:=ov115_7) (w:=(iV (rr))) ty3.info rfl rfl rfl (Cv.2 ⟨rfl,by constructor <;> omega⟩) OG115_7 (by omega) fun gr149 G149=>?_))))
   refine l_k k145 (Ag rfl rfl (l_v (Ah (v:=(iV (rr))) h115_11) (Bmb (iV (rr)) (l_v (Ou rfl rfl (z:=(rr - rr)) (Bo (by rfl) (by omega) (by omega))) (Bma (iV ((rr - rr))) (l_k k120 (Ag rfl rfl (l_v (Ah (v:=(iV ((q:Int)))) h115_14) (l_v (Br rfl rfl (z:=(((q + 1):Nat):Int)) wrE) (Bma (iV ((((q + 1):Nat):Int))) (Ac ?_)))))))))))
   refine ⟨_,?_,((q + 1)),((ma.set ((a147).toNat) rr)),((rr - rr)),ov115_7,gr149,rfl,rfl,l115,rfl,h115_1,h115_2,h115_8,h115_9,h115_10,h115_7,rfl,rfl,(by omega),(Aux ok p115_1 ha23 ha147 ⟨by omega,by omega⟩),(by have ho:=Auv ok (v:=rr) p115_1.len ha23 ha147; rw [ho.1,ho.2]; omega),(Fy (rfl) G149),trivial⟩
   omega
  have q119:=of_decide_eq_false b119
  refine Bx (k18 _ _ _ _ ?_)
  refine Ag rfl rfl (l_v (Ah (v:=(iV ((i:Int)))) h115_9) (l_v (Br rfl rfl (z:=(((i + 1):Nat):Int)) wrE) (Bma (iV ((((i + 1):Nat):Int))) (Bj (Bol ((p_a Asd).trans Asd)) (Bj Boj (Ac ?_))))))
  refine ⟨_,?_,((i + 1)),(ma),((t ++ ([f51_]:List Int))),(Bci g i f29_),(Bci x i f51_),ov115_7,og115_7,v111,gr111,rfl,rfl,(Boo (Boo (Boo l11 l50) l112) l115),rfl,h115_1,h115_2,h115_7,h115_8,rfl,(by omega),(Axq p115_1 ha23 ⟨by omega,by omega⟩ ⟨by omega,by omega⟩ (by have ht:=p115_2; rw [List.take_of_length_le (by omega)] at ht; omega)),(by simp only [List.length_append,List.length_cons,List.length_nil]; omega),(Fy (rfl) OG115_7),(Fy (rfl) G111),trivial⟩
  omega
 have q17:=of_decide_eq_false b17
 refine Bx (k9 _ _ _ _ ?_)
 refine Ai fun K150 k150=>Hc OG11_7 fun ρ151 l151 r151=>?_
 replace OG11_8:=Bom l151 OG11_8
 refine Hc OG11_8 fun ρ152 l152 r152=>?_
 replace r151:=Boq l152 r151
 refine Ag rfl rfl (l_v (Ah (v:=ov11_7) h11_7) (l_v (Ah (v:=ov11_8) h11_8) (Bma ov11_7 (Bma ov11_8 (Bma (.bool (true)) (l_k k150 (Aq (hret _ _ _ (⟨(Boo (Boo (Boo l2 l11) l151) l152),rfl,_,_,_,_,true,(Mp (r:=4) (r':=5) (rs:=[6]) (v:=ov11_7) (v':=ov11_8) (vs:=[(.bool (true))]) ⟨rfl,rfl,rfl,trivial⟩),r151,r152,fun _=>⟨g,x,Bcg p11_1 (by omega)⟩⟩)))))))))
theorem Bbx {b:TBook} {vb vm:Value} {m:List Int} (rb:Val ρ vb b) (ok:TBookOk b) (rm:Val ρ vm m) (hm:m.length = b.piles.length) (hv:∀ (p:Nat) (v:Int),m[p]? = some v→0 ≤ v∧v ≤ 1000000):CallsH (CX mn X) 27 #[vb,vm] ρ σ (fun w ρ' σ'=>Ro.le ρ ρ'∧σ' = σ∧Val ρ' w (Axw b m:TBook)):=by
 have hn10:=ok.nscales
 refine Lt (n:=59) (args:=[vb,vm]) [.cell 4 74] Tryz.func27 rfl rfl rfl rfl fun Q hret hnor=>w_q rfl rfl fun K1 k1=>Arv (Eb (v:=vb) rfl fun k2=>?_)
 refine Bb (a:=b) rb fun ρ2 l2 r2=>?_
 replace rm:=Boq l2 rm
 refine Arv (Ct Bcn fun k3=>?_)
 refine Arx rfl rfl k1 fun K4 k4=>Arw (Ax Ath rfl r2) fun v5 r5=>Arv (Ct Bcn fun k6=>?_)
 obtain ⟨c7_0,c7_1,c7_2,c7_3,e7_,i7_1,i7_2,i7_3,i7_4⟩:=TBook.open_ r5
 have e7_c:v5.cells = [c7_0,c7_1,c7_2,c7_3].toArray:=by rw [e7_]; rfl
 refine Cx rfl (Li (i:=0) (vs:=[c7_0,c7_1,c7_2,c7_3]) (c':=[c7_0,c7_1,c7_2,c7_3]) ⟨_,Ab Blo,rfl⟩ rfl rfl e7_c rfl (Zh ⟨(Val.single_l i7_1),(Val.single_l i7_2),(Val.single_l i7_3),(Val.single_l i7_4),trivial⟩) rfl (Nat.le_of_ble_eq_true rfl) rfl ?_)
 refine Arx rfl rfl k4 fun K8 k8=>l_v (Cb Bhr rfl rfl ⟨_,Ab Bjw,rfl⟩ (by decide) rfl rfl) (Cx rfl (Cz (j:=0) (v:=(nS)) ⟨_,Ab Bjw,rfl⟩ rfl rfl rfl rfl (Nat.le_of_ble_eq_true rfl) ?_))
 refine Ary rfl rfl k8 fun K9 K10 k9 k10=>Bma (iV (0)) (l_k k10 (Ao (Cc (fun mm ee dd ρ' σ'=>∃ (i:Nat) (ov11_5c3:Value) (og11_5c3:Own),(b.scales.length - i) = mm∧[] = dd∧Ro.le ρ2 ρ'∧(og11_5c3 ++ ((k6,oC #[c7_0,c7_1,c7_2,ov11_5c3] 74) :: ((k3,oC #[(nS),(nS),(nS),(nS)] 74) :: σ))) = σ'∧ee 1 = vm∧ee 2 = (.pointer (some ⟨k2,0,none⟩))∧ee 4 = (.pointer (some ⟨k3,0,none⟩))∧ee 5 = (.pointer (some ⟨k6,0,none⟩))∧ee 6 = (iV ((i:Int)))∧(i ≤ b.scales.length)∧Grow ρ' 180 ov11_5c3 (scW b m i) og11_5c3∧True) (m:=_) ⟨0,(nS),[],rfl,rfl,Bon,rfl,rfl,rfl,rfl,rfl,rfl,(Nat.zero_le _),(Fy (by simp [scW]) Hm),trivial⟩ ?_)))
 rintro m11 e11 _ ρ11 _ ⟨i,ov11_5c3,og11_5c3,rfl,rfl,l11,rfl,h11_1,h11_2,h11_4,h11_5,h11_6,p11_0,OG11_5c3,_⟩
 replace rm:=Boq l11 rm
 replace r2:=At.mono l11 r2
 replace i7_1:=Boq l11 i7_1
 replace i7_2:=Boq l11 i7_2
 replace i7_3:=Boq l11 i7_3
 refine Asb rfl rfl fun K12 K13 k12 k13=>l_v (Ah (v:=(iV ((i:Int)))) h11_6) (Arw (Ay TBook.f_scales Bhr rfl rfl Asy (by decide) h11_2 r2) fun v14 r14=>Arw (Ax Asy rfl r14) fun v15 r15=>?_)
 have g16:=Bop r15
 refine l_v (Ci (el:=180) Bib rfl r15) (l_v (Da rfl rfl) (l_k k13 (Up (t:=decide ((i:Int) < ((b.scales.length:Nat):Int))) rfl (fun b17=>?_) (fun b17=>?_))))
 ·have q17:=of_decide_eq_true b17
  refine Al (k12 _ _ _ _ ?_)
  refine Ai fun K18 k18=>Ao (w_q rfl rfl fun K19 k19=>Arw (Ay TBook.f_scales Bhr rfl rfl Asy (by decide) h11_2 r2) fun v20 r20=>Arw (Ax Asy rfl r20) fun v21 r21=>l_v (Ah (v:=(iV ((i:Int)))) h11_6) ?_)
  obtain ⟨a23,ha23⟩:=Ed (xs:=b.scales) (i:=i) (by omega)
  have hsca23:=ok.scale i a23 ha23
  refine Arw (Ch i Bib Atn rfl r21 (q:=(i:Int)) rfl rfl ha23) fun v22 r22=>Arw (Ax Atn rfl r22) fun v24 r24=>Arv (Ct Avw fun k25=>?_)
  obtain ⟨e26_,⟨i26_1a,i26_1b⟩,⟨i26_2a,i26_2b⟩,⟨i26_3a,i26_3b⟩⟩:=TScale.open_ r24
  have e26_c:v24.cells = [(iV (a23.pile)),(iV (a23.mass.low)),(iV (a23.mass.high))].toArray:=by rw [e26_]; rfl
  refine Cx rfl (Li (i:=0) (vs:=[(iV (a23.pile)),(iV (a23.mass.low)),(iV (a23.mass.high))]) (c':=[(iV (a23.pile)),(iV (a23.mass.low)),(iV (a23.mass.high))]) ⟨_,Ab Bkb,rfl⟩ rfl rfl e26_c rfl (Zh ⟨rfl,rfl,rfl,trivial⟩) rfl (Nat.le_of_ble_eq_true rfl) rfl ?_)
  refine Arx rfl rfl k19 fun K27 k27=>l_v (Ah (v:=vm) h11_1) (l_v (Cb Bjb rfl rfl ⟨_,Ab Bhq,rfl⟩ (by decide) rfl rfl) (Arv (Dt (i:=0) (v:=(iV (a23.pile))) ⟨_,Bhv,rfl⟩ rfl rfl rfl ?_)))
  obtain ⟨a29,ha29⟩:=Ed (xs:=m) (i:=(a23.pile).toNat) (by omega)
  have hmva29:=hv (a23.pile).toNat a29 ha29
  refine Arw (Ch ((a23.pile).toNat) Bho ty3 rfl rm (q:=a23.pile) rfl (by omega) ha29) fun v28 r28=>?_
  have ⟨g30a,g30b⟩:=At.rng r28
  refine l_v (Bc ty3 rfl r28) (Bma (iV (a29)) (Ary rfl rfl k27 fun K31 K32 k31 k32=>Bmb (iV (a29)) (l_v (Cb Bjb rfl rfl ⟨_,Ab Bii,rfl⟩ (by decide) rfl rfl) (l_v (Cb Bhu rfl rfl ⟨_,Ab Bhq,rfl⟩ (by decide) rfl rfl) (Arv (Dt (i:=0) (v:=(iV (a23.mass.low))) ⟨_,Bhv,rfl⟩ rfl rfl rfl ?_))))))
  refine l_v (Da rfl rfl) (Bmb (.bool (decide (a29 < a23.mass.low))) (Cn (decide (a29 < a23.mass.low)) (fun b33=>?_) (fun b33=>?_)))
  ·have q33:=of_decide_eq_true b33
   refine Ap (gN rfl b33) (Ap (gN rfl b33) (Ap (gN rfl b33) (Ap (gN rfl b33) (Ap (gN rfl b33) (l_v (Bt rfl b33 (v:=(.bool (true))) rfl) (l_k k32 (Co rfl rfl (Ag rfl rfl (Bmb (iV (a29)) (l_v (Ah (v:=(iV ((i:Int)))) h11_6) (l_v (Bdj (p:=(i:Int)) (q:=4) rfl rfl (by omega) (z:=(((i % 4):Nat):Int)) rfl) (l_v (Ou rfl rfl (z:=(a29 - (((i % 4):Nat):Int))) (Bo (by rfl) (by omega) (by omega))) (l_v (Aqf (p:=0) (q:=(a29 - (((i % 4):Nat):Int))) rfl rfl) (Bmb (iV (a29)) (l_v (Ah (v:=(iV ((i:Int)))) h11_6) (l_v (Bdj (p:=(i:Int)) (q:=3) rfl rfl (by omega) (z:=(((i % 3):Nat):Int)) rfl) (l_v (Br rfl rfl (z:=(a29 + (((i % 3):Nat):Int))) (Bo (by rfl) (by omega) (by omega))) (l_v (Ajx (p:=1000000) (q:=(a29 + (((i % 3):Nat):Int))) rfl rfl) (Arv (Cm (vs:=[(iV ((max 0 ((a29 - (((i % 4):Nat):Int)))))),(iV ((min 1000000 ((a29 + (((i % 3):Nat):Int))))))]) (Avh (a:=(max 0 ((a29 - (((i % 4):Nat):Int))))) (b:=(min 1000000 ((a29 + (((i % 3):Nat):Int))))) (by constructor <;> omega) (by constructor <;> omega)) Bnh rfl rfl ⟨rfl,rfl,trivial⟩ fun v34 ρ34 σ34 hc34=>?_))))))))))))))))))))
   obtain ⟨l34,s34,r34⟩:=hc34
   replace s34:=s34.symm; subst s34
   replace OG11_5c3:=Bom l34 OG11_5c3
   refine l_v (Cb Bjb rfl rfl ⟨_,Ab Bii,rfl⟩ (by decide) rfl rfl) ?_
   obtain ⟨e35_,⟨i35_1a,i35_1b⟩,⟨i35_2a,i35_2b⟩⟩:=Span.open_ r34
   have e35_c:v34.cells = [(iV ((max 0 ((a29 - (((i % 4):Nat):Int)))))),(iV ((min 1000000 ((a29 + (((i % 3):Nat):Int))))))].toArray:=by rw [e35_]; rfl
   refine Cx rfl (Li (i:=0) (vs:=[(iV ((max 0 ((a29 - (((i % 4):Nat):Int)))))),(iV ((min 1000000 ((a29 + (((i % 3):Nat):Int))))))]) (c':=[(iV (a23.pile)),(iV ((max 0 ((a29 - (((i % 4):Nat):Int)))))),(iV ((min 1000000 ((a29 + (((i % 3):Nat):Int))))))]) ⟨_,Ab Bii,rfl⟩ rfl rfl e35_c rfl (Zh ⟨rfl,rfl,trivial⟩) rfl (Nat.le_of_ble_eq_true rfl) rfl ?_)
   refine l_k k31 (Ag rfl rfl (l_v (Cb Bhr rfl rfl ⟨_,Ab Bjw,rfl⟩ (by decide) h11_5 rfl) (Arv (Gu (v:=ov11_5c3) ⟨_,Bib,rfl⟩ rfl (List.mem_cons_of_mem _ (List.mem_append_right _ (List.mem_cons_self ..))) rfl ?_))))
   refine Arv (Xo (i:=0) (cs:=[(iV (a23.pile)),(iV ((max 0 ((a29 - (((i % 4):Nat):Int)))))),(iV ((min 1000000 ((a29 + (((i % 3):Nat):Int))))))]) (rs:=[]) ⟨_,Bjb,rfl⟩ ⟨_,Ab Bkb,rfl⟩ rfl rfl rfl rfl ?_)
   have r36:Val ρ34 (.agg #[(iV (a23.pile)),(iV ((max 0 ((a29 - (((i % 4):Nat):Int)))))),(iV ((min 1000000 ((a29 + (((i % 3):Nat):Int))))))]) (⟨a23.pile,⟨(max 0 ((a29 - (((i % 4):Nat):Int)))),(min 1000000 ((a29 + (((i % 3):Nat):Int))))⟩⟩:TScale):=TScale.shut (x:=(⟨a23.pile,⟨(max 0 ((a29 - (((i % 4):Nat):Int)))),(min 1000000 ((a29 + (((i % 3):Nat):Int))))⟩⟩:TScale)) (show I64 (a23.pile) from by constructor <;> omega) (show I64 ((max 0 ((a29 - (((i % 4):Nat):Int))))) from by constructor <;> omega) (show I64 ((min 1000000 ((a29 + (((i % 3):Nat):Int))))) from by constructor <;> omega)
   refine Arv (Bi (α:=TScale) (xs:=[(⟨a23.pile,⟨(max 0 ((a29 - (((i % 4):Nat):Int)))),(min 1000000 ((a29 + (((i % 3):Nat):Int))))⟩⟩:TScale)]) (vs:=[(.agg #[(iV (a23.pile)),(iV ((max 0 ((a29 - (((i % 4):Nat):Int)))))),(iV ((min 1000000 ((a29 + (((i % 3):Nat):Int))))))])]) Bib Atn Avw rfl (by decide) (Dk (os:=[.tmp 54]) ⟨rfl,trivial⟩) ⟨r36,trivial⟩ rfl (by decide) fun k37 cs37 R37=>?_)
   have G37:Grow ρ34 180 (.slice (some ⟨k37,0,none⟩) 1 1) ([(⟨a23.pile,⟨(max 0 ((a29 - (((i % 4):Nat):Int)))),(min 1000000 ((a29 + (((i % 3):Nat):Int))))⟩⟩:TScale)]:List TScale) [(k37,oC cs37.toArray 180)]:=Bs R37 rfl (by decide)
   refine Ca G37 fun ρ39 l39 r39=>?_
   replace OG11_5c3:=Bom l39 OG11_5c3
   refine Bj (Bol Asw) (Arv (Gc (σ:=((k25,oC #[(iV (a23.pile)),(iV ((max 0 ((a29 - (((i % 4):Nat):Int)))))),(iV ((min 1000000 ((a29 + (((i % 3):Nat):Int))))))] 180) :: ((k6,oC #[c7_0,c7_1,c7_2,ov11_5c3] 74) :: ((k3,oC #[(nS),(nS),(nS),(nS)] 74) :: σ)))) (gr:=og11_5c3) (xs:=scW b m i) (ys:=([(⟨a23.pile,⟨(max 0 ((a29 - (((i % 4):Nat):Int)))),(min 1000000 ((a29 + (((i % 3):Nat):Int))))⟩⟩:TScale)]:List TScale)) Bib Bib (Ab Bkb) rfl (Nat.le_of_ble_eq_true rfl) rfl rfl rfl rfl OG11_5c3 r39 (by have:=Azs (b:=b) (m:=m) (n:=i); simp only [List.length_append,List.length_cons,List.length_nil] at *; omega) fun v38 gr38 G38=>?_))
   refine l_v (Cb Bhr rfl rfl ⟨_,Ab Bjw,rfl⟩ (by decide) h11_5 rfl) (Bj (Bol ((p_a Arz).trans Asd)) (Cx rfl (Cz (j:=0) (v:=v38) ⟨_,Ab Bjw,rfl⟩ rfl rfl (Grow.single G38) rfl (Nat.le_of_ble_eq_true rfl) ?_)))
   refine l_k k18 (Ag rfl rfl (l_v (Ah (v:=(iV ((i:Int)))) h11_6) (l_v (Br rfl rfl (z:=(((i + 1):Nat):Int)) wrE) (Bma (iV ((((i + 1):Nat):Int))) (Bj (Bol ((p_c Asd).trans Arz)) (Bj Boj (Bj (Bol ((p_c Asd).trans Arz)) (Bj (Bol Arz) (Bj (Bol ((p_c Asw).trans Asw)) (Ac ?_))))))))))
   refine ⟨_,?_,((i + 1)),v38,gr38,rfl,rfl,(Boo (Boo l11 l34) l39),rfl,h11_1,h11_2,h11_4,h11_5,rfl,(by omega),(Fy (Bdf ha23 ha29 (by omega)) G38),trivial⟩
   omega
  have q33:=of_decide_eq_false b33
  refine l_M (iV (a29)) (gY rfl b33) rfl (Aa (gY rfl b33) (Cb Bjb rfl rfl ⟨_,Ab Bii,rfl⟩ (by decide) rfl rfl) (Aa (gY rfl b33) (Cb Bhu rfl rfl ⟨_,Ab Bhq,rfl⟩ (by decide) rfl rfl) (Ae (gY rfl b33) (Dt (i:=0) (v:=(iV (a23.mass.high))) ⟨_,Bhv,rfl⟩ rfl rfl rfl ?_))))
  refine Aa (gY rfl b33) (Gl rfl rfl) (l_v (Bn rfl b33 (v:=(.bool (decide (a29 > a23.mass.high)))) rfl) (l_k k32 (Up (t:=decide (a29 > a23.mass.high)) rfl (fun b40=>?_) (fun b40=>?_))))
  ·have q40:=of_decide_eq_true b40
   refine Ag rfl rfl (Bmb (iV (a29)) (l_v (Ah (v:=(iV ((i:Int)))) h11_6) (l_v (Bdj (p:=(i:Int)) (q:=4) rfl rfl (by omega) (z:=(((i % 4):Nat):Int)) rfl) (l_v (Ou rfl rfl (z:=(a29 - (((i % 4):Nat):Int))) (Bo (by rfl) (by omega) (by omega))) (l_v (Aqf (p:=0) (q:=(a29 - (((i % 4):Nat):Int))) rfl rfl) (Bmb (iV (a29)) (l_v (Ah (v:=(iV ((i:Int)))) h11_6) (l_v (Bdj (p:=(i:Int)) (q:=3) rfl rfl (by omega) (z:=(((i % 3):Nat):Int)) rfl) (l_v (Br rfl rfl (z:=(a29 + (((i % 3):Nat):Int))) (Bo (by rfl) (by omega) (by omega))) (l_v (Ajx (p:=1000000) (q:=(a29 + (((i % 3):Nat):Int))) rfl rfl) (Arv (Cm (vs:=[(iV ((max 0 ((a29 - (((i % 4):Nat):Int)))))),(iV ((min 1000000 ((a29 + (((i % 3):Nat):Int))))))]) (Avh (a:=(max 0 ((a29 - (((i % 4):Nat):Int))))) (b:=(min 1000000 ((a29 + (((i % 3):Nat):Int))))) (by constructor <;> omega) (by constructor <;> omega)) Bnh rfl rfl ⟨rfl,rfl,trivial⟩ fun v41 ρ41 σ41 hc41=>?_))))))))))))
   obtain ⟨l41,s41,r41⟩:=hc41
   replace s41:=s41.symm; subst s41
   replace OG11_5c3:=Bom l41 OG11_5c3
   refine l_v (Cb Bjb rfl rfl ⟨_,Ab Bii,rfl⟩ (by decide) rfl rfl) ?_
   obtain ⟨e42_,⟨i42_1a,i42_1b⟩,⟨i42_2a,i42_2b⟩⟩:=Span.open_ r41
   have e42_c:v41.cells = [(iV ((max 0 ((a29 - (((i % 4):Nat):Int)))))),(iV ((min 1000000 ((a29 + (((i % 3):Nat):Int))))))].toArray:=by rw [e42_]; rfl
   refine Cx rfl (Li (i:=0) (vs:=[(iV ((max 0 ((a29 - (((i % 4):Nat):Int)))))),(iV ((min 1000000 ((a29 + (((i % 3):Nat):Int))))))]) (c':=[(iV (a23.pile)),(iV ((max 0 ((a29 - (((i % 4):Nat):Int)))))),(iV ((min 1000000 ((a29 + (((i % 3):Nat):Int))))))]) ⟨_,Ab Bii,rfl⟩ rfl rfl e42_c rfl (Zh ⟨rfl,rfl,trivial⟩) rfl (Nat.le_of_ble_eq_true rfl) rfl ?_)
   refine l_k k31 (Ag rfl rfl (l_v (Cb Bhr rfl rfl ⟨_,Ab Bjw,rfl⟩ (by decide) h11_5 rfl) (Arv (Gu (v:=ov11_5c3) ⟨_,Bib,rfl⟩ rfl (List.mem_cons_of_mem _ (List.mem_append_right _ (List.mem_cons_self ..))) rfl ?_))))
   refine Arv (Xo (i:=0) (cs:=[(iV (a23.pile)),(iV ((max 0 ((a29 - (((i % 4):Nat):Int)))))),(iV ((min 1000000 ((a29 + (((i % 3):Nat):Int))))))]) (rs:=[]) ⟨_,Bjb,rfl⟩ ⟨_,Ab Bkb,rfl⟩ rfl rfl rfl rfl ?_)
   have r43:Val ρ41 (.agg #[(iV (a23.pile)),(iV ((max 0 ((a29 - (((i % 4):Nat):Int)))))),(iV ((min 1000000 ((a29 + (((i % 3):Nat):Int))))))]) (⟨a23.pile,⟨(max 0 ((a29 - (((i % 4):Nat):Int)))),(min 1000000 ((a29 + (((i % 3):Nat):Int))))⟩⟩:TScale):=TScale.shut (x:=(⟨a23.pile,⟨(max 0 ((a29 - (((i % 4):Nat):Int)))),(min 1000000 ((a29 + (((i % 3):Nat):Int))))⟩⟩:TScale)) (show I64 (a23.pile) from by constructor <;> omega) (show I64 ((max 0 ((a29 - (((i % 4):Nat):Int))))) from by constructor <;> omega) (show I64 ((min 1000000 ((a29 + (((i % 3):Nat):Int))))) from by constructor <;> omega)
   refine Arv (Bi (α:=TScale) (xs:=[(⟨a23.pile,⟨(max 0 ((a29 - (((i % 4):Nat):Int)))),(min 1000000 ((a29 + (((i % 3):Nat):Int))))⟩⟩:TScale)]) (vs:=[(.agg #[(iV (a23.pile)),(iV ((max 0 ((a29 - (((i % 4):Nat):Int)))))),(iV ((min 1000000 ((a29 + (((i % 3):Nat):Int))))))])]) Bib Atn Avw rfl (by decide) (Dk (os:=[.tmp 54]) ⟨rfl,trivial⟩) ⟨r43,trivial⟩ rfl (by decide) fun k44 cs44 R44=>?_)
   have G44:Grow ρ41 180 (.slice (some ⟨k44,0,none⟩) 1 1) ([(⟨a23.pile,⟨(max 0 ((a29 - (((i % 4):Nat):Int)))),(min 1000000 ((a29 + (((i % 3):Nat):Int))))⟩⟩:TScale)]:List TScale) [(k44,oC cs44.toArray 180)]:=Bs R44 rfl (by decide)
   refine Ca G44 fun ρ46 l46 r46=>?_
   replace OG11_5c3:=Bom l46 OG11_5c3
   refine Bj (Bol Asw) (Arv (Gc (σ:=((k25,oC #[(iV (a23.pile)),(iV ((max 0 ((a29 - (((i % 4):Nat):Int)))))),(iV ((min 1000000 ((a29 + (((i % 3):Nat):Int))))))] 180) :: ((k6,oC #[c7_0,c7_1,c7_2,ov11_5c3] 74) :: ((k3,oC #[(nS),(nS),(nS),(nS)] 74) :: σ)))) (gr:=og11_5c3) (xs:=scW b m i) (ys:=([(⟨a23.pile,⟨(max 0 ((a29 - (((i % 4):Nat):Int)))),(min 1000000 ((a29 + (((i % 3):Nat):Int))))⟩⟩:TScale)]:List TScale)) Bib Bib (Ab Bkb) rfl (Nat.le_of_ble_eq_true rfl) rfl rfl rfl rfl OG11_5c3 r46 (by have:=Azs (b:=b) (m:=m) (n:=i); simp only [List.length_append,List.length_cons,List.length_nil] at *; omega) fun v45 gr45 G45=>?_))
   refine l_v (Cb Bhr rfl rfl ⟨_,Ab Bjw,rfl⟩ (by decide) h11_5 rfl) (Bj (Bol ((p_a Arz).trans Asd)) (Cx rfl (Cz (j:=0) (v:=v45) ⟨_,Ab Bjw,rfl⟩ rfl rfl (Grow.single G45) rfl (Nat.le_of_ble_eq_true rfl) ?_)))
   refine l_k k18 (Ag rfl rfl (l_v (Ah (v:=(iV ((i:Int)))) h11_6) (l_v (Br rfl rfl (z:=(((i + 1):Nat):Int)) wrE) (Bma (iV ((((i + 1):Nat):Int))) (Bj (Bol ((p_c Asd).trans Arz)) (Bj Boj (Bj (Bol ((p_c Asd).trans Arz)) (Bj (Bol Arz) (Bj (Bol ((p_c Asw).trans Asw)) (Ac ?_))))))))))
   refine ⟨_,?_,((i + 1)),v45,gr45,rfl,rfl,(Boo (Boo l11 l41) l46),rfl,h11_1,h11_2,h11_4,h11_5,rfl,(by omega),(Fy (Bdf ha23 ha29 (by omega)) G45),trivial⟩
   omega
  have q40:=of_decide_eq_false b40
  refine Al (k31 _ _ _ _ ?_)
  refine Ag rfl rfl (l_v (Cb Bhr rfl rfl ⟨_,Ab Bjw,rfl⟩ (by decide) h11_5 rfl) (Arv (Gu (v:=ov11_5c3) ⟨_,Bib,rfl⟩ rfl (List.mem_cons_of_mem _ (List.mem_append_right _ (List.mem_cons_self ..))) rfl ?_)))
  refine Arv (Xo (i:=0) (cs:=[(iV (a23.pile)),(iV (a23.mass.low)),(iV (a23.mass.high))]) (rs:=[]) ⟨_,Bjb,rfl⟩ ⟨_,Ab Bkb,rfl⟩ rfl rfl rfl rfl ?_)
  have r47:Val ρ11 (.agg #[(iV (a23.pile)),(iV (a23.mass.low)),(iV (a23.mass.high))]) (⟨a23.pile,⟨a23.mass.low,a23.mass.high⟩⟩:TScale):=TScale.shut (x:=(⟨a23.pile,⟨a23.mass.low,a23.mass.high⟩⟩:TScale)) (show I64 (a23.pile) from by constructor <;> omega) (show I64 (a23.mass.low) from by constructor <;> omega) (show I64 (a23.mass.high) from by constructor <;> omega)
  refine Arv (Bi (α:=TScale) (xs:=[(⟨a23.pile,⟨a23.mass.low,a23.mass.high⟩⟩:TScale)]) (vs:=[(.agg #[(iV (a23.pile)),(iV (a23.mass.low)),(iV (a23.mass.high))])]) Bib Atn Avw rfl (by decide) (Dk (os:=[.tmp 54]) ⟨rfl,trivial⟩) ⟨r47,trivial⟩ rfl (by decide) fun k48 cs48 R48=>?_)
  have G48:Grow ρ11 180 (.slice (some ⟨k48,0,none⟩) 1 1) ([(⟨a23.pile,⟨a23.mass.low,a23.mass.high⟩⟩:TScale)]:List TScale) [(k48,oC cs48.toArray 180)]:=Bs R48 rfl (by decide)
  refine Ca G48 fun ρ50 l50 r50=>?_
  replace OG11_5c3:=Bom l50 OG11_5c3
  refine Bj (Bol Asw) (Arv (Gc (σ:=((k25,oC #[(iV (a23.pile)),(iV (a23.mass.low)),(iV (a23.mass.high))] 180) :: ((k6,oC #[c7_0,c7_1,c7_2,ov11_5c3] 74) :: ((k3,oC #[(nS),(nS),(nS),(nS)] 74) :: σ)))) (gr:=og11_5c3) (xs:=scW b m i) (ys:=([(⟨a23.pile,⟨a23.mass.low,a23.mass.high⟩⟩:TScale)]:List TScale)) Bib Bib (Ab Bkb) rfl (Nat.le_of_ble_eq_true rfl) rfl rfl rfl rfl OG11_5c3 r50 (by have:=Azs (b:=b) (m:=m) (n:=i); simp only [List.length_append,List.length_cons,List.length_nil] at *; omega) fun v49 gr49 G49=>?_))
  refine l_v (Cb Bhr rfl rfl ⟨_,Ab Bjw,rfl⟩ (by decide) h11_5 rfl) (Bj (Bol ((p_a Arz).trans Asd)) (Cx rfl (Cz (j:=0) (v:=v49) ⟨_,Ab Bjw,rfl⟩ rfl rfl (Grow.single G49) rfl (Nat.le_of_ble_eq_true rfl) ?_)))
  refine l_k k18 (Ag rfl rfl (l_v (Ah (v:=(iV ((i:Int)))) h11_6) (l_v (Br rfl rfl (z:=(((i + 1):Nat):Int)) wrE) (Bma (iV ((((i + 1):Nat):Int))) (Bj (Bol ((p_c Asd).trans Arz)) (Bj Boj (Bj (Bol ((p_c Asd).trans Arz)) (Bj (Bol Arz) (Bj (Bol ((p_c Asw).trans Asw)) (Ac ?_))))))))))
  refine ⟨_,?_,((i + 1)),v49,gr49,rfl,rfl,(Boo l11 l50),rfl,h11_1,h11_2,h11_4,h11_5,rfl,(by omega),(Fy (Bha ha23 ha29 (by omega)) G49),trivial⟩
  omega
 have q17:=of_decide_eq_false b17
 refine Bx (k9 _ _ _ _ ?_)
 refine w_q rfl rfl fun K51 k51=>Ca OG11_5c3 fun ρ52 l52 r52=>?_
 replace i7_1:=Boq l52 i7_1
 replace i7_2:=Boq l52 i7_2
 replace i7_3:=Boq l52 i7_3
 refine Arv (Xo (i:=0) (cs:=[c7_0,c7_1,c7_2,ov11_5c3]) (rs:=[]) ⟨_,Bhr,rfl⟩ ⟨_,Ab Blo,rfl⟩ h11_5 rfl rfl rfl ?_)
 have r53:Val ρ52 (.agg #[c7_0,c7_1,c7_2,ov11_5c3]) (⟨b.hands,b.piles,b.steps,scW b m i⟩:TBook):=TBook.shut (x:=(⟨b.hands,b.piles,b.steps,scW b m i⟩:TBook)) i7_1 i7_2 i7_3 r52
 refine Cx rfl (Li (i:=1) (vs:=[c7_0,c7_1,c7_2,ov11_5c3]) (c':=[c7_0,c7_1,c7_2,ov11_5c3]) ⟨_,Ab Blo,rfl⟩ h11_4 rfl rfl rfl (Zh ⟨(Val.single_l i7_1),(Val.single_l i7_2),(Val.single_l i7_3),(Val.single_l r52),trivial⟩) rfl (Nat.le_of_ble_eq_true rfl) rfl ?_)
 refine l_k k51 (Aj Boj (Aq ?_))
 have r54:Val ρ52 (.agg #[c7_0,c7_1,c7_2,ov11_5c3]) (⟨b.hands,b.piles,b.steps,scW b m i⟩:TBook):=TBook.shut (x:=(⟨b.hands,b.piles,b.steps,scW b m i⟩:TBook)) i7_1 i7_2 i7_3 r52
 refine hret _ _ _ _ _ [(.agg #[c7_0,c7_1,c7_2,ov11_5c3])] ⟨(Qh ⟨_,Bhr,rfl⟩ ⟨_,Ab Blo,rfl⟩ h11_4 (i:=0) rfl rfl),trivial⟩ Boj (⟨(Boo (Boo l2 l11) l52),rfl,Abz (v:=(.agg #[c7_0,c7_1,c7_2,ov11_5c3])) rfl (Val.cast ?_ r54)⟩)
 ·rw [show i = b.scales.length by omega]; rfl
end
section
open Go Go.WideShapes Go.ChangeShapes Go.RowKit Go.Conc
section
variable {P:Program} {Pst:Value→World→Prop} {W0:World} {fr:Frame} {cs:List Frame} {ρ:Ro} {σ:Own}
end
section
variable {W0:World} {b:FB} {n:Nat} {e:Env} {ds:List Deferred} {ρ:Ro} {σ:Own}
/-- Blocks that are lent: frozen for now,newer than the call's world,not read before. -/
structure Lent (W0:World) (ρ0 ρ:Ro) (gr:Own):Prop where
 at_:∀ p ∈ gr,W0.heap.size ≤ p.1∧∃ o,p.2 = Res.obj o∧ρ p.1 = some o
 nd:(keys gr).Nodup
 no:∀ p ∈ gr,ρ0 p.1 = none
 le:Ro.le ρ0 ρ
theorem Lent.mono {ρ0 ρ':Ro} {gr:Own} (hle:Ro.le ρ ρ') (h:Lent W0 ρ0 ρ gr):Lent W0 ρ0 ρ' gr :=
 ⟨fun p hp=>let ⟨h1,o,h2,h3⟩:=h.at_ p hp; ⟨h1,o,h2,hle _ _ h3⟩,h.nd,h.no,h.le.trans hle⟩
end
end
section
open Go
/-- An entry: key,slice,stamp; what the slice holds; the blocks of the slice. -/
structure OEnt where
 c:Int
 v:Value
 b:Nat
 l:List Int
 g:Own
def OEnt.e (z:OEnt):MapEntry:=⟨.int .i64 z.c,z.v,z.b⟩
def OEnt.p (z:OEnt):Int × List Int:=(z.c,z.l)
structure MapE (es:Array MapEntry) (ck:Nat) (E:List OEnt):Prop where
 es:es.toList = E.map OEnt.e
 keys:(E.map OEnt.c).Nodup
 born:(E.map OEnt.b).Nodup
 lt:∀ z ∈ E,z.b < ck
/-- A map and the slices that it holds,all owned. -/
def OthG (ρ:Ro) (r:Nat) (L:Oth) (g:Own):Prop :=
 ∃ es ck E,MapE es ck E∧L = E.map OEnt.p∧(∀ z ∈ E,Grow ρ 3 z.v z.l z.g∧z.l ≠ [])∧g = (r,Res.obj (.map es ck)) :: (E.map OEnt.g).flatten
theorem OthG.mono {ρ ρ':Ro} (hle:Ro.le ρ ρ') {r:Nat} {L:Oth} {g:Own} (h:OthG ρ r L g):OthG ρ' r L g :=
 let ⟨es,ck,E,h1,h2,h3,h4⟩:=h
 ⟨es,ck,E,h1,h2,fun z hz=>⟨(h3 z hz).1.mono hle,(h3 z hz).2⟩,h4⟩
/-- The same without the slice of a cycle,which is held elsewhere. -/
def OthH (ρ:Ro) (r:Nat) (L:Oth) (c:Int) (v:Value) (h:Own):Prop :=
 ∀ ρ' l' gr',Ro.le ρ ρ'→l' ≠ []→Grow ρ' 3 v l' gr'→∃ g',OthG ρ' r (Awy L c l') g'∧(gr' ++ h).Perm g'
theorem OthH.mono {ρ ρ':Ro} (hle:Ro.le ρ ρ') {r:Nat} {L:Oth} {c:Int} {v:Value} {h:Own} (hh:OthH ρ r L c v h):OthH ρ' r L c v h :=
 fun ρ'' l' gr' hle'=>hh ρ'' l' gr' (Boo hle hle')
/-- The map and its slices,only read from here on. -/
def OthR (ρ:Ro) (r:Nat) (L:Oth):Prop :=
 ∃ es ck E,ρ r = some (.map es ck)∧MapE es ck E∧L = E.map OEnt.p∧∀ z ∈ E,Val ρ z.v z.l
theorem OthR.mono {ρ ρ':Ro} (hle:Ro.le ρ ρ') {r:Nat} {L:Oth} (h:OthR ρ r L):OthR ρ' r L :=
 let ⟨es,ck,E,h0,h1,h2,h3⟩:=h
 ⟨es,ck,E,hle _ _ h0,h1,h2,fun z hz=>(h3 z hz).mono hle⟩
def Atr (c:Int):List OEnt→Nat→Option (Nat × Value)
 | [],_=>none
 | z :: l,i=>if c = z.c then some (i,z.v) else Atr c l (i + 1)
theorem Ayk {c:Int}:∀ (E:List OEnt) (i:Nat),Instr.findNow (.int .i64) (.int .i64 c) (E.map OEnt.e) i = some (Atr c E i)
 | [],_=>rfl
 | z :: E,i=>by
  simp only [List.map_cons,Instr.findNow,OEnt.e,Instr.sameNow,if_true]
  unfold Atr
  by_cases h:c = z.c
  ·rw [if_pos h,beq_iff_eq.2 h]
  ·rw [if_neg h,beq_eq_false_iff_ne.2 h]; exact Ayk E (i + 1)
theorem Auw {c:Int}:∀ {E:List OEnt} {i:Nat},Atr c E i = none↔∀ z ∈ E,z.c ≠ c
 | [],_=>by simp [Atr]
 | z :: E,i=>by
  unfold Atr
  split
  ·rename_i hz; constructor
   ·intro h; cases h
   ·intro h; exact absurd hz.symm (h z (List.mem_cons_self ..))
  ·rename_i hz
   rw [Auw]
   constructor
   ·intro h w hw
    rcases List.mem_cons.1 hw with rfl | hw
    ·exact fun e=>hz e.symm
    ·exact h w hw
   ·intro h w hw; exact h w (List.mem_cons_of_mem _ hw)
theorem Awa {c:Int}:∀ {E:List OEnt} {i:Nat} {r:Nat × Value},Atr c E i = some r→∃ A z B,E = A ++ z :: B∧z.c = c∧z.v = r.2∧∀ w ∈ A,w.c ≠ c
 | [],_,_,h=>by cases h
 | z :: E,i,r,h=>by
  unfold Atr at h
  split at h
  ·rename_i hz
   cases h
   exact ⟨[],z,E,rfl,hz.symm,rfl,fun w hw=>by cases hw⟩
  ·rename_i hz
   obtain ⟨A,w,B,h1,h2,h3,h4⟩:=Awa h
   refine ⟨z :: A,w,B,by rw [h1]; rfl,h2,h3,fun y hy=>?_⟩
   rcases List.mem_cons.1 hy with rfl | hy
   ·exact fun e=>hz e.symm
   ·exact h4 y hy
/-- An entry more. -/
theorem Bfj {es:Array MapEntry} {ck:Nat} {E:List OEnt} (hM:MapE es ck E) {c:Int} {v:Value} {l:List Int} {g:Own} (hn:Atr c E 0 = none):MapE (es.push ⟨.int .i64 c,v,ck⟩) (ck + 1) (E ++ [⟨c,v,ck,l,g⟩]):=by
 refine ⟨by rw [Array.toList_push,hM.es,List.map_append]; rfl,?_,?_,fun z hz=>?_⟩
 ·rw [List.map_append,List.nodup_append]
  refine ⟨hM.keys,by simp,fun x hx y hy=>?_⟩
  simp only [List.map_cons,List.map_nil,List.mem_singleton] at hy
  subst hy
  obtain ⟨z,hz,rfl⟩:=List.mem_map.1 hx
  exact Auw.1 hn z hz
 ·rw [List.map_append,List.nodup_append]
  refine ⟨hM.born,by simp,fun x hx y hy=>?_⟩
  simp only [List.map_cons,List.map_nil,List.mem_singleton] at hy
  subst hy
  obtain ⟨z,hz,rfl⟩:=List.mem_map.1 hx
  have:=hM.lt z hz
  omega
 ·rcases List.mem_append.1 hz with hz | hz
  ·have:=hM.lt z hz; omega
  ·rw [List.mem_singleton.1 hz]; exact Nat.lt_succ_self _
section
variable {C:Ctx} {e:Env} {ds:List Deferred} {ρ:Ro} {σ:Own} {K:Value→List Deferred→Ro→Own→Prop} {rd:Option Nat} {dd:Option Tmp}
variable {ty:TypeId} {pos:String} {af:Array Edge} {g:Option (Nat × Bool)} {x y u:Operand} {v p:Value} {t t':TypeId} {P:Program}
theorem Awo {kt:TypeId} {c:Int} {em:Bool} {m:Nat} (hk:P.underlying kt = some (.int .i64)) {Q:Unit→Own→Prop} (h:Q () σ):wpS P ρ (Instr.checkKey em (m + 1) kt (.int .i64 c)) σ Q:=by
 show wpS P ρ ((underlying kt).bind _) σ Q
 rw [Ad]
 exact Az hk h
theorem Aze {kt:TypeId} {c:Int} {E:List OEnt} (hk:P.underlying kt = some (.int .i64)) {Q:Option (Nat × Value)→Own→Prop} (h:Q (Atr c E 0) σ):wpS P ρ (Instr.findKey kt (.int .i64 c) (E.map OEnt.e)) σ Q:=by
 show wpS P ρ ((underlying kt).bind _) σ Q
 rw [Ad]
 refine Az hk ?_
 simp only [Ayk]
 exact h
theorem Bkl {i r ck:Nat} {kt et:TypeId} {c:Int} {w:Value} {es:Array MapEntry} {E:List OEnt} (hT:C.P.underlying t = some (.map kt et)) (hk:C.P.underlying kt = some (.int .i64)) (hM:MapE es ck E) (hn:Atr c E 0 = none)
  (hx:Af e x = .map (some r)) (hy:Af e y = .int .i64 c) (hu:Af e u = w) (hi:σ[i]? = some (r,.obj (.map es ck)))
  (h:K undef ds ρ (σ.set i (r,.obj (.map (es.push ⟨.int .i64 c,w,ck⟩) (ck + 1))))):wpS C.P ρ (execOp (Af e) ⟨dd,.mapUpdate t x y u,ty,pos,af,g⟩) σ (NextH C K rd ds ρ):=by
 show wpS C.P ρ ((Instr.mapUpdate t (Af e x) (Af e y) (Af e u)).bind _) σ _
 refine Rs ?_
 rw [hx,hy,hu]
 show wpS C.P ρ ((underlying t).bind _) σ _
 rw [Ad]
 refine Az hT ?_
 show wpS C.P ρ ((getObj r).bind _) σ _
 rw [Ad]
 refine ⟨_,.inr (List.mem_of_getElem? hi),rfl,?_⟩
 show wpS C.P ρ ((Instr.checkKey false 10000 kt _).bind _) σ _
 rw [Ad]
 refine Awo (m:=9999) hk ?_
 show wpS C.P ρ ((Instr.findKey kt _ es.toList).bind _) σ _
 rw [Ad,hM.es]
 refine Aze hk ?_
 rw [hn]
 exact ⟨rfl,i,_,hi,rfl,h⟩
end
end
section
open Go
/-- A map that holds just these keys,each with its value. -/
def Atz (es:Array MapEntry) (ck:Nat) (L:List Int) (v:Int→Value):Prop:=∃ E,MapE es ck E∧E.map OEnt.c = L∧∀ z ∈ E,z.v = v z.c
theorem Avj {v:Int→Value}:Atz #[] 0 [] v:=⟨[],⟨rfl,List.nodup_nil,List.nodup_nil,fun z h=>by (cases h)⟩,rfl,fun z h=>by (cases h)⟩
theorem Auc {es:Array MapEntry} {ck:Nat} {L L':List Int} {v:Int→Value} (e:L = L') (h:Atz es ck L v):Atz es ck L' v:=e ▸ h
theorem Ayl {es:Array MapEntry} {ck:Nat} {L:List Int} {v:Int→Value} (h:Atz es ck L v) (c:Int):∃ E,MapE es ck E∧(c ∈ L→∃ i,Atr c E 0 = some (i,v c))∧(c ∉ L→Atr c E 0 = none):=by
 obtain ⟨E,h1,h2,h3⟩:=h
 refine ⟨E,h1,fun hc=>?_,fun hc=>?_⟩
 ·cases hf:Atr c E 0 with
  | none =>
   rw [← h2] at hc
   obtain ⟨z,hz,he⟩:=List.mem_map.1 hc
   exact absurd he (Auw.1 hf z hz)
  | some r =>
   obtain ⟨A,z,B,hE,hzc,hzv,_⟩:=Awa hf
   have hz:z ∈ E:=by rw [hE]; simp
   refine ⟨r.1,?_⟩
   have e1:r.2 = v c:=by rw [← hzv,h3 z hz,hzc]
   rw [← e1]
 ·rw [Auw]
  intro z hz he
  exact hc (by rw [← h2]; exact List.mem_map.2 ⟨z,hz,he⟩)
theorem Beo {es:Array MapEntry} {ck:Nat} {L:List Int} {v:Int→Value} (h:Atz es ck L v) {c:Int} (hc:c ∉ L):Atz (es.push ⟨.int .i64 c,v c,ck⟩) (ck + 1) (L ++ [c]) v:=by
 obtain ⟨E,h1,h2,h3⟩:=h
 have hn:Atr c E 0 = none:=Auw.2 fun z hz he=>hc (by rw [← h2]; exact List.mem_map.2 ⟨z,hz,he⟩)
 refine ⟨E ++ [⟨c,v c,ck,[],[]⟩],Bfj h1 (v:=v c) (l:=[]) (g:=[]) hn,by rw [List.map_append,h2]; rfl,fun z hz=>?_⟩
 rcases List.mem_append.1 hz with hz | hz
 ·exact h3 z hz
 ·rw [List.mem_singleton.1 hz]
theorem Beq {es:Array MapEntry} {ck:Nat} {L:List Int} {v:Int→Value} (h:Atz es ck L v):es.size = L.length:=by
 obtain ⟨E,h1,h2,_⟩:=h
 have:=congrArg List.length h1.es
 rw [← h2,List.length_map]
 simpa using this
/-- What a look finds. -/
def Auy (L:List Int) (v:Int→Value) (z:Value) (c:Int):Value:=if c ∈ L then v c else z
section
variable {C:Ctx} {e:Env} {ds:List Deferred} {ρ ρ₀:Ro} {σ A:Own} {K:Value→List Deferred→Ro→Own→Prop} {rd:Option Nat} {dd:Option Tmp}
variable {ty:TypeId} {pos:String} {af:Array Edge} {g:Option (Nat × Bool)} {x y u:Operand} {t t':TypeId} {P:Program}
theorem Baa {r ck:Nat} {kt et:TypeId} {c:Int} {es:Array MapEntry} {L:List Int} {v:Int→Value} {z:Value} {ok:Bool} (hT:P.underlying t = some (.map kt et)) (hk:P.underlying kt = some (.int .i64)) (hz:Fw P et z) (hM:Atz es ck L v) (hx:Af e x = .map (some r)) (hy:Af e y = .int .i64 c) (hi:(r,Res.obj (.map es ck)) ∈ A) :
  Axy P ρ₀ A e (.lookup t x y ok) ty (if ok then .tuple #[Auy L v z c,.bool (decide (c ∈ L))] else Auy L v z c):=fun ρ' σ d pos af g hS=>by
 show wpS P ρ' ((Instr.lookup t (Af e x) (Af e y) ok).bind fun v=>Sem.pure (Next.value v)) σ _
 rw [Ad,hx,hy]
 show wpS P ρ' ((underlying t).bind _) σ _
 rw [Ad]
 refine Az hT ?_
 show wpS P ρ' ((getObj r).bind _) σ _
 rw [Ad]
 refine ⟨_,.inr (hS.2 _ hi),rfl,?_⟩
 show wpS P ρ' ((Instr.checkKey es.isEmpty 10000 kt _).bind _) σ _
 rw [Ad]
 refine Awo (m:=9999) hk ?_
 show wpS P ρ' ((Instr.findKey kt _ es.toList).bind _) σ _
 obtain ⟨E,h1,h2,h3⟩:=Ayl hM c
 rw [Ad,h1.es]
 refine Aze hk ?_
 unfold Auy
 by_cases hc:c ∈ L
 ·obtain ⟨i,hi⟩:=h2 hc
  rw [hi,if_pos hc,decide_eq_true hc]
  cases ok <;> exact ⟨rfl,rfl⟩
 ·rw [h3 hc,if_neg hc,decide_eq_false hc]
  show wpS P ρ' ((zeroValue et).bind _) σ _
  rw [Ad]
  refine Jz hz ?_
  cases ok <;> exact ⟨rfl,rfl⟩
theorem Azw {i r ck:Nat} {kt et:TypeId} {c:Int} {w:Value} {es:Array MapEntry} {L:List Int} {v:Int→Value} (hT:C.P.underlying t = some (.map kt et)) (hk:C.P.underlying kt = some (.int .i64)) (hM:Atz es ck L v) (hn:c ∉ L) (hv:w = v c)
  (hx:Af e x = .map (some r)) (hy:Af e y = .int .i64 c) (hu:Af e u = w) (hi:σ[i]? = some (r,.obj (.map es ck)))
  (h:∀ es' ck',Atz es' ck' (L ++ [c]) v→K undef ds ρ (σ.set i (r,.obj (.map es' ck')))):wpS C.P ρ (execOp (Af e) ⟨dd,.mapUpdate t x y u,ty,pos,af,g⟩) σ (NextH C K rd ds ρ):=by
 obtain ⟨E,h1,h2,h3⟩:=Ayl hM c
 refine Bkl hT hk h1 (h3 hn) hx hy hu hi (h _ _ ?_)
 rw [hv]; exact Beo hM hn
theorem Bhf {r ck:Nat} {kt et:TypeId} {es:Array MapEntry} {L:List Int} {v:Int→Value} (hT:P.underlying t = some (.map kt et)) (hM:Atz es ck L v) (hx:Af e x = .map (some r)) (hi:(r,Res.obj (.map es ck)) ∈ A) :
  Axy P ρ₀ A e (.call ⟨.builtin .len,#[x],#[t]⟩) ty (.int .i64 (L.length:Int)):=fun ρ' σ d pos af g hS=>by
 show wpS P ρ' (execOp (Af e) _) σ _
 simp only [execOp]
 show wpS P ρ' ((Builtin.len_ #[t] ty (#[x].map (Af e))).bind _) σ _
 rw [Ad,show #[x].map (Af e) = #[.map (some r)] by simp [hx]]
 show wpS P ρ' ((underlying t).bind _) σ _
 rw [Ad]
 refine Az hT ?_
 show wpS P ρ' ((getObj r).bind _) σ _
 rw [Ad]
 refine ⟨_,.inr (hS.2 _ hi),rfl,?_⟩
 rw [← Beq hM]
 exact ⟨rfl,rfl⟩
end
end
section
open Go
def Atx (b:TBook) (i:Nat):List Int:=((b.steps.take i).map TStep.out).flatten
def Ash (b:TBook) (i:Nat):List Int:=((b.steps.take i).map TStep.in_).flatten
theorem Ayj {b:TBook} {i:Nat} {s:TStep} (h:b.steps[i]? = some s):Atx b (i + 1) = Atx b i ++ s.out:=by unfold Atx; rw [List.take_add_one,h]; simp
theorem Ayv {b:TBook} {i:Nat} {s:TStep} (h:b.steps[i]? = some s):Ash b (i + 1) = Ash b i ++ s.in_:=by unfold Ash; rw [List.take_add_one,h]; simp
theorem Ayn {f:TStep→List Int} {b:TBook} {i:Nat} {p:Int}:p ∈ ((b.steps.take i).map f).flatten↔∃ (j:Nat) (t:TStep),j < i∧b.steps[j]? = some t∧p ∈ f t:=by
 constructor
 ·intro h
  obtain ⟨l,hl,hp⟩:=List.mem_flatten.1 h
  obtain ⟨t,ht,rfl⟩:=List.mem_map.1 hl
  obtain ⟨j,hj⟩:=List.mem_iff_getElem?.1 ht
  rw [List.getElem?_take] at hj
  split at hj
  ·rename_i hji; exact ⟨j,t,hji,hj,hp⟩
  ·cases hj
 ·rintro ⟨j,t,hj,ht,hp⟩
  refine List.mem_flatten.2 ⟨f t,List.mem_map.2 ⟨t,?_,rfl⟩,hp⟩
  refine List.mem_of_getElem? (i:=j) ?_
  rw [List.getElem?_take,if_pos hj]; exact ht
theorem Avk {b:TBook} {i:Nat} {p:Int}:p ∈ Atx b i↔∃ (j:Nat) (t:TStep),j < i∧b.steps[j]? = some t∧p ∈ t.out:=Ayn
theorem Bau {b:TBook} {i:Nat} {p:Int}:p ∈ Ash b i↔∃ (j:Nat) (t:TStep),j < i∧b.steps[j]? = some t∧p ∈ t.in_:=Ayn
theorem Ayp {l:List Int} {k:Nat} {p:Int} (h:∀ j:Nat,j < k→l[j]? ≠ some p):p ∉ l.take k:=fun hp=>by
 obtain ⟨j,hj⟩:=List.mem_iff_getElem?.1 hp
 rw [List.getElem?_take] at hj
 split at hj
 ·rename_i hjk; exact h j hjk hj
 ·cases hj
section
variable {b:TBook} {i k:Nat} {s:TStep} {p:Int}
theorem Bgb (ok:TBookOk b) (hs:b.steps[i]? = some s) (hp:s.in_[k]? = some p):p ∈ Atx b i:=Avk.2 ((ok.step i s hs).ins k p hp).2.1
theorem Awt (ok:TBookOk b) (hs:b.steps[i]? = some s) (hp:s.in_[k]? = some p):p ∉ Ash b i ++ s.in_.take k:=fun h=>by
 have hi:=(ok.step i s hs).ins k p hp
 rcases List.mem_append.1 h with h | h
 ·obtain ⟨j,t,hj,ht,hm⟩:=Bau.1 h; exact hi.2.2.1 j t hj ht hm
 ·exact Ayp hi.2.2.2 h
theorem Avt (ok:TBookOk b) (hs:b.steps[i]? = some s) (hp:s.out[k]? = some p):p ∉ Atx b i ++ s.out.take k:=fun h=>by
 have hi:=(ok.step i s hs).outs k p hp
 rcases List.mem_append.1 h with h | h
 ·obtain ⟨j,t,hj,ht,hm⟩:=Avk.1 h; exact hi.2.1 j t hj ht hm
 ·exact Ayp hi.2.2 h
theorem Ben (ok:TBookOk b):b.piles.length ≤ (Atx b b.steps.length).length:=by
 have:=Ayt (dn:=(List.range b.piles.length).map fun i:Nat=>(i:Int)) (l:=Atx b b.steps.length) (by
  rw [List.nodup_iff_pairwise_ne,List.pairwise_map]
  exact (List.nodup_iff_pairwise_ne.1 List.nodup_range).imp fun h e=>h (by omega)) fun p hp=>by
  obtain ⟨q,hq,rfl⟩:=List.mem_map.1 hp
  obtain ⟨j,t,ht,hm⟩:=ok.made q (List.mem_range.1 hq)
  exact Avk.2 ⟨j,t,(List.getElem?_eq_some_iff.1 ht).1,ht,hm⟩
 simpa using this
theorem Bal (ok:TBookOk b) {p:Nat} (hp:p < b.piles.length):(p:Int) ∈ Atx b b.steps.length:=by
 obtain ⟨j,t,ht,hm⟩:=ok.made p hp
 exact Avk.2 ⟨j,t,(List.getElem?_eq_some_iff.1 ht).1,ht,hm⟩
theorem Bdv (ok:TBookOk b) (hs:b.steps[i]? = some s) (hp:s.out[k]? = some p):Value.int .i64 (i:Int) = (fun c:Int=>Value.int .i64 ((As b c:Nat):Int)) p:=by
 show _ = Value.int .i64 ((As b p:Nat):Int)
 rw [Baq ok hs (List.mem_of_getElem? hp)]
theorem Bfa (ok:TBookOk b) (hs:b.steps[i]? = some s) (hp:s.in_[k]? = some p):Value.int .i64 (i:Int) = (fun c:Int=>Value.int .i64 ((Ast b c:Nat):Int)) p:=by
 show _ = Value.int .i64 ((Ast b p:Nat):Int)
 unfold Ast
 rw [Bgs ok hs (List.mem_of_getElem? hp)]; rfl
theorem Bez (h:p ∉ Ash b b.steps.length):Ast b p = b.steps.length:=by
 unfold Ast
 rw [Ayx.2 fun j t ht hm=>h (Bau.2 ⟨j,t,(List.getElem?_eq_some_iff.1 ht).1,ht,hm⟩)]; rfl
end
section
variable {ρ₀:Ro} {A:Own} {e:Env} {ty t:TypeId} {x y:Operand} {P:Program} {r ck:Nat} {kt et:TypeId} {c:Int} {es:Array MapEntry} {L:List Int} {v:Int→Value} {z:Value}
theorem Ayc (hT:P.underlying t = some (.map kt et)) (hk:P.underlying kt = some (.int .i64)) (hz:Fw P et z) (hM:Atz es ck L v) (hx:Af e x = .map (some r)) (hy:Af e y = .int .i64 c) (hi:(r,Res.obj (.map es ck)) ∈ A) (hc:c ∈ L):Axy P ρ₀ A e (.lookup t x y false) ty (v c):=by
 have h:=Baa (ρ₀:=ρ₀) (ty:=ty) (ok:=false) hT hk hz hM hx hy hi
 rw [show (if false = true then Value.tuple #[Auy L v z c,.bool (decide (c ∈ L))] else Auy L v z c) = v c from if_pos hc] at h
 exact h
theorem Bbt (hT:P.underlying t = some (.map kt et)) (hk:P.underlying kt = some (.int .i64)) (hz:Fw P et z) (hM:Atz es ck L v) (hx:Af e x = .map (some r)) (hy:Af e y = .int .i64 c) (hi:(r,Res.obj (.map es ck)) ∈ A) (hc:c ∉ L):Axy P ρ₀ A e (.lookup t x y false) ty z:=by
 have h:=Baa (ρ₀:=ρ₀) (ty:=ty) (ok:=false) hT hk hz hM hx hy hi
 rw [show (if false = true then Value.tuple #[Auy L v z c,.bool (decide (c ∈ L))] else Auy L v z c) = z from if_neg hc] at h
 exact h
theorem Bfk {f:Int→Nat} (hT:P.underlying t = some (.map kt et)) (hk:P.underlying kt = some (.int .i64)) (hz:Fw P et (.int .i64 0)) (hM:Atz es ck L (fun c=>.int .i64 ((f c:Nat):Int))) (hx:Af e x = .map (some r)) (hy:Af e y = .int .i64 c) (hi:(r,Res.obj (.map es ck)) ∈ A) :
  Axy P ρ₀ A e (.lookup t x y true) ty (.tuple #[.int .i64 (((if c ∈ L then f c else 0:Nat):Nat):Int),.bool (decide (c ∈ L))]):=by
 have h:=Baa (ρ₀:=ρ₀) (ty:=ty) (ok:=true) hT hk hz hM hx hy hi
 rw [show (if true = true then Value.tuple #[Auy L (fun c=>.int .i64 ((f c:Nat):Int)) (.int .i64 0) c,.bool (decide (c ∈ L))] else Auy L (fun c=>.int .i64 ((f c:Nat):Int)) (.int .i64 0) c) = .tuple #[.int .i64 (((if c ∈ L then f c else 0:Nat):Nat):Int),.bool (decide (c ∈ L))] from by
  rw [if_pos rfl]; unfold Auy; split <;> rfl] at h
 exact h
end
end
section
open Go
def Ends.l (a:Ends):List Int:=[a.e0,a.e1,a.e2,a.e3,a.e4,a.e5,a.e6,a.e7,a.e8,a.e9,a.e10,a.e11]
def Asf (d:Ditch) (i j:Nat):Int:=if j < i then Atv d (j + 1) else 0
def Bam (d:Ditch) (i:Nat):Ends:=⟨Asf d i 0,Asf d i 1,Asf d i 2,Asf d i 3,Asf d i 4,Asf d i 5,Asf d i 6,Asf d i 7,Asf d i 8,Asf d i 9,Asf d i 10,Asf d i 11⟩
def Avd (d:Ditch) (r:Nat):Water:=⟨⟨d⟩,Bam d d.turns.length,Asg d,Asj d,⟨r⟩⟩
section
variable {C:Ctx} {bb:FB} {nn:Nat} {Q:Hu} {e:Env} {ds:List Deferred} {ρ:Ro} {σ:Own} {c:Code}
end
/-- What a walk reads of a ditch that runs. -/
def WaterAt (ρ:Ro) (p:Value) (d:Ditch):Prop:=∃ r,At ρ p (Avd d r)∧OthR ρ r (Awx d)
theorem WaterAt.mono {ρ ρ':Ro} {p:Value} {d:Ditch} (hle:Ro.le ρ ρ') (h:WaterAt ρ p d):WaterAt ρ' p d:=let ⟨r,h1,h2⟩:=h; ⟨r,h1.mono hle,h2.mono hle⟩
end
section
open Go
theorem Aup {l:List ByteArray} {m:Int} (h:Dd l m = 0):(∀ (i:Nat) (x:ByteArray),l[i]? = some x→Hg x = true)∧∀ (i k:Nat) (x y:ByteArray),l[i]? = some x→k < i→l[k]? = some y→y.toList ≠ x.toList:=by
 unfold Dd at h
 split at h
 ·cases h
 ·rw [Fx] at h
  refine ⟨fun i x hx=>?_,fun i k x y hx hk hy e=>?_⟩
  ·have h1:=h i (List.getElem?_eq_some_iff.1 hx).1
   simp only [Nh,hx] at h1
   split at h1
   ·assumption
   ·cases h1
  ·have hi:=(List.getElem?_eq_some_iff.1 hx).1
   have h1:=h i hi
   simp only [Nh,hx] at h1
   split at h1
   ·split at h1
    ·cases h1
    ·rename_i h2
     unfold findI at h2
     rcases Ft (n:=(l.take i).length) (p:=Xi (l.take i) x) with ⟨j,hj,_,_,he⟩ | ⟨h3,he⟩
     ·rw [he] at h2; simp only at h2; omega
     ·have h4:=h3 k (by rw [List.length_take]; omega)
      have h5:(l.take i)[k]? = some y:=by rw [List.getElem?_take,if_pos hk]; exact hy
      simp only [Xi,h5] at h4
      rw [e] at h4
      simp at h4
   ·cases h1
end
section
open Go
theorem Axb {α:Type} {l:List α} {i:Nat} {p:α→Bool} (h:∀ k y,k < i→l[k]? = some y→p y = false):(l.take i).any p = false:=by
 rw [Bool.eq_false_iff]
 intro hc
 obtain ⟨y,hy,hp⟩:=List.any_eq_true.1 hc
 obtain ⟨k,hk⟩:=List.mem_iff_getElem?.1 hy
 rw [List.getElem?_take] at hk
 split at hk
 ·rename_i hki
  rw [h k y hki hk] at hp; cases hp
 ·cases hk
section
variable {P:Program} {ρ:Ro} {e:Env} {ty t t' el:TypeId} {x y:Operand}
end
structure FTab where
 l:List Value
instance:Dat FTab where
 k:=4
 agg:=true
 rep _ cs a:=cs = a.l∧a.l.length = 4∧∀ c ∈ a.l,single c = true
 mono _ h:=h
 len h:=by rw [h.1]; exact h.2.1
 sgl h:=by rw [h.1]; exact h.2.2
 one h:=by cases h
def gA (k:Nat):Value:=.pointer (some ⟨k,0,none⟩)
def Bfw:FTab:=⟨[.func (.func 210) #[] #[],.func (.func 211) #[] #[],.func (.func 212) #[] #[],.func (.func 213) #[] #[]]⟩
/-- The table of the checks of a ditch,which nobody writes to. -/
structure GlobT (ρ:Ro):Prop where
 g:Glob ρ
 checks:At ρ (gA 2) Bfw
theorem GlobT.mono {ρ ρ':Ro} (h:Ro.le ρ ρ') (hg:GlobT ρ):GlobT ρ':=⟨hg.g.mono h,hg.checks.mono h⟩
end
section
set_option maxHeartbeats 1000000
open Go
variable {mn:Bool} {X:Frame→List Frame→Ro→Own→Cy→Prop} {ρ:Ro} {σ:Own}
theorem Bbm {l:List ByteArray} {vl:Value} {s:ByteArray} (rl:Val ρ vl l):CallsH (CX mn X) 181 #[vl,(.string (s))] ρ σ (rP ρ σ (iV (Oi l (fun y=>s.toList == y.toList)))):=by
 refine Bh (n:=19) (args:=[vl,(.string (s))]) [4] Tryz.func181 rfl rfl rfl rfl fun Q hret hnor=>w_q rfl rfl fun K1 k1=>Bma (iV (0)) (Ary rfl rfl k1 fun K2 K3 k2 k3=>Bmb vl ?_)
 have g4:=Bop rl
 refine l_v (Ci (el:=9) Bhs rfl rl) (Bmb (iV (0)) (l_k k3 (Ao (Cc (fun mm ee dd ρ' σ'=>∃ (i:Nat),(l.length - i) = mm∧[] = dd∧ρ = ρ'∧σ = σ'∧ee 0 = vl∧ee 1 = (.string (s))∧ee 7 = (iV (((l.length:Nat):Int)))∧ee 8 = (iV ((i:Int)))∧(i ≤ l.length)∧(∀ j,j < i→atP l (fun y=>s.toList == y.toList) j = false)∧True) (m:=_) ⟨0,rfl,rfl,rfl,rfl,rfl,rfl,rfl,rfl,(Nat.zero_le _),(fun j h=>absurd h (Nat.not_lt_zero _)),trivial⟩ ?_))))
 rintro m5 e5 _ _ _ ⟨i,rfl,rfl,rfl,rfl,h5_0,h5_1,h5_7,h5_8,p5_0,p5_1,_⟩
 refine w_q rfl rfl fun K6 k6=>l_v (Da h5_8 h5_7) (Asa k6 fun K7 k7=>Up (t:=decide ((i:Int) < ((l.length:Nat):Int))) rfl (fun b8=>?_) (fun b8=>?_))
 ·have q8:=of_decide_eq_true b8
  refine Al (k7 _ _ _ _ ?_)
  refine Ai fun K9 k9=>Ao (w_q rfl rfl fun K10 k10=>l_v (Ah (v:=(iV ((i:Int)))) h5_8) (Bma (iV ((i:Int))) (Arx rfl rfl k10 fun K11 k11=>l_v (Ah (v:=(.string (s))) h5_1) (l_v (Ah (v:=vl) h5_0) (Bmb (iV ((i:Int))) ?_)))))
  obtain ⟨a13,ha13⟩:=Ed (xs:=l) (i:=i) (by omega)
  refine Arw (Ch i Bhs ty9 rfl rl (q:=(i:Int)) rfl rfl ha13) fun v12 r12=>?_
  have g14:=At.slen r12
  refine l_v (Pk ty9 rfl r12) (l_v (Bbe (p:=s) (q:=a13) rfl rfl) (l_k k11 (Up (t:=(s).toList == (a13).toList) rfl (fun b15=>?_) (fun b15=>?_))))
  ·have q15:=Jr b15
   refine w_q rfl rfl fun K16 k16=>Bmb (iV ((i:Int))) (Bma (iV ((i:Int))) (l_k k16 (Aq (hret _ _ _ ⟨rfl,rfl,eT (iV ((i:Int))) ?_⟩))))
   have hi:=Fh (n:=l.length) p5_1 (by omega) (show atP l _ i = true by simp only [atP,ha13,b8,b15])
   simp only [Oi,hi]
  have q15:=Jq b15
  refine Al (k9 _ _ _ _ ?_)
  refine Ag rfl rfl (l_v (Br h5_8 rfl (z:=(((i + 1):Nat):Int)) wrE) (Bmb (iV ((((i + 1):Nat):Int))) (Ac ?_)))
  refine ⟨_,?_,((i + 1)),rfl,rfl,rfl,rfl,h5_0,h5_1,h5_7,rfl,(by omega),(Eg p5_1 (by simp only [atP,ha13,b8,b15])),trivial⟩
  omega
 have q8:=of_decide_eq_false b8
 refine Bx (k2 _ _ _ _ ?_)
 refine w_q rfl rfl fun K17 k17=>Bma (iV ((-1))) (l_k k17 (Aq (hret _ _ _ ⟨rfl,rfl,eT (iV ((-1))) ?_⟩)))
 have hn:=Ep (n:=l.length) fun j hj=>p5_1 j (by omega)
 simp only [Oi,hn]
theorem Ayb {l:List ByteArray} {vl:Value} {s:ByteArray} (rl:Val ρ vl l):CallsH (CX mn X) 155 #[vl,(.string (s))] ρ σ (rP ρ σ (.bool (l.any (fun y=>s.toList == y.toList)))):=by
 refine Bh (n:=9) (args:=[vl,(.string (s))]) [4] Tryz.func155 rfl rfl rfl rfl fun Q hret hnor=>w_q rfl rfl fun K1 k1=>Bma (.bool (false)) (Arx rfl rfl k1 fun K2 k2=>Bmb vl (Bmb (.string (s)) (Arv (Bm (Bbm rl) Tryz.func181 rfl rfl ⟨rfl,rfl,trivial⟩ ?_))))
 refine l_v (Uy rfl rfl) (Bma (.bool (decide (Oi l (fun y=>(s).toList == y.toList) ≥ 0))) (l_k k2 (Aq (hret _ _ _ ⟨rfl,rfl,eT (.bool (decide (Oi l (fun y=>(s).toList == y.toList) ≥ 0))) ?_⟩))))
 rw [Yq]
end
section
set_option maxHeartbeats 1000000
open Go
theorem Bdw {l:List ByteArray} {m:Int} (h:Dd l m = 0):(l.length:Int) ≤ m:=by
 unfold Dd at h
 split at h
 ·cases h
 ·omega
variable {mn:Bool} {X:Frame→List Frame→Ro→Own→Cy→Prop} {ρ:Ro} {σ:Own}
theorem Atw {n low high:Int} :CallsH (CX mn X) 122 #[(iV (n)),(iV (low)),(iV (high))] ρ σ (rP ρ σ (.bool (inR n low high))):=by
 refine Bh (n:=15) (args:=[(iV (n)),(iV (low)),(iV (high))]) [6] Bnb rfl rfl rfl rfl fun Q hret hnor=>w_q rfl rfl fun K1 k1=>Bma (.bool (false)) (Arx rfl rfl k1 fun K2 k2=>Bmb (iV (low)) (Bmb (iV (n)) (l_v (Uz rfl rfl) (Bmb (.bool (decide (low ≤ n))) (Cn (decide (low ≤ n)) (fun b3=>?_) (fun b3=>?_))))))
 ·have q3:=of_decide_eq_true b3
  refine l_M (iV (n)) (gY rfl b3) rfl (l_M (iV (high)) (gY rfl b3) rfl (Aa (gY rfl b3) (Uz rfl rfl) (l_v (Bt rfl b3 (v:=(.bool (decide (n ≤ high)))) rfl) (Bma (.bool (decide (n ≤ high))) (l_k k2 (Aq (hret _ _ _ ⟨rfl,rfl,eT (.bool (decide (n ≤ high))) ?_⟩)))))))
  simp only [inR,b3,Bool.true_and,Bool.false_and,Bool.and_true,Bool.and_false,Bool.true_or,Bool.false_or,Bool.or_true,Bool.or_false,Bool.not_true,Bool.not_false]
 have q3:=of_decide_eq_false b3
 refine Ap (gN rfl b3) (Ap (gN rfl b3) (Ap (gN rfl b3) (l_v (Bn rfl b3 (v:=(.bool (false))) rfl) (Bma (.bool (false)) (l_k k2 (Aq (hret _ _ _ ⟨rfl,rfl,eT (.bool (false)) ?_⟩)))))))
 simp only [inR,b3,Bool.true_and,Bool.false_and,Bool.and_true,Bool.and_false,Bool.true_or,Bool.false_or,Bool.or_true,Bool.or_false,Bool.not_true,Bool.not_false]
theorem Avp {x:Span} {vx:Value} {low high:Int} (rx:Val ρ vx x):CallsH (CX mn X) 123 #[vx,(iV (low)),(iV (high))] ρ σ (rP ρ σ (.bool (Ef x low high))):=by
 refine Bh (n:=24) (args:=[vx,(iV (low)),(iV (high))]) [6] Bnw rfl rfl rfl rfl fun Q hret hnor=>w_q rfl rfl fun K1 k1=>Arv (Eb (v:=vx) rfl fun k2=>?_)
 refine Bb (a:=x) rx fun ρ2 l2 r2=>Bma (.bool (false)) (Arx rfl rfl k1 fun K3 k3=>Bmb (iV (low)) (Arw (Ay Span.f_low Bhu rfl rfl ty3 (by decide) rfl r2) fun v4 r4=>?_))
 have ⟨g5a,g5b⟩:=At.rng r4
 refine l_v (Bc ty3 rfl r4) (l_v (Uz rfl rfl) (Bmb (.bool (decide (low ≤ x.low))) (Cn (decide (low ≤ x.low)) (fun b6=>?_) (fun b6=>?_))))
 ·have q6:=of_decide_eq_true b6
  refine Ak (gY rfl b6) (Ay Span.f_low Bhu rfl rfl ty3 (by decide) rfl r2) fun v7 r7=>?_
  have ⟨g8a,g8b⟩:=At.rng r7
  refine Aa (gY rfl b6) (Bc ty3 rfl r7) (Ak (gY rfl b6) (Ay Span.f_high Bhu rfl rfl ty3 (by decide) rfl r2) fun v9 r9=>?_)
  have ⟨g10a,g10b⟩:=At.rng r9
  refine Aa (gY rfl b6) (Bc ty3 rfl r9) (Aa (gY rfl b6) (Uz rfl rfl) (l_v (Bt rfl b6 (v:=(.bool (decide (x.low ≤ x.high)))) rfl) (Bmb (.bool (decide (x.low ≤ x.high))) (Cn (decide (x.low ≤ x.high)) (fun b11=>?_) (fun b11=>?_)))))
  ·have q11:=of_decide_eq_true b11
   refine Ak (gY rfl b11) (Ay Span.f_high Bhu rfl rfl ty3 (by decide) rfl r2) fun v12 r12=>?_
   have ⟨g13a,g13b⟩:=At.rng r12
   refine Aa (gY rfl b11) (Bc ty3 rfl r12) (l_M (iV (high)) (gY rfl b11) rfl (Aa (gY rfl b11) (Uz rfl rfl) (l_v (Bt rfl b11 (v:=(.bool (decide (x.high ≤ high)))) rfl) (Bma (.bool (decide (x.high ≤ high))) (l_k k3 (Aj (Bok l2) (Aq (hret _ _ _ ⟨rfl,rfl,eT (.bool (decide (x.high ≤ high))) ?_⟩))))))))
   simp only [Ef,b6,b11,Bool.true_and,Bool.false_and,Bool.and_true,Bool.and_false,Bool.true_or,Bool.false_or,Bool.or_true,Bool.or_false,Bool.not_true,Bool.not_false]
  have q11:=of_decide_eq_false b11
  refine Ap (gN rfl b11) (Ap (gN rfl b11) (Ap (gN rfl b11) (Ap (gN rfl b11) (l_v (Bn rfl b11 (v:=(.bool (false))) rfl) (Bma (.bool (false)) (l_k k3 (Aj (Bok l2) (Aq (hret _ _ _ ⟨rfl,rfl,eT (.bool (false)) ?_⟩)))))))))
  simp only [Ef,b6,b11,Bool.true_and,Bool.false_and,Bool.and_true,Bool.and_false,Bool.true_or,Bool.false_or,Bool.or_true,Bool.or_false,Bool.not_true,Bool.not_false]
 have q6:=of_decide_eq_false b6
 refine Ap (gN rfl b6) (Ap (gN rfl b6) (Ap (gN rfl b6) (Ap (gN rfl b6) (Ap (gN rfl b6) (l_v (Bn rfl b6 (v:=(.bool (false))) rfl) (Bmb (.bool (false)) (Ap (gN rfl rfl) (Ap (gN rfl rfl) (Ap (gN rfl rfl) (Ap (gN rfl rfl) (l_v (Bn rfl rfl (v:=(.bool (false))) rfl) (Bma (.bool (false)) (l_k k3 (Aj (Bok l2) (Aq (hret _ _ _ ⟨rfl,rfl,eT (.bool (false)) ?_⟩))))))))))))))))
 simp only [Ef,b6,Bool.true_and,Bool.false_and,Bool.and_true,Bool.and_false,Bool.true_or,Bool.false_or,Bool.or_true,Bool.or_false,Bool.not_true,Bool.not_false]
theorem Bdo {c:UInt8} :CallsH (CX mn X) 180 #[(.int .u8 (((c.toNat:Nat):Int)))] ρ σ (rP ρ σ (.bool (Ov ((c.toNat:Nat):Int)))):=by
 refine Bh (n:=21) (args:=[(.int .u8 (((c.toNat:Nat):Int)))]) [2] Tryz.func180 rfl rfl rfl rfl fun Q hret hnor=>w_q rfl rfl fun K1 k1=>Bma (.bool (false)) (Arx rfl rfl k1 fun K2 k2=>Bmb (.int .u8 (((c.toNat:Nat):Int))) (l_v (Da rfl rfl) (Bmb (.bool (decide (((c.toNat:Nat):Int) < 97))) (Cn (decide (((c.toNat:Nat):Int) < 97)) (fun b3=>?_) (fun b3=>?_)))))
 ·have q3:=of_decide_eq_true b3
  refine Ap (gN rfl b3) (Ap (gN rfl b3) (l_v (Bt rfl b3 (v:=(.bool (true))) rfl) (Bmb (.bool (true)) (l_M (.int .u8 (((c.toNat:Nat):Int))) (gY rfl rfl) rfl (Aa (gY rfl rfl) (Da rfl rfl) (l_M (.bool (decide (((c.toNat:Nat):Int) < 48))) (gY rfl rfl) rfl (Cn (decide (((c.toNat:Nat):Int) < 48)) (fun b4=>?_) (fun b4=>?_))))))))
  ·have q4:=of_decide_eq_true b4
   refine Ap (gN rfl b4) (Ap (gN rfl b4) (Aa (gY rfl rfl) (Bt rfl b4 (v:=(.bool (true))) rfl) (l_v (Bt rfl rfl (v:=(.bool (true))) rfl) (Bmb (.bool (true)) (l_M (.int .u8 (((c.toNat:Nat):Int))) (gY rfl rfl) rfl (Aa (gY rfl rfl) (Dg rfl rfl) (l_v (Bt rfl rfl (v:=(.bool (((c.toNat:Nat):Int) != 45))) rfl) (Bma (.bool (((c.toNat:Nat):Int) != 45)) (l_k k2 (Aq (hret _ _ _ ⟨rfl,rfl,eT (.bool (((c.toNat:Nat):Int) != 45)) ?_⟩)))))))))))
   simp only [Ov,b3,b4,Bool.true_and,Bool.false_and,Bool.and_true,Bool.and_false,Bool.true_or,Bool.false_or,Bool.or_true,Bool.or_false,Bool.not_true,Bool.not_false]
  have q4:=of_decide_eq_false b4
  refine l_M (.int .u8 (((c.toNat:Nat):Int))) (gY rfl b4) rfl (Aa (gY rfl b4) (Gl rfl rfl) (Aa (gY rfl rfl) (Bn rfl b4 (v:=(.bool (decide (((c.toNat:Nat):Int) > 57)))) rfl) (l_v (Bt rfl rfl (v:=(.bool (decide (((c.toNat:Nat):Int) > 57)))) rfl) (Bmb (.bool (decide (((c.toNat:Nat):Int) > 57))) (Cn (decide (((c.toNat:Nat):Int) > 57)) (fun b5=>?_) (fun b5=>?_))))))
  ·have q5:=of_decide_eq_true b5
   refine l_M (.int .u8 (((c.toNat:Nat):Int))) (gY rfl b5) rfl (Aa (gY rfl b5) (Dg rfl rfl) (l_v (Bt rfl b5 (v:=(.bool (((c.toNat:Nat):Int) != 45))) rfl) (Bma (.bool (((c.toNat:Nat):Int) != 45)) (l_k k2 (Aq (hret _ _ _ ⟨rfl,rfl,eT (.bool (((c.toNat:Nat):Int) != 45)) ?_⟩))))))
   simp only [Ov,b3,b4,b5,Bool.true_and,Bool.false_and,Bool.and_true,Bool.and_false,Bool.true_or,Bool.false_or,Bool.or_true,Bool.or_false,Bool.not_true,Bool.not_false]
  have q5:=of_decide_eq_false b5
  refine Ap (gN rfl b5) (Ap (gN rfl b5) (l_v (Bn rfl b5 (v:=(.bool (false))) rfl) (Bma (.bool (false)) (l_k k2 (Aq (hret _ _ _ ⟨rfl,rfl,eT (.bool (false)) ?_⟩))))))
  simp only [Ov,b3,b4,b5,Bool.true_and,Bool.false_and,Bool.and_true,Bool.and_false,Bool.true_or,Bool.false_or,Bool.or_true,Bool.or_false,Bool.not_true,Bool.not_false]
 have q3:=of_decide_eq_false b3
 refine l_M (.int .u8 (((c.toNat:Nat):Int))) (gY rfl b3) rfl (Aa (gY rfl b3) (Gl rfl rfl) (l_v (Bn rfl b3 (v:=(.bool (decide (((c.toNat:Nat):Int) > 122)))) rfl) (Bmb (.bool (decide (((c.toNat:Nat):Int) > 122))) (Cn (decide (((c.toNat:Nat):Int) > 122)) (fun b6=>?_) (fun b6=>?_)))))
 ·have q6:=of_decide_eq_true b6
  refine l_M (.int .u8 (((c.toNat:Nat):Int))) (gY rfl b6) rfl (Aa (gY rfl b6) (Da rfl rfl) (l_M (.bool (decide (((c.toNat:Nat):Int) < 48))) (gY rfl b6) rfl (Cn (decide (((c.toNat:Nat):Int) < 48)) (fun b7=>?_) (fun b7=>?_))))
  ·have q7:=of_decide_eq_true b7
   refine Ap (gN rfl b7) (Ap (gN rfl b7) (Aa (gY rfl b6) (Bt rfl b7 (v:=(.bool (true))) rfl) (l_v (Bt rfl b6 (v:=(.bool (true))) rfl) (Bmb (.bool (true)) (l_M (.int .u8 (((c.toNat:Nat):Int))) (gY rfl rfl) rfl (Aa (gY rfl rfl) (Dg rfl rfl) (l_v (Bt rfl rfl (v:=(.bool (((c.toNat:Nat):Int) != 45))) rfl) (Bma (.bool (((c.toNat:Nat):Int) != 45)) (l_k k2 (Aq (hret _ _ _ ⟨rfl,rfl,eT (.bool (((c.toNat:Nat):Int) != 45)) ?_⟩)))))))))))
   simp only [Ov,b3,b6,b7,Bool.true_and,Bool.false_and,Bool.and_true,Bool.and_false,Bool.true_or,Bool.false_or,Bool.or_true,Bool.or_false,Bool.not_true,Bool.not_false]
  have q7:=of_decide_eq_false b7
  refine l_M (.int .u8 (((c.toNat:Nat):Int))) (gY rfl b7) rfl (Aa (gY rfl b7) (Gl rfl rfl) (Aa (gY rfl b6) (Bn rfl b7 (v:=(.bool (decide (((c.toNat:Nat):Int) > 57)))) rfl) (l_v (Bt rfl b6 (v:=(.bool (decide (((c.toNat:Nat):Int) > 57)))) rfl) (Bmb (.bool (decide (((c.toNat:Nat):Int) > 57))) (Cn (decide (((c.toNat:Nat):Int) > 57)) (fun b8=>?_) (fun b8=>?_))))))
  ·have q8:=of_decide_eq_true b8
   refine l_M (.int .u8 (((c.toNat:Nat):Int))) (gY rfl b8) rfl (Aa (gY rfl b8) (Dg rfl rfl) (l_v (Bt rfl b8 (v:=(.bool (((c.toNat:Nat):Int) != 45))) rfl) (Bma (.bool (((c.toNat:Nat):Int) != 45)) (l_k k2 (Aq (hret _ _ _ ⟨rfl,rfl,eT (.bool (((c.toNat:Nat):Int) != 45)) ?_⟩))))))
   simp only [Ov,b3,b6,b7,b8,Bool.true_and,Bool.false_and,Bool.and_true,Bool.and_false,Bool.true_or,Bool.false_or,Bool.or_true,Bool.or_false,Bool.not_true,Bool.not_false]
  have q8:=of_decide_eq_false b8
  refine Ap (gN rfl b8) (Ap (gN rfl b8) (l_v (Bn rfl b8 (v:=(.bool (false))) rfl) (Bma (.bool (false)) (l_k k2 (Aq (hret _ _ _ ⟨rfl,rfl,eT (.bool (false)) ?_⟩))))))
  simp only [Ov,b3,b6,b7,b8,Bool.true_and,Bool.false_and,Bool.and_true,Bool.and_false,Bool.true_or,Bool.false_or,Bool.or_true,Bool.or_false,Bool.not_true,Bool.not_false]
 have q6:=of_decide_eq_false b6
 refine Ap (gN rfl b6) (Ap (gN rfl b6) (Ap (gN rfl b6) (Ap (Jf rfl rfl rfl) (Ap (Jf rfl rfl rfl) (Ap (gN rfl b6) (l_v (Bn rfl b6 (v:=(.bool (false))) rfl) (Bmb (.bool (false)) (Ap (gN rfl rfl) (Ap (gN rfl rfl) (l_v (Bn rfl rfl (v:=(.bool (false))) rfl) (Bma (.bool (false)) (l_k k2 (Aq (hret _ _ _ ⟨rfl,rfl,eT (.bool (false)) ?_⟩))))))))))))))
 simp only [Ov,b3,b6,Bool.true_and,Bool.false_and,Bool.and_true,Bool.and_false,Bool.true_or,Bool.false_or,Bool.or_true,Bool.or_false,Bool.not_true,Bool.not_false]
theorem Bdt {s:ByteArray} (hs:s.size < 2 ^ 60):CallsH (CX mn X) 154 #[(.string (s))] ρ σ (rP ρ σ (.bool (Hg s))):=by
 refine Bh (n:=21) (args:=[(.string (s))]) [2] Tryz.func154 rfl rfl rfl rfl fun Q hret hnor=>w_q rfl rfl fun K1 k1=>Bma (.bool (false)) (Ary rfl rfl k1 fun K2 K3 k2 k3=>Bmb (.string (s)) (l_v (Afz Bja (s:=s) rfl) (Arv (Bm (Atw) Bnb rfl rfl ⟨rfl,rfl,rfl,trivial⟩ ?_))))
 refine l_v (Iy rfl) (Bmb (.bool (!(inR (((s.size:Nat):Int)) 1 14))) (Cn (!(inR (((s.size:Nat):Int)) 1 14)) (fun b4=>?_) (fun b4=>?_)))
 ·have b5:=not_eq_t b4
  have q5:=Tr.1 b5
  refine Ap (gN rfl b4) (Ap (gN rfl b4) (Ap (gN rfl b4) (l_v (Bt rfl b4 (v:=(.bool (true))) rfl) (Bmb (.bool (true)) (Ap (gN rfl rfl) (Ap (gN rfl rfl) (Ap (gN rfl rfl) (l_v (Bt rfl rfl (v:=(.bool (true))) rfl) (l_k k3 (Co rfl rfl (w_q rfl rfl fun K6 k6=>Bma (.bool (false)) (l_k k6 (Aq (hret _ _ _ ⟨rfl,rfl,eT (.bool (false)) ?_⟩))))))))))))))
  simp only [Hg,Qb,b4,b5,Bool.true_and,Bool.false_and,Bool.and_true,Bool.and_false,Bool.true_or,Bool.false_or,Bool.or_true,Bool.or_false,Bool.not_true,Bool.not_false]
 have b7:=not_eq_f b4
 have q7:=Fz.1 b7
 refine l_M (.string (s)) (gY rfl b4) rfl ?_
 obtain ⟨c8,hc8⟩:=Alc (s:=s) (i:=0) (by omega)
 refine Aa (gY rfl b4) (Ace 0 c8 Bja rfl (q:=0) rfl rfl hc8) (Aa (gY rfl b4) (Da rfl rfl) (l_v (Bn rfl b4 (v:=(.bool (decide (((c8.toNat:Nat):Int) < 97)))) rfl) (Bmb (.bool (decide (((c8.toNat:Nat):Int) < 97))) (Cn (decide (((c8.toNat:Nat):Int) < 97)) (fun b9=>?_) (fun b9=>?_)))))
 ·have q9:=of_decide_eq_true b9
  refine Ap (gN rfl b9) (Ap (gN rfl b9) (Ap (gN rfl b9) (l_v (Bt rfl b9 (v:=(.bool (true))) rfl) (l_k k3 (Co rfl rfl (w_q rfl rfl fun K10 k10=>Bma (.bool (false)) (l_k k10 (Aq (hret _ _ _ ⟨rfl,rfl,eT (.bool (false)) ?_⟩)))))))))
  simp only [Hg,Qb,hc8,b4,b7,b9,Bool.true_and,Bool.false_and,Bool.and_true,Bool.and_false,Bool.true_or,Bool.false_or,Bool.or_true,Bool.or_false,Bool.not_true,Bool.not_false]
 have q9:=of_decide_eq_false b9
 refine l_M (.string (s)) (gY rfl b9) rfl (Aa (gY rfl b9) (Ace 0 c8 Bja rfl (q:=0) rfl rfl hc8) (Aa (gY rfl b9) (Gl rfl rfl) (l_v (Bn rfl b9 (v:=(.bool (decide (((c8.toNat:Nat):Int) > 122)))) rfl) (l_k k3 (Up (t:=decide (((c8.toNat:Nat):Int) > 122)) rfl (fun b12=>?_) (fun b12=>?_))))))
 ·have q12:=of_decide_eq_true b12
  refine w_q rfl rfl fun K13 k13=>Bma (.bool (false)) (l_k k13 (Aq (hret _ _ _ ⟨rfl,rfl,eT (.bool (false)) ?_⟩)))
  simp only [Hg,Qb,hc8,b4,b7,b9,b12,Bool.true_and,Bool.false_and,Bool.and_true,Bool.and_false,Bool.true_or,Bool.false_or,Bool.or_true,Bool.or_false,Bool.not_true,Bool.not_false]
 have q12:=of_decide_eq_false b12
 refine Al (k2 _ _ _ _ ?_)
 refine w_q rfl rfl fun K14 k14=>Bmb (.string (s)) (Arv (Amd (s:=s) Bja Bne Blf rfl (by omega) fun k15 cap15 cs15 rs15 fz15 R15 hc15=>?_))
 refine Alh R15 hc15 (by omega) fun ρ15 l15 r15=>Arv (Bm (Ta r15 (⟨180,Tryz.f180,[],rfl,Tryz.func180,rfl,rfl,fun mn X ρ σ v x hv=>by rw [Uq.1 hv]; exact Bdo⟩:Su (.func (.func 180) #[] #[]) (fun c:UInt8=>Ov ((c.toNat:Nat):Int)))) Tryz.func179 rfl rfl ⟨rfl,rfl,trivial⟩ ?_)
 refine l_v (Iy rfl) (Bma (.bool (!(s.data.toList.any (fun c:UInt8=>Ov ((c.toNat:Nat):Int))))) (l_k k14 (Aj (Bok l15) (Aq (hret _ _ _ ⟨rfl,rfl,eT (.bool (!(s.data.toList.any (fun c:UInt8=>Ov ((c.toNat:Nat):Int))))) ?_⟩)))))
 rw [Akl,Bool.not_not]
 simp only [Hg,Qb,hc8,b4,b7,b9,b12,Bool.true_and,Bool.false_and,Bool.and_true,Bool.and_false,Bool.true_or,Bool.false_or,Bool.or_true,Bool.or_false,Bool.not_true,Bool.not_false]
theorem Auj {l:List ByteArray} {vl:Value} {mx:Int} (rl:Val ρ vl l) (h0:Dd l mx = 0):CallsH (CX mn X) 120 #[vl,(iV (mx))] ρ σ (rP ρ σ (iV (0))):=by
 have nms:=Aup h0
 have hlm:=Bdw h0
 refine Bh (n:=27) (args:=[vl,(iV (mx))]) [4] Tryz.func120 rfl rfl rfl rfl fun Q hret hnor=>w_q rfl rfl fun K1 k1=>Bma (iV (0)) (Ary rfl rfl k1 fun K2 K3 k2 k3=>Bmb vl ?_)
 have g4:=Bop rl
 refine l_v (Ci (el:=9) Bhs rfl rl) (Bmb (iV (mx)) (l_v (Gl rfl rfl) (l_k k3 (Cg rfl (decide_eq_false (by omega)) (Al (k2 _ _ _ _ ?_))))))
 refine Asb rfl rfl fun K5 K6 k5 k6=>Bmb vl ?_
 have g7:=Bop rl
 refine l_v (Ci (el:=9) Bhs rfl rl) (Bmb (iV (0)) (l_k k6 (Ao (Cc (fun mm ee dd ρ' σ'=>∃ (i:Nat),(l.length - i) = mm∧[] = dd∧ρ = ρ'∧σ = σ'∧ee 0 = vl∧ee 11 = vl∧ee 12 = (iV (((l.length:Nat):Int)))∧ee 13 = (iV ((i:Int)))∧(i ≤ l.length)∧True) (m:=_) ⟨0,rfl,rfl,rfl,rfl,rfl,rfl,rfl,rfl,(Nat.zero_le _),trivial⟩ ?_))))
 rintro m8 e8 _ _ _ ⟨i,rfl,rfl,rfl,rfl,h8_0,h8_11,h8_12,h8_13,p8_0,_⟩
 refine w_q rfl rfl fun K9 k9=>l_v (Da h8_13 h8_12) (Asa k9 fun K10 k10=>Up (t:=decide ((i:Int) < ((l.length:Nat):Int))) rfl (fun b11=>?_) (fun b11=>?_))
 ·have q11:=of_decide_eq_true b11
  refine Al (k10 _ _ _ _ ?_)
  refine Ai fun K12 k12=>Ao (w_q rfl rfl fun K13 k13=>l_v (Ah (v:=(iV ((i:Int)))) h8_13) ?_)
  obtain ⟨a15,ha15⟩:=Ed (xs:=l) (i:=i) (by omega)
  have nfa15:=nms.1 _ _ ha15
  refine Arw (Ch i Bhs ty9 h8_11 rl (q:=(i:Int)) h8_13 rfl ha15) fun v14 r14=>?_
  have g16:=At.slen r14
  refine l_v (Pk ty9 rfl r14) (Bma (iV ((i:Int))) (Bma (.string (a15)) (Ary rfl rfl k13 fun K17 K18 k17 k18=>Bmb (.string (a15)) (Arv (Bm (Bdt (by omega)) Tryz.func154 rfl rfl ⟨rfl,trivial⟩ ?_)))))
  refine l_v (Iy rfl) (l_k k18 (Cg rfl (not_t nfa15) (Al (k17 _ _ _ _ ?_))))
  refine w_q rfl rfl fun K19 k19=>l_v (Ah (v:=vl) h8_0) (Bmb (iV ((i:Int))) (Arw (Avf i Bhs ty9 rfl rl (q:=(i:Int)) rfl rfl (by omega)) fun v20 r20=>Bmb (.string (a15)) (Arv (Bm (Ayb r20) Tryz.func155 rfl rfl ⟨rfl,rfl,trivial⟩ ?_))))
  refine l_k k19 (Cg rfl (Axb fun k y hk hy=>beq_eq_false_iff_ne.2 fun h=>nms.2 _ k _ _ ha15 hk hy h.symm) (Al (k12 _ _ _ _ ?_)))
  refine Ag rfl rfl (l_v (Br h8_13 rfl (z:=(((i + 1):Nat):Int)) wrE) (Bmb (iV ((((i + 1):Nat):Int))) (Ac ?_)))
  refine ⟨_,?_,((i + 1)),rfl,rfl,rfl,rfl,h8_0,h8_11,h8_12,rfl,(by omega),trivial⟩
  omega
 have q11:=of_decide_eq_false b11
 refine Bx (k5 _ _ _ _ ?_)
 refine w_q rfl rfl fun K21 k21=>Bma (iV (0)) (l_k k21 (Aq (hret _ _ _ ⟨rfl,rfl,eT (iV (0)) ?_⟩)))
 rfl
set_option maxHeartbeats 1000000 in
theorem Awr {b:TBook} {vb:Value} (rb:Val ρ vb b) (ok:TBookOk b):CallsH (CX mn X) 121 #[vb] ρ σ (rP ρ σ (iV (0))):=by
 have hl12:=Awu ok
 have hn8:=ok.nsteps
 have hl4:=Bhn ok
 refine Bh (n:=96) (args:=[vb]) [2] Tryz.func121 rfl rfl rfl rfl fun Q hret hnor=>w_q rfl rfl fun K1 k1=>Arv (Eb (v:=vb) rfl fun k2=>?_)
 refine Bb (a:=b) rb fun ρ2 l2 r2=>Bma (iV (0)) (Ary rfl rfl k1 fun K3 K4 k3 k4=>Arw (Ay TBook.f_steps Bhr rfl rfl Mx (by decide) rfl r2) fun v5 r5=>Arw (Ax Mx rfl r5) fun v6 r6=>?_)
 have g7:=Bop r6
 refine l_v (Ci (el:=176) Bih rfl r6) (l_v (Gl rfl rfl) (l_k k4 (Cg rfl (decide_eq_false (by omega)) (Al (k3 _ _ _ _ ?_)))))
 refine w_q rfl rfl fun K8 k8=>Arv (Oh fun k9=>?_)
 refine Arv (Oh fun k10=>?_)
 refine Bma (.map (some k9)) (Bma (.map (some k10)) (Ary rfl rfl k8 fun K11 K12 k11 k12=>Arw (Ay TBook.f_steps Bhr rfl rfl Mx (by decide) rfl r2) fun v13 r13=>Arw (Ax Mx rfl r13) fun v14 r14=>?_))
 have g15:=Bop r14
 refine l_v (Ci (el:=176) Bih rfl r14) (Bmb (iV (0)) (l_k k12 (Ao (Cc (fun mm ee dd ρ' σ'=>∃ (i:Nat) (me16_0:Array MapEntry) (mc16_0:Nat) (me16_1:Array MapEntry) (mc16_1:Nat),(b.steps.length - i) = mm∧[] = dd∧ρ2 = ρ'∧((k10,Res.obj (Obj.map me16_1 mc16_1)) :: ((k9,Res.obj (Obj.map me16_0 mc16_0)) :: σ)) = σ'∧ee 1 = (.pointer (some ⟨k2,0,none⟩))∧ee 3 = (.map (some k9))∧ee 4 = (.map (some k10))∧ee 18 = v14∧ee 19 = (iV (((b.steps.length:Nat):Int)))∧ee 20 = (iV ((i:Int)))∧(i ≤ b.steps.length)∧(Atz me16_0 mc16_0 (Atx b i) ((fun _:Int=>Value.bool true) ))∧(Atz me16_1 mc16_1 (Ash b i) ((fun _:Int=>Value.bool true)  ))∧True) (m:=_) ⟨0,#[],0,#[],0,rfl,rfl,rfl,rfl,rfl,rfl,rfl,rfl,rfl,rfl,(Nat.zero_le _),(Auc (rfl) (Avj (v:=(fun _:Int=>Value.bool true) ))),(Auc (rfl) (Avj (v:=(fun _:Int=>Value.bool true)  ))),trivial⟩ ?_))))
 rintro m16 e16 _ _ _ ⟨i,me16_0,mc16_0,me16_1,mc16_1,rfl,rfl,rfl,rfl,h16_1,h16_3,h16_4,h16_18,h16_19,h16_20,p16_0,p16_1,p16_2,_⟩
 refine w_q rfl rfl fun K17 k17=>l_v (Da h16_20 h16_19) (Asa k17 fun K18 k18=>Up (t:=decide ((i:Int) < ((b.steps.length:Nat):Int))) rfl (fun b19=>?_) (fun b19=>?_))
 ·have q19:=of_decide_eq_true b19
  refine Al (k18 _ _ _ _ ?_)
  refine Ai fun K20 k20=>Ao (w_q rfl rfl fun K21 k21=>?_)
  obtain ⟨a23,ha23⟩:=Ed (xs:=b.steps) (i:=i) (by omega)
  have hsoa23:=ok.step i a23 ha23; have hhda23:=hsoa23.hand; have hgaa23:=hsoa23.gain; have hloa23:=hsoa23.loss; have hola23:=hsoa23.outLen ok; have hila23:=hsoa23.inLen ok
  refine Arw (Ch i Bih Atb h16_18 r14 (q:=(i:Int)) h16_20 rfl ha23) fun v22 r22=>Arw (Ax Atb rfl r22) fun v24 r24=>Arv (Ct Ayd fun k25=>?_)
  refine Cx rfl (Dv (v:=v24) (a:=a23) (c:=Bab) Atb rfl rfl r24 rfl ?_)
  refine Bb (a:=a23) r24 fun ρ26 l26 r26=>?_
  replace r2:=At.mono l26 r2
  refine Ary rfl rfl k21 fun K27 K28 k27 k28=>Arw (Ay TStep.f_hand Bht rfl rfl ty3 (by decide) rfl r26) fun v29 r29=>?_
  have ⟨g30a,g30b⟩:=At.rng r29
  refine l_v (Bc ty3 rfl r29) (Arw (Ay TBook.f_hands Bhr rfl rfl Hw (by decide) h16_1 r2) fun v31 r31=>Arw (Ax Hw rfl r31) fun v32 r32=>?_)
  have g33:=Bop r32
  refine l_v (Ci (el:=9) Bhs rfl r32) (l_v (Ou rfl rfl (z:=(((b.hands.length:Nat):Int) - 1)) wrE) (Arv (Bm (Atw) Bnb rfl rfl ⟨rfl,rfl,rfl,trivial⟩ ?_)))
  refine l_v (Iy rfl) (l_k k28 (Cg rfl (not_t (Fz.2 (by first | omega | (simp only; omega)))) (Al (k27 _ _ _ _ ?_))))
  refine Asb rfl rfl fun K34 K35 k34 k35=>Arw (Ay TStep.f_in_ Bht rfl rfl Vh (by decide) rfl r26) fun v36 r36=>Arw (Ax Vh rfl r36) fun v37 r37=>?_
  have g38:=Bop r37
  refine l_v (Ci (el:=3) Bho rfl r37) (Bmb (iV (0)) (l_k k35 (Ao (Cc (fun mm ee dd ρ' σ'=>∃ (k:Nat) (me39_1:Array MapEntry) (mc39_1:Nat),(a23.in_.length - k) = mm∧[] = dd∧ρ26 = ρ'∧((k10,Res.obj (Obj.map me39_1 mc39_1)) :: ((k9,Res.obj (Obj.map me16_0 mc16_0)) :: σ)) = σ'∧ee 1 = (.pointer (some ⟨k2,0,none⟩))∧ee 3 = (.map (some k9))∧ee 4 = (.map (some k10))∧ee 6 = (.pointer (some ⟨k25,0,none⟩))∧ee 18 = v14∧ee 19 = (iV (((b.steps.length:Nat):Int)))∧ee 20 = (iV ((i:Int)))∧ee 33 = v37∧ee 34 = (iV (((a23.in_.length:Nat):Int)))∧ee 35 = (iV ((k:Int)))∧(k ≤ a23.in_.length)∧(Atz me39_1 mc39_1 (Ash b i ++ a23.in_.take k) ((fun _:Int=>Value.bool true)  ))∧True) (m:=_) ⟨0,me16_1,mc16_1,rfl,rfl,rfl,rfl,h16_1,h16_3,h16_4,rfl,h16_18,h16_19,h16_20,rfl,rfl,rfl,(Nat.zero_le _),(Auc ((by rw [List.take_zero,List.append_nil])) p16_2),trivial⟩ ?_))))
  rintro m39 e39 _ _ _ ⟨k,me39_1,mc39_1,rfl,rfl,rfl,rfl,h39_1,h39_3,h39_4,h39_6,h39_18,h39_19,h39_20,h39_33,h39_34,h39_35,p39_0,p39_1,_⟩
  refine w_q rfl rfl fun K40 k40=>l_v (Da h39_35 h39_34) (Asa k40 fun K41 k41=>Up (t:=decide ((k:Int) < ((a23.in_.length:Nat):Int))) rfl (fun b42=>?_) (fun b42=>?_))
  ·have q42:=of_decide_eq_true b42
   refine Al (k41 _ _ _ _ ?_)
   refine Ai fun K43 k43=>Ao (w_q rfl rfl fun K44 k44=>?_)
   obtain ⟨a46,ha46⟩:=Ed (xs:=a23.in_) (i:=k) (by omega)
   have hina46:=(hsoa23.ins k a46 ha46).1
   refine Arw (Ch k Bho ty3 h39_33 r37 (q:=(k:Int)) h39_35 rfl ha46) fun v45 r45=>?_
   have ⟨g47a,g47b⟩:=At.rng r45
   refine l_v (Bc ty3 rfl r45) (Bma (iV (a46)) (Asa k44 fun K48 k48=>Ao (w_q rfl rfl fun K49 k49=>Bmb (iV (a46)) (Arw (Ay TBook.f_piles Bhr rfl rfl Hw (by decide) h39_1 r2) fun v50 r50=>Arw (Ax Hw rfl r50) fun v51 r51=>?_))))
   have g52:=Bop r51
   refine l_v (Ci (el:=9) Bhs rfl r51) (l_v (Ou rfl rfl (z:=(((b.piles.length:Nat):Int) - 1)) wrE) (Arv (Bm (Atw) Bnb rfl rfl ⟨rfl,rfl,rfl,trivial⟩ ?_)))
   refine l_v (Iy rfl) (Bma (.bool (!(inR a46 0 ((((b.piles.length:Nat):Int) - 1))))) (l_k k49 (Cg rfl (not_t (Fz.2 (by first | omega | (simp only; omega)))) (w_q rfl rfl fun K53 k53=>l_v (Ah (v:=(.map (some k9))) h39_3) (Bmb (iV (a46)) (Avs ⟨Bon,fun _ h=>h⟩ rfl (Ayc Bli Bhv zr4 p16_1 rfl rfl (List.mem_cons_of_mem _ (List.mem_cons_self ..)) (Bgb ok ha23 ha46)) (l_v (Iy rfl) (Bma (.bool (!(true))) (l_k k53 (Cg rfl (not_t rfl) (w_q rfl rfl fun K54 k54=>l_v (Ah (v:=(.map (some k10))) h39_4) (Bmb (iV (a46)) (Avs ⟨Bon,fun _ h=>h⟩ rfl (Bbt Bli Bhv zr4 p39_1 rfl rfl (List.mem_cons_self ..) (Awt ok ha23 ha46)) (Bma (.bool (false)) (l_k k54 (Cg rfl rfl (Al (k48 _ _ _ _ ?_))))))))))))))))))
   refine Ag rfl rfl (l_v (Ah (v:=(.map (some k10))) h39_4) (Bmb (iV (a46)) (Cx rfl (Azw (i:=0) Bli Bhv p39_1 (Awt ok ha23 ha46) rfl rfl rfl rfl rfl fun es55 ck55 MK55=>?_))))
   refine l_k k43 (Ag rfl rfl (l_v (Br h39_35 rfl (z:=(((k + 1):Nat):Int)) wrE) (Bmb (iV ((((k + 1):Nat):Int))) (Ac ?_))))
   refine ⟨_,?_,((k + 1)),(es55),(ck55),rfl,rfl,rfl,rfl,h39_1,h39_3,h39_4,h39_6,h39_18,h39_19,h39_20,h39_33,h39_34,rfl,(by omega),(Auc ((by rw [List.append_assoc,List.take_add_one,ha46]; rfl)) MK55),trivial⟩
   omega
  have q42:=of_decide_eq_false b42
  refine Bx (k34 _ _ _ _ ?_)
  refine Asb rfl rfl fun K56 K57 k56 k57=>Arw (Ay TStep.f_out Bht rfl rfl Vh (by decide) h39_6 r26) fun v58 r58=>Arw (Ax Vh rfl r58) fun v59 r59=>?_
  have g60:=Bop r59
  refine l_v (Ci (el:=3) Bho rfl r59) (Bmb (iV (0)) (l_k k57 (Ao ?_)))
  have mu61:=Auc (show Ash b i ++ a23.in_.take k = Ash b i ++ a23.in_ by rw [List.take_of_length_le (by omega)]) p39_1
  refine Cc (fun mm ee dd ρ' σ'=>∃ (q:Nat) (me62_0:Array MapEntry) (mc62_0:Nat),(a23.out.length - q) = mm∧[] = dd∧ρ26 = ρ'∧((k10,Res.obj (Obj.map me39_1 mc39_1)) :: ((k9,Res.obj (Obj.map me62_0 mc62_0)) :: σ)) = σ'∧ee 1 = (.pointer (some ⟨k2,0,none⟩))∧ee 3 = (.map (some k9))∧ee 4 = (.map (some k10))∧ee 6 = (.pointer (some ⟨k25,0,none⟩))∧ee 18 = v14∧ee 19 = (iV (((b.steps.length:Nat):Int)))∧ee 20 = (iV ((i:Int)))∧ee 60 = v59∧ee 61 = (iV (((a23.out.length:Nat):Int)))∧ee 62 = (iV ((q:Int)))∧(q ≤ a23.out.length)∧(Atz me62_0 mc62_0 (Atx b i ++ a23.out.take q) ((fun _:Int=>Value.bool true) ))∧True) (m:=_) ⟨0,me16_0,mc16_0,rfl,rfl,rfl,rfl,h39_1,h39_3,h39_4,h39_6,h39_18,h39_19,h39_20,rfl,rfl,rfl,(Nat.zero_le _),(Auc ((by rw [List.take_zero,List.append_nil])) p16_1),trivial⟩ ?_
  rintro m62 e62 _ _ _ ⟨q,me62_0,mc62_0,rfl,rfl,rfl,rfl,h62_1,h62_3,h62_4,h62_6,h62_18,h62_19,h62_20,h62_60,h62_61,h62_62,p62_0,p62_1,_⟩
  refine w_q rfl rfl fun K63 k63=>l_v (Da h62_62 h62_61) (Asa k63 fun K64 k64=>Up (t:=decide ((q:Int) < ((a23.out.length:Nat):Int))) rfl (fun b65=>?_) (fun b65=>?_))
  ·have q65:=of_decide_eq_true b65
   refine Al (k64 _ _ _ _ ?_)
   refine Ai fun K66 k66=>Ao (w_q rfl rfl fun K67 k67=>?_)
   obtain ⟨a69,ha69⟩:=Ed (xs:=a23.out) (i:=q) (by omega)
   have hina69:=(hsoa23.outs q a69 ha69).1
   refine Arw (Ch q Bho ty3 h62_60 r59 (q:=(q:Int)) h62_62 rfl ha69) fun v68 r68=>?_
   have ⟨g70a,g70b⟩:=At.rng r68
   refine l_v (Bc ty3 rfl r68) (Bma (iV (a69)) (Ary rfl rfl k67 fun K71 K72 k71 k72=>Bmb (iV (a69)) (Arw (Ay TBook.f_piles Bhr rfl rfl Hw (by decide) h62_1 r2) fun v73 r73=>Arw (Ax Hw rfl r73) fun v74 r74=>?_)))
   have g75:=Bop r74
   refine l_v (Ci (el:=9) Bhs rfl r74) (l_v (Ou rfl rfl (z:=(((b.piles.length:Nat):Int) - 1)) wrE) (Arv (Bm (Atw) Bnb rfl rfl ⟨rfl,rfl,rfl,trivial⟩ ?_)))
   refine l_v (Iy rfl) (l_k k72 (Cg rfl (not_t (Fz.2 (by first | omega | (simp only; omega)))) (Al (k71 _ _ _ _ ?_))))
   refine Asb rfl rfl fun K76 K77 k76 k77=>l_v (Ah (v:=(.map (some k9))) h62_3) (Bmb (iV (a69)) (Avs ⟨Bon,fun _ h=>h⟩ rfl (Bbt Bli Bhv zr4 p62_1 rfl rfl (List.mem_cons_of_mem _ (List.mem_cons_self ..)) (Avt ok ha23 ha69)) (l_k k77 (Cg rfl rfl (Al (k76 _ _ _ _ ?_))))))
   refine Ag rfl rfl (l_v (Ah (v:=(.map (some k9))) h62_3) (Bmb (iV (a69)) (Cx rfl (Azw (i:=1) Bli Bhv p62_1 (Avt ok ha23 ha69) rfl rfl rfl rfl rfl fun es78 ck78 MK78=>?_))))
   refine l_k k66 (Ag rfl rfl (l_v (Br h62_62 rfl (z:=(((q + 1):Nat):Int)) wrE) (Bmb (iV ((((q + 1):Nat):Int))) (Ac ?_))))
   refine ⟨_,?_,((q + 1)),(es78),(ck78),rfl,rfl,rfl,rfl,h62_1,h62_3,h62_4,h62_6,h62_18,h62_19,h62_20,h62_60,h62_61,rfl,(by omega),(Auc ((by rw [List.append_assoc,List.take_add_one,ha69]; rfl)) MK78),trivial⟩
   omega
  have q65:=of_decide_eq_false b65
  refine Bx (k56 _ _ _ _ ?_)
  refine w_q rfl rfl fun K79 k79=>Arw (Ay TStep.f_gain Bht rfl rfl ty65 (by decide) h62_6 r26) fun v80 r80=>Arw (Ax ty65 rfl r80) fun v81 r81=>Arv (Bm (Avp r81) Bnw rfl rfl ⟨rfl,rfl,rfl,trivial⟩ ?_)
  refine l_v (Iy rfl) (Bmb (.bool (!(Ef a23.gain 0 1000000))) (Ak (gY rfl (not_t (Re.2 (by first | omega | (simp only; omega))))) (Ay TStep.f_loss Bht rfl rfl ty65 (by decide) h62_6 r26) fun v82 r82=>Ak (gY rfl (not_t (Re.2 (by first | omega | (simp only; omega))))) (Ax ty65 rfl r82) fun v83 r83=>Ae (gY rfl (not_t (Re.2 (by first | omega | (simp only; omega))))) (Bm (Avp r83) Bnw rfl rfl ⟨rfl,rfl,rfl,trivial⟩ ?_)))
  refine Aa (gY rfl (not_t (Re.2 (by first | omega | (simp only; omega))))) (Iy rfl) (l_v (Bn rfl (not_t (Re.2 (by first | omega | (simp only; omega)))) (v:=(.bool (!(Ef a23.loss 0 1000000)))) rfl) (l_k k79 (Cg rfl (not_t (Re.2 (by first | omega | (simp only; omega)))) (Al (k20 _ _ _ _ ?_)))))
  refine Ag rfl rfl (l_v (Br h62_20 rfl (z:=(((i + 1):Nat):Int)) wrE) (Bmb (iV ((((i + 1):Nat):Int))) (Bj (Bok l26) (Ac ?_))))
  refine ⟨_,?_,((i + 1)),(me62_0),(mc62_0),(me39_1),(mc39_1),rfl,rfl,rfl,rfl,h62_1,h62_3,h62_4,h62_18,h62_19,rfl,(by omega),(Auc ((by rw [Ayj ha23,List.take_of_length_le (by omega)])) p62_1),(Auc ((by rw [Ayv ha23])) mu61),trivial⟩
  omega
 have q19:=of_decide_eq_false b19
 refine Bx (k11 _ _ _ _ ?_)
 refine Asb rfl rfl fun K84 K85 k84 k85=>l_v (Ah (v:=(.map (some k9))) h16_3) (Avs ⟨Bon,fun _ h=>h⟩ rfl (Bhf Bli p16_1 rfl (List.mem_cons_of_mem _ (List.mem_cons_self ..))) (Arw (Ay TBook.f_piles Bhr rfl rfl Hw (by decide) h16_1 r2) fun v86 r86=>Arw (Ax Hw rfl r86) fun v87 r87=>?_))
 have g88:=Bop r87
 refine l_v (Ci (el:=9) Bhs rfl r87) (l_v (Da rfl rfl) (l_k k85 (Cg rfl (decide_eq_false (by have:=Ben ok; rw [show i = b.steps.length by omega]; omega)) (Al (k84 _ _ _ _ ?_)))))
 refine w_q rfl rfl fun K89 k89=>Bma (iV (0)) (l_k k89 (Aj Boj (Aj Boj (Aj (Bok l2) (Aq (hret _ _ _ ⟨rfl,rfl,eT (iV (0)) ?_⟩))))))
 rfl
theorem Aye {b:TBook} {vb:Value} (rb:Val ρ vb b) (ok:TBookOk b):CallsH (CX mn X) 71 #[vb] ρ σ (rP ρ σ (iV (0))):=by
 have hn10:=ok.nscales
 have hl12:=Awu ok
 refine Bh (n:=49) (args:=[vb]) [2] Tryz.func71 rfl rfl rfl rfl fun Q hret hnor=>w_q rfl rfl fun K1 k1=>Arv (Eb (v:=vb) rfl fun k2=>?_)
 refine Bb (a:=b) rb fun ρ2 l2 r2=>Bma (iV (0)) (Ary rfl rfl k1 fun K3 K4 k3 k4=>Arw (Ay TBook.f_hands Bhr rfl rfl Hw (by decide) rfl r2) fun v5 r5=>Arw (Ax Hw rfl r5) fun v6 r6=>Arv (Bm (Auj r6 ok.hands) Tryz.func120 rfl rfl ⟨rfl,rfl,trivial⟩ ?_))
 refine Bma (iV (0)) (Arx rfl rfl k4 fun K7 k7=>Bmb (iV (0)) (l_v (Dg rfl rfl) (l_k k7 (Cg rfl rfl (Al (k3 _ _ _ _ ?_))))))
 refine Asb rfl rfl fun K8 K9 k8 k9=>Arw (Ay TBook.f_piles Bhr rfl rfl Hw (by decide) rfl r2) fun v10 r10=>Arw (Ax Hw rfl r10) fun v11 r11=>Arv (Bm (Auj r11 ok.piles) Tryz.func120 rfl rfl ⟨rfl,rfl,trivial⟩ ?_)
 refine Bma (iV (0)) (Arx rfl rfl k9 fun K12 k12=>Bmb (iV (0)) (l_v (Dg rfl rfl) (l_k k12 (Cg rfl rfl (Al (k8 _ _ _ _ ?_))))))
 refine Asb rfl rfl fun K13 K14 k13 k14=>Arw (Ax Ath rfl r2) fun v15 r15=>Arv (Bm (Awr r15 ok) Tryz.func121 rfl rfl ⟨rfl,trivial⟩ ?_)
 refine Bma (iV (0)) (Arx rfl rfl k14 fun K16 k16=>Bmb (iV (0)) (l_v (Dg rfl rfl) (l_k k16 (Cg rfl rfl (Al (k13 _ _ _ _ ?_))))))
 refine Asb rfl rfl fun K17 K18 k17 k18=>Arw (Ay TBook.f_scales Bhr rfl rfl Asy (by decide) rfl r2) fun v19 r19=>Arw (Ax Asy rfl r19) fun v20 r20=>?_
 have g21:=Bop r20
 refine l_v (Ci (el:=180) Bib rfl r20) (l_v (Gl rfl rfl) (l_k k18 (Cg rfl (decide_eq_false (by omega)) (Al (k17 _ _ _ _ ?_)))))
 refine Asb rfl rfl fun K22 K23 k22 k23=>Arw (Ay TBook.f_scales Bhr rfl rfl Asy (by decide) rfl r2) fun v24 r24=>Arw (Ax Asy rfl r24) fun v25 r25=>?_
 have g26:=Bop r25
 refine l_v (Ci (el:=180) Bib rfl r25) (Bmb (iV (0)) (l_k k23 (Ao (Cc (fun mm ee dd ρ' σ'=>∃ (i:Nat),(b.scales.length - i) = mm∧[] = dd∧ρ2 = ρ'∧σ = σ'∧ee 1 = (.pointer (some ⟨k2,0,none⟩))∧ee 30 = v25∧ee 31 = (iV (((b.scales.length:Nat):Int)))∧ee 32 = (iV ((i:Int)))∧(i ≤ b.scales.length)∧True) (m:=_) ⟨0,rfl,rfl,rfl,rfl,rfl,rfl,rfl,rfl,(Nat.zero_le _),trivial⟩ ?_))))
 rintro m27 e27 _ _ _ ⟨i,rfl,rfl,rfl,rfl,h27_1,h27_30,h27_31,h27_32,p27_0,_⟩
 refine w_q rfl rfl fun K28 k28=>l_v (Da h27_32 h27_31) (Asa k28 fun K29 k29=>Up (t:=decide ((i:Int) < ((b.scales.length:Nat):Int))) rfl (fun b30=>?_) (fun b30=>?_))
 ·have q30:=of_decide_eq_true b30
  refine Al (k29 _ _ _ _ ?_)
  refine Ai fun K31 k31=>Ao (w_q rfl rfl fun K32 k32=>?_)
  obtain ⟨a34,ha34⟩:=Ed (xs:=b.scales) (i:=i) (by omega)
  have hsca34:=ok.scale i a34 ha34
  refine Arw (Ch i Bib Atn h27_30 r25 (q:=(i:Int)) h27_32 rfl ha34) fun v33 r33=>Arw (Ax Atn rfl r33) fun v35 r35=>Arv (Ct Avw fun k36=>?_)
  refine Cx rfl (Dv (v:=v35) (a:=a34) (c:=Bfl) Atn rfl rfl r35 rfl ?_)
  refine Bb (a:=a34) r35 fun ρ37 l37 r37=>?_
  replace r2:=At.mono l37 r2
  refine Ary rfl rfl k32 fun K38 K39 k38 k39=>Arw (Ay TScale.f_pile Bjb rfl rfl ty3 (by decide) rfl r37) fun v40 r40=>?_
  have ⟨g41a,g41b⟩:=At.rng r40
  refine l_v (Bc ty3 rfl r40) (Arw (Ay TBook.f_piles Bhr rfl rfl Hw (by decide) h27_1 r2) fun v42 r42=>Arw (Ax Hw rfl r42) fun v43 r43=>?_)
  have g44:=Bop r43
  refine l_v (Ci (el:=9) Bhs rfl r43) (l_v (Ou rfl rfl (z:=(((b.piles.length:Nat):Int) - 1)) wrE) (Arv (Bm (Atw) Bnb rfl rfl ⟨rfl,rfl,rfl,trivial⟩ ?_)))
  refine l_v (Iy rfl) (l_k k39 (Cg rfl (not_t (Fz.2 (by first | omega | (simp only; omega)))) (Al (k38 _ _ _ _ ?_))))
  refine w_q rfl rfl fun K45 k45=>Arw (Ay TScale.f_mass Bjb rfl rfl ty65 (by decide) rfl r37) fun v46 r46=>Arw (Ax ty65 rfl r46) fun v47 r47=>Arv (Bm (Avp r47) Bnw rfl rfl ⟨rfl,rfl,rfl,trivial⟩ ?_)
  refine l_v (Iy rfl) (l_k k45 (Cg rfl (not_t (Re.2 (by first | omega | (simp only; omega)))) (Al (k31 _ _ _ _ ?_))))
  refine Ag rfl rfl (l_v (Br h27_32 rfl (z:=(((i + 1):Nat):Int)) wrE) (Bmb (iV ((((i + 1):Nat):Int))) (Bj (Bok l37) (Ac ?_))))
  refine ⟨_,?_,((i + 1)),rfl,rfl,rfl,rfl,h27_1,h27_30,h27_31,rfl,(by omega),trivial⟩
  omega
 have q30:=of_decide_eq_false b30
 refine Bx (k22 _ _ _ _ ?_)
 refine w_q rfl rfl fun K48 k48=>Bma (iV (0)) (l_k k48 (Aj (Bok l2) (Aq (hret _ _ _ ⟨rfl,rfl,eT (iV (0)) ?_⟩))))
 rfl
end
section
open Go
section
variable {b:TBook} {i k:Nat} {lo hi:Int}
theorem Bfr {x:TScale} {p:Int} (hx:b.scales[k]? = some x) (h:Atq b p k = ⟨lo,hi⟩) (hp:x.pile = p):Atq b p (k + 1) = ⟨max lo x.mass.low,min hi x.mass.high⟩:=by rw [Bcr hx,if_pos hp,h]; rfl
theorem Beb {x:TScale} {p:Int} (hx:b.scales[k]? = some x) (h:Atq b p k = ⟨lo,hi⟩) (hp:x.pile ≠ p):Atq b p (k + 1) = ⟨lo,hi⟩:=by rw [Bcr hx,if_neg hp,h]
theorem Beu {n:Nat} (hb:Atq b (i:Int) b.scales.length = ⟨lo,hi⟩) (h:(i:Int) ∈ Ash b n):Atu b i ++ [(⟨⟨lo,hi⟩,((As b (i:Int):Nat):Int),(((if (i:Int) ∈ Ash b n then Ast b (i:Int) else 0:Nat):Nat):Int)⟩:Strm)] = Atu b (i + 1):=by
 rw [← Ayq,if_pos h,← hb]; rfl
theorem Bgo (hb:Atq b (i:Int) b.scales.length = ⟨lo,hi⟩) (h:(i:Int) ∉ Ash b b.steps.length):Atu b i ++ [(⟨⟨lo,hi⟩,((As b (i:Int):Nat):Int),((b.steps.length:Nat):Int)⟩:Strm)] = Atu b (i + 1):=by
 rw [← Ayq,← hb]; unfold Bbp; rw [Bez h]
theorem Azo {A:List Strm} {s:TStep} (hs:b.steps[i]? = some s):(A ++ glS b i) ++ [(⟨⟨s.gain.low,s.gain.high⟩,((b.steps.length:Nat):Int),(i:Int)⟩:Strm),(⟨⟨s.loss.low,s.loss.high⟩,(i:Int),((b.steps.length:Nat):Int)⟩:Strm)] = A ++ glS b (i + 1):=by
 rw [List.append_assoc]
 show _ = A ++ (glS b i ++ [Ayh b i,Ayi b i])
 unfold Ayh Ayi
 rw [Asu hs]
theorem Bck (ok:TBookOk b) (set i:Nat):-28000000 ≤ Asc ((Asi b).take i) set∧Asc ((Asi b).take i) set ≤ 28000000:=by
 have h:=Awb (n:=b.steps.length) (set:=set) (S:=(Asi b).take i) fun x hx=>by
  obtain ⟨j,hj⟩:=List.mem_iff_getElem?.1 (List.mem_of_mem_take hx)
  exact Axv ok hj
 have:=Auu ok
 have h2:((Asi b).take i).length ≤ 28:=by rw [List.length_take]; omega
 omega
theorem Azu {set fa ta:Nat}:Atl set (⟨⟨lo,hi⟩,(fa:Int),(ta:Int)⟩:Strm) = if Atd set fa ta = 1 then -hi else if Atd set fa ta = 2 then lo else 0:=rfl
theorem Bhc {set fa ta:Nat} (h:Atd set fa ta = 1):Atl set (⟨⟨lo,hi⟩,(fa:Int),(ta:Int)⟩:Strm) = -hi:=by rw [Azu,if_pos h]
theorem Bhd {set fa ta:Nat} (h1:Atd set fa ta ≠ 1) (h:Atd set fa ta = 2):Atl set (⟨⟨lo,hi⟩,(fa:Int),(ta:Int)⟩:Strm) = lo:=by rw [Azu,if_neg h1,if_pos h]
theorem Bhb {set fa ta:Nat} (h1:Atd set fa ta ≠ 1) (h:Atd set fa ta ≠ 2):Atl set (⟨⟨lo,hi⟩,(fa:Int),(ta:Int)⟩:Strm) = 0:=by rw [Azu,if_neg h1,if_neg h]
def Axj (x:Strm):Span:=⟨x.b.low,x.b.high⟩
theorem Bcd {S:List Strm} {x:Strm} (hx:S[i]? = some x):(S.take i).map Axj ++ [Axj x] = (S.take (i + 1)).map Axj:=by rw [List.take_add_one,hx]; simp
theorem Azt (ok:TBookOk b):1 <<< (b.steps.length + 1) ≤ 512:=by
 rw [Nat.shiftLeft_eq,Nat.one_mul]
 exact Nat.le_trans (Nat.pow_le_pow_right (by omega) (show b.steps.length + 1 ≤ 9 from by have:=ok.nsteps; omega)) (by decide)
end
section
variable {b:TBook} {m:List Int} {g x:Nat→Int} {o:List Span} {i set:Nat} {lo hi:Int} {fa ta:Nat} {z:Span}
theorem Bbn (ok:TBookOk b) (ht:Truth b m g x) (hs:Ato b m):Asx (Aut b m g x) (((Asi b).take (Asi b).length).map Axj):=by
 refine ⟨by rw [List.length_map,List.take_length,Axs],fun i z q hz hq=>?_⟩
 rw [List.take_length,List.getElem?_map,← Auh (m:=m) (g:=g) (x:=x),List.getElem?_map,hq] at hz
 cases hz
 have h1:=(Axu ok ht hs).low q (List.mem_of_getElem? hq)
 have h2:(Asi b)[i]? = some q.1:=by rw [← Auh (m:=m) (g:=g) (x:=x),List.getElem?_map,hq]; rfl
 obtain ⟨lo,hi,fa,ta,e,h3⟩:=Axv ok h2
 rw [e] at h1
 show 0 ≤ q.1.b.low∧q.1.b.low ≤ q.2∧q.2 ≤ q.1.b.high∧q.1.b.high ≤ 1000000
 rw [e]
 simp only at h1 ⊢
 omega
theorem Axk (ok:TBookOk b) (ht:Truth b m g x) (hs:Ato b m) (h:Asx (Aut b m g x) o) (hx:(Asi b)[i]? = some (⟨⟨lo,hi⟩,(fa:Int),(ta:Int)⟩:Strm)) (hz:o[i]? = some z) :
  (0 ≤ z.low∧z.low ≤ z.high∧z.high ≤ 1000000)∧(Atd set fa ta = 1→Asx (Aut b m g x) (o.set i (⟨max z.low (Asc (Asi b) set + hi),z.high⟩:Span)))∧(Atd set fa ta = 2→Asx (Aut b m g x) (o.set i (⟨z.low,min z.high (lo - Asc (Asi b) set)⟩:Span))):=by
 obtain ⟨v,hq⟩:=Bgc (Auh (b:=b) (m:=m) (g:=g) (x:=x)) hx
 have hb:=h.2 i z _ hz hq
 simp only at hb
 refine ⟨by omega,fun hc=>?_,fun hc=>?_⟩
 ·have hf:=Bga (Axu ok ht hs) (set:=set) (List.mem_of_getElem? hq) hc
  rw [Auh] at hf
  simp only at hf
  refine Ayr h fun q hq'=>?_
  rw [hq] at hq'; cases hq'
  simp only
  omega
 ·have hf:=Bel (Axu ok ht hs) (set:=set) (List.mem_of_getElem? hq) hc
  rw [Auh] at hf
  simp only at hf
  refine Ayr h fun q hq'=>?_
  rw [hq] at hq'; cases hq'
  simp only
  omega
end
theorem Bdx {ρ:Ro} {z:Span} {a:Int} (ha:I64 a) (cs:List Value) (h:Dat.rep ρ cs z):Dat.rep ρ (cs.set 0 (.int .i64 a)) (⟨a,z.high⟩:Span):=by
 obtain ⟨q0,r0,f0,⟨a0,b0⟩,hr⟩:=h
 subst f0 a0
 exact ⟨[.int .i64 a],r0,rfl,⟨rfl,ha⟩,hr⟩
theorem Bdy {ρ:Ro} {z:Span} {a:Int} (ha:I64 a) (cs:List Value) (h:Dat.rep ρ cs z):Dat.rep ρ (cs.set 1 (.int .i64 a)) (⟨z.low,a⟩:Span):=by
 obtain ⟨q0,r0,f0,⟨a0,b0⟩,⟨a1,b1⟩⟩:=h
 subst f0 a0 a1
 exact ⟨[.int .i64 z.low],[.int .i64 a],rfl,⟨rfl,b0⟩,⟨rfl,ha⟩⟩
theorem Bev {ρ:Ro} {α:Type} [Dat α] {xs:List α} {a:Option Addr} {len cap h:Nat} (hv:Val ρ (.slice a len cap) xs) (hh:h ≤ len):Val ρ (.slice (if h = 0 then a else a.map (·.add (0 * Dat.k α))) (h - 0) (h - 0)) (xs.take h):=by
 obtain ⟨a',len',cap',h1,h2,h3,h4,h5⟩:=Cs.1 hv
 cases h1
 refine Cs.2 ⟨_,_,_,rfl,by rw [List.length_take]; omega,by omega,by omega,fun i x hx=>?_⟩
 rw [List.getElem?_take] at hx
 split at hx
 ·obtain ⟨b,off,h6,h7⟩:=h5 _ x hx
  subst h6
  rw [if_neg (by omega)]
  exact ⟨b,off,by simp [Addr.add],h7⟩
 ·cases hx
theorem Bcl {P:Program} {ρ:Ro} {e:Env} {ty t:TypeId} {x y z:Operand} {v:Value} {α:Type} [Dat α] {xs:List α} {el:TypeId} {k:IntKind} {q:Int} (h:Nat) (hT:P.underlying t = some (.slice el)) (hE:GoTy P el α) (hx:Af e x = v) (hv:Val ρ v xs) (hy:Af e y = .int k q) (hz:Af e z = .int k q) (hq:q = (h:Int)) (hh:h ≤ xs.length) :
  ∃ w,Val ρ w (xs.take h)∧Yld P ρ e (.slice t x none (some y) (some z)) ty w:=by
 obtain ⟨a,len,cap,h1,h2,h3,h4,h5⟩:=Cs.1 hv
 subst h1
 refine ⟨_,Bev hv (by omega),Mt (s:=Instr.sliceAt t (Af e x) none (some (Af e y)) (some (Af e z))) (fun _ _ _ _=>rfl) fun ρ' σ _=>?_⟩
 rw [hx,hy,hz,hq]
 show wpS P ρ' ((underlying t).bind _) σ _
 rw [Ad]
 refine Az hT ?_
 show wpS P ρ' ((underlying t).bind _) σ _
 rw [Ad]
 refine Az hT ?_
 simp only []
 show wpS P ρ' ((Instr.sliceBounds true len cap none (some (.int k h)) (some (.int k h))).bind _) σ _
 have hb:Instr.sliceBounds true len cap none (some (.int k (h:Int))) (some (.int k (h:Int))) = pure (0,h,h):=by
  have e1:Instr.sliceBound (.int k (h:Int)) cap .slice3Acap = pure h:=by
   show (if 0 ≤ (h:Int)∧(h:Int) ≤ cap then pure (h:Int).toNat else _) = _
   rw [if_pos (by omega)]; simp
  have e2:Instr.sliceBound (.int k (h:Int)) h .slice3B = pure h:=by
   show (if 0 ≤ (h:Int)∧(h:Int) ≤ h then pure (h:Int).toNat else _) = _
   rw [if_pos (by omega)]; simp
  show (Instr.sliceBound (.int k (h:Int)) cap .slice3Acap).bind _ = _
  rw [e1]
  show (Instr.sliceBound (.int k (h:Int)) h .slice3B).bind _ = _
  rw [e2]; rfl
 rw [hb]
 show wpS P ρ' ((sizeOf el).bind _) σ _
 rw [Ad]
 exact Dx hE.info ⟨rfl,rfl⟩
end
end Go.Proofs.YtphgjjmlnkgghaaGreatDoor
