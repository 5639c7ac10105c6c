/- Part 5 of what all laws of layer 8 need: a logic of programs that start goroutines, and what the functions yield. -/
import Derived.Test.YtphgjjmlnkgghaaGreatDoorB4
set_option linter.unusedVariables false
set_option linter.unusedSimpArgs false
set_option maxRecDepth 100000
namespace Go.Proofs.YtphgjjmlnkgghaaGreatDoor
section
open Go
theorem Asl {α β:Type} [Dat α] [Dat β] {ρ:Ro} {c1 c2:List Value} {a:α} {b:β} (h1:Dat.rep ρ c1 a) (h2:Dat.rep ρ c2 b):Dat.rep ρ (c1 ++ c2) (a,b):=⟨c1,c2,rfl,h1,h2⟩
theorem Asv {ρ:Ro} {a:Int} (h:I64 a):Dat.rep ρ [.int .i64 a] a:=⟨rfl,h⟩
theorem Auq {α:Type} [Dat α] {ρ:Ro} {c:Value} {a:List α} (h:Val ρ c a):Dat.rep ρ [c] a:=⟨c,rfl,Cs.1 h⟩
theorem Blu {ρ:Ro} {c:Value} {a:MapRef} (h:Val ρ c a):Dat.rep ρ [c] a:=by
 obtain ⟨cs,h1,h2⟩:=h
 have h3:cs = [.map (some a.r)]:=h1
 subst h3; subst h2; exact h1
structure WTurn where
 holder:Int
 hours:Int
deriving DecidableEq
instance:Dat WTurn:=.iso fun x=>(x.holder,x.hours)
theorem WTurn.f_holder:Fld WTurn (Int) 0 WTurn.holder:=⟨fun ρ cs x=>(Fld.fst:Fld ((Int) × (Int)) (Int) 0 _).at_ ρ cs (x.holder,x.hours)⟩
theorem WTurn.f_hours:Fld WTurn (Int) 1 WTurn.hours:=⟨fun ρ cs x=>((.snd Fld.self):Fld ((Int) × (Int)) (Int) 1 _).at_ ρ cs (x.holder,x.hours)⟩
theorem WTurn.open_ {ρ:Ro} {v:Value} {x:WTurn} (h:Val ρ v x):v = .agg #[.int .i64 x.holder,.int .i64 x.hours]∧I64 x.holder∧I64 x.hours:=by
 obtain ⟨cs,⟨q0,r0,f0,⟨a1,b1⟩,⟨a2,b2⟩⟩,hv⟩:=h
 subst f0
 subst a1
 subst a2
 exact ⟨hv,b1,b2⟩
theorem WTurn.shut {ρ:Ro} {x:WTurn} (h0:I64 x.holder) (h1:I64 x.hours):Val ρ (.agg #[.int .i64 x.holder,.int .i64 x.hours]) x:=⟨[.int .i64 x.holder,.int .i64 x.hours],⟨[.int .i64 x.holder],[.int .i64 x.hours],rfl,⟨rfl,h0⟩,⟨rfl,h1⟩⟩,rfl⟩
structure WSwap where
 cycle:Int
 a:Int
 b:Int
deriving DecidableEq
instance:Dat WSwap:=.iso fun x=>(x.cycle,(x.a,x.b))
theorem WSwap.f_cycle:Fld WSwap (Int) 0 WSwap.cycle:=⟨fun ρ cs x=>(Fld.fst:Fld ((Int) × (Int) × (Int)) (Int) 0 _).at_ ρ cs (x.cycle,(x.a,x.b))⟩
theorem WSwap.f_a:Fld WSwap (Int) 1 WSwap.a:=⟨fun ρ cs x=>((.snd Fld.fst):Fld ((Int) × (Int) × (Int)) (Int) 1 _).at_ ρ cs (x.cycle,(x.a,x.b))⟩
theorem WSwap.f_b:Fld WSwap (Int) 2 WSwap.b:=⟨fun ρ cs x=>((.snd (.snd Fld.self)):Fld ((Int) × (Int) × (Int)) (Int) 2 _).at_ ρ cs (x.cycle,(x.a,x.b))⟩
theorem WSwap.open_ {ρ:Ro} {v:Value} {x:WSwap} (h:Val ρ v x):v = .agg #[.int .i64 x.cycle,.int .i64 x.a,.int .i64 x.b]∧I64 x.cycle∧I64 x.a∧I64 x.b:=by
 obtain ⟨cs,⟨q0,r0,f0,⟨a1,b1⟩,⟨q2,r2,f2,⟨a3,b3⟩,⟨a4,b4⟩⟩⟩,hv⟩:=h
 subst f0
 subst f2
 subst a1
 subst a3
 subst a4
 exact ⟨hv,b1,b3,b4⟩
theorem WSwap.shut {ρ:Ro} {x:WSwap} (h0:I64 x.cycle) (h1:I64 x.a) (h2:I64 x.b):Val ρ (.agg #[.int .i64 x.cycle,.int .i64 x.a,.int .i64 x.b]) x:=⟨[.int .i64 x.cycle,.int .i64 x.a,.int .i64 x.b],⟨[.int .i64 x.cycle],([.int .i64 x.a] ++ [.int .i64 x.b]),rfl,⟨rfl,h0⟩,⟨[.int .i64 x.a],[.int .i64 x.b],rfl,⟨rfl,h1⟩,⟨rfl,h2⟩⟩⟩,rfl⟩
structure WLoan where
 cycle:Int
 turn:Int
 to:Int
deriving DecidableEq
instance:Dat WLoan:=.iso fun x=>(x.cycle,(x.turn,x.to))
theorem WLoan.f_cycle:Fld WLoan (Int) 0 WLoan.cycle:=⟨fun ρ cs x=>(Fld.fst:Fld ((Int) × (Int) × (Int)) (Int) 0 _).at_ ρ cs (x.cycle,(x.turn,x.to))⟩
theorem WLoan.f_turn:Fld WLoan (Int) 1 WLoan.turn:=⟨fun ρ cs x=>((.snd Fld.fst):Fld ((Int) × (Int) × (Int)) (Int) 1 _).at_ ρ cs (x.cycle,(x.turn,x.to))⟩
theorem WLoan.f_to:Fld WLoan (Int) 2 WLoan.to:=⟨fun ρ cs x=>((.snd (.snd Fld.self)):Fld ((Int) × (Int) × (Int)) (Int) 2 _).at_ ρ cs (x.cycle,(x.turn,x.to))⟩
theorem WLoan.open_ {ρ:Ro} {v:Value} {x:WLoan} (h:Val ρ v x):v = .agg #[.int .i64 x.cycle,.int .i64 x.turn,.int .i64 x.to]∧I64 x.cycle∧I64 x.turn∧I64 x.to:=by
 obtain ⟨cs,⟨q0,r0,f0,⟨a1,b1⟩,⟨q2,r2,f2,⟨a3,b3⟩,⟨a4,b4⟩⟩⟩,hv⟩:=h
 subst f0
 subst f2
 subst a1
 subst a3
 subst a4
 exact ⟨hv,b1,b3,b4⟩
theorem WLoan.shut {ρ:Ro} {x:WLoan} (h0:I64 x.cycle) (h1:I64 x.turn) (h2:I64 x.to):Val ρ (.agg #[.int .i64 x.cycle,.int .i64 x.turn,.int .i64 x.to]) x:=⟨[.int .i64 x.cycle,.int .i64 x.turn,.int .i64 x.to],⟨[.int .i64 x.cycle],([.int .i64 x.turn] ++ [.int .i64 x.to]),rfl,⟨rfl,h0⟩,⟨[.int .i64 x.turn],[.int .i64 x.to],rfl,⟨rfl,h1⟩,⟨rfl,h2⟩⟩⟩,rfl⟩
structure WPlot where
 name:ByteArray
 holder:Int
 far:Int
 needs:Span
 worth:Int
deriving DecidableEq
instance:Dat WPlot:=.iso fun x=>(x.name,(x.holder,(x.far,(x.needs,x.worth))))
theorem WPlot.f_name:Fld WPlot (ByteArray) 0 WPlot.name:=⟨fun ρ cs x=>(Fld.fst:Fld ((ByteArray) × (Int) × (Int) × (Span) × (Int)) (ByteArray) 0 _).at_ ρ cs (x.name,(x.holder,(x.far,(x.needs,x.worth))))⟩
theorem WPlot.f_holder:Fld WPlot (Int) 1 WPlot.holder:=⟨fun ρ cs x=>((.snd Fld.fst):Fld ((ByteArray) × (Int) × (Int) × (Span) × (Int)) (Int) 1 _).at_ ρ cs (x.name,(x.holder,(x.far,(x.needs,x.worth))))⟩
theorem WPlot.f_far:Fld WPlot (Int) 2 WPlot.far:=⟨fun ρ cs x=>((.snd (.snd Fld.fst)):Fld ((ByteArray) × (Int) × (Int) × (Span) × (Int)) (Int) 2 _).at_ ρ cs (x.name,(x.holder,(x.far,(x.needs,x.worth))))⟩
theorem WPlot.f_needs:Fld WPlot (Span) 3 WPlot.needs:=⟨fun ρ cs x=>((.snd (.snd (.snd Fld.fst))):Fld ((ByteArray) × (Int) × (Int) × (Span) × (Int)) (Span) 3 _).at_ ρ cs (x.name,(x.holder,(x.far,(x.needs,x.worth))))⟩
theorem WPlot.f_worth:Fld WPlot (Int) 5 WPlot.worth:=⟨fun ρ cs x=>((.snd (.snd (.snd (.snd Fld.self)))):Fld ((ByteArray) × (Int) × (Int) × (Span) × (Int)) (Int) 5 _).at_ ρ cs (x.name,(x.holder,(x.far,(x.needs,x.worth))))⟩
theorem WPlot.open_ {ρ:Ro} {v:Value} {x:WPlot} (h:Val ρ v x):v = .agg #[.string x.name,.int .i64 x.holder,.int .i64 x.far,.int .i64 x.needs.low,.int .i64 x.needs.high,.int .i64 x.worth]∧x.name.size < 2 ^ 60∧I64 x.holder∧I64 x.far∧I64 x.needs.low∧I64 x.needs.high∧I64 x.worth:=by
 obtain ⟨cs,⟨q0,r0,f0,⟨a1,b1⟩,⟨q2,r2,f2,⟨a3,b3⟩,⟨q4,r4,f4,⟨a5,b5⟩,⟨q6,r6,f6,⟨q7,r7,f7,⟨a8,b8⟩,⟨a9,b9⟩⟩,⟨a10,b10⟩⟩⟩⟩⟩,hv⟩:=h
 subst f0
 subst f2
 subst f4
 subst f7
 subst f6
 subst a1
 subst a3
 subst a5
 subst a8
 subst a9
 subst a10
 exact ⟨hv,b1,b3,b5,b8,b9,b10⟩
theorem WPlot.shut {ρ:Ro} {x:WPlot} (h0:x.name.size < 2 ^ 60) (h1:I64 x.holder) (h2:I64 x.far) (h3:I64 x.needs.low) (h4:I64 x.needs.high) (h5:I64 x.worth):Val ρ (.agg #[.string x.name,.int .i64 x.holder,.int .i64 x.far,.int .i64 x.needs.low,.int .i64 x.needs.high,.int .i64 x.worth]) x:=⟨[.string x.name,.int .i64 x.holder,.int .i64 x.far,.int .i64 x.needs.low,.int .i64 x.needs.high,.int .i64 x.worth],⟨[.string x.name],([.int .i64 x.holder] ++ ([.int .i64 x.far] ++ (([.int .i64 x.needs.low] ++ [.int .i64 x.needs.high]) ++ [.int .i64 x.worth]))),rfl,⟨rfl,h0⟩,⟨[.int .i64 x.holder],([.int .i64 x.far] ++ (([.int .i64 x.needs.low] ++ [.int .i64 x.needs.high]) ++ [.int .i64 x.worth])),rfl,⟨rfl,h1⟩,⟨[.int .i64 x.far],(([.int .i64 x.needs.low] ++ [.int .i64 x.needs.high]) ++ [.int .i64 x.worth]),rfl,⟨rfl,h2⟩,⟨([.int .i64 x.needs.low] ++ [.int .i64 x.needs.high]),[.int .i64 x.worth],rfl,⟨[.int .i64 x.needs.low],[.int .i64 x.needs.high],rfl,⟨rfl,h3⟩,⟨rfl,h4⟩⟩,⟨rfl,h5⟩⟩⟩⟩⟩,rfl⟩
structure Ditch where
 holders:List ByteArray
 turns:List WTurn
 begin_:Int
 week:Int
 restFrom:Int
 restLong:Int
 feasts:List Span
 swaps:List WSwap
 loans:List WLoan
 flow:Span
 loss:Span
 plots:List WPlot
deriving DecidableEq
instance:Dat Ditch:=.iso fun x=>(x.holders,(x.turns,(x.begin_,(x.week,(x.restFrom,(x.restLong,(x.feasts,(x.swaps,(x.loans,(x.flow,(x.loss,x.plots)))))))))))
theorem Ditch.f_holders:Fld Ditch (List ByteArray) 0 Ditch.holders:=⟨fun ρ cs x=>(Fld.fst:Fld ((List ByteArray) × (List WTurn) × (Int) × (Int) × (Int) × (Int) × (List Span) × (List WSwap) × (List WLoan) × (Span) × (Span) × (List WPlot)) (List ByteArray) 0 _).at_ ρ cs (x.holders,(x.turns,(x.begin_,(x.week,(x.restFrom,(x.restLong,(x.feasts,(x.swaps,(x.loans,(x.flow,(x.loss,x.plots)))))))))))⟩
theorem Ditch.f_turns:Fld Ditch (List WTurn) 1 Ditch.turns:=⟨fun ρ cs x=>((.snd Fld.fst):Fld ((List ByteArray) × (List WTurn) × (Int) × (Int) × (Int) × (Int) × (List Span) × (List WSwap) × (List WLoan) × (Span) × (Span) × (List WPlot)) (List WTurn) 1 _).at_ ρ cs (x.holders,(x.turns,(x.begin_,(x.week,(x.restFrom,(x.restLong,(x.feasts,(x.swaps,(x.loans,(x.flow,(x.loss,x.plots)))))))))))⟩
theorem Ditch.f_begin_:Fld Ditch (Int) 2 Ditch.begin_:=⟨fun ρ cs x=>((.snd (.snd Fld.fst)):Fld ((List ByteArray) × (List WTurn) × (Int) × (Int) × (Int) × (Int) × (List Span) × (List WSwap) × (List WLoan) × (Span) × (Span) × (List WPlot)) (Int) 2 _).at_ ρ cs (x.holders,(x.turns,(x.begin_,(x.week,(x.restFrom,(x.restLong,(x.feasts,(x.swaps,(x.loans,(x.flow,(x.loss,x.plots)))))))))))⟩
theorem Ditch.f_week:Fld Ditch (Int) 3 Ditch.week:=⟨fun ρ cs x=>((.snd (.snd (.snd Fld.fst))):Fld ((List ByteArray) × (List WTurn) × (Int) × (Int) × (Int) × (Int) × (List Span) × (List WSwap) × (List WLoan) × (Span) × (Span) × (List WPlot)) (Int) 3 _).at_ ρ cs (x.holders,(x.turns,(x.begin_,(x.week,(x.restFrom,(x.restLong,(x.feasts,(x.swaps,(x.loans,(x.flow,(x.loss,x.plots)))))))))))⟩
theorem Ditch.f_restFrom:Fld Ditch (Int) 4 Ditch.restFrom:=⟨fun ρ cs x=>((.snd (.snd (.snd (.snd Fld.fst)))):Fld ((List ByteArray) × (List WTurn) × (Int) × (Int) × (Int) × (Int) × (List Span) × (List WSwap) × (List WLoan) × (Span) × (Span) × (List WPlot)) (Int) 4 _).at_ ρ cs (x.holders,(x.turns,(x.begin_,(x.week,(x.restFrom,(x.restLong,(x.feasts,(x.swaps,(x.loans,(x.flow,(x.loss,x.plots)))))))))))⟩
theorem Ditch.f_restLong:Fld Ditch (Int) 5 Ditch.restLong:=⟨fun ρ cs x=>((.snd (.snd (.snd (.snd (.snd Fld.fst))))):Fld ((List ByteArray) × (List WTurn) × (Int) × (Int) × (Int) × (Int) × (List Span) × (List WSwap) × (List WLoan) × (Span) × (Span) × (List WPlot)) (Int) 5 _).at_ ρ cs (x.holders,(x.turns,(x.begin_,(x.week,(x.restFrom,(x.restLong,(x.feasts,(x.swaps,(x.loans,(x.flow,(x.loss,x.plots)))))))))))⟩
theorem Ditch.f_feasts:Fld Ditch (List Span) 6 Ditch.feasts:=⟨fun ρ cs x=>((.snd (.snd (.snd (.snd (.snd (.snd Fld.fst)))))):Fld ((List ByteArray) × (List WTurn) × (Int) × (Int) × (Int) × (Int) × (List Span) × (List WSwap) × (List WLoan) × (Span) × (Span) × (List WPlot)) (List Span) 6 _).at_ ρ cs (x.holders,(x.turns,(x.begin_,(x.week,(x.restFrom,(x.restLong,(x.feasts,(x.swaps,(x.loans,(x.flow,(x.loss,x.plots)))))))))))⟩
theorem Ditch.f_swaps:Fld Ditch (List WSwap) 7 Ditch.swaps:=⟨fun ρ cs x=>((.snd (.snd (.snd (.snd (.snd (.snd (.snd Fld.fst))))))):Fld ((List ByteArray) × (List WTurn) × (Int) × (Int) × (Int) × (Int) × (List Span) × (List WSwap) × (List WLoan) × (Span) × (Span) × (List WPlot)) (List WSwap) 7 _).at_ ρ cs (x.holders,(x.turns,(x.begin_,(x.week,(x.restFrom,(x.restLong,(x.feasts,(x.swaps,(x.loans,(x.flow,(x.loss,x.plots)))))))))))⟩
theorem Ditch.f_loans:Fld Ditch (List WLoan) 8 Ditch.loans:=⟨fun ρ cs x=>((.snd (.snd (.snd (.snd (.snd (.snd (.snd (.snd Fld.fst)))))))):Fld ((List ByteArray) × (List WTurn) × (Int) × (Int) × (Int) × (Int) × (List Span) × (List WSwap) × (List WLoan) × (Span) × (Span) × (List WPlot)) (List WLoan) 8 _).at_ ρ cs (x.holders,(x.turns,(x.begin_,(x.week,(x.restFrom,(x.restLong,(x.feasts,(x.swaps,(x.loans,(x.flow,(x.loss,x.plots)))))))))))⟩
theorem Ditch.f_flow:Fld Ditch (Span) 9 Ditch.flow:=⟨fun ρ cs x=>((.snd (.snd (.snd (.snd (.snd (.snd (.snd (.snd (.snd Fld.fst))))))))):Fld ((List ByteArray) × (List WTurn) × (Int) × (Int) × (Int) × (Int) × (List Span) × (List WSwap) × (List WLoan) × (Span) × (Span) × (List WPlot)) (Span) 9 _).at_ ρ cs (x.holders,(x.turns,(x.begin_,(x.week,(x.restFrom,(x.restLong,(x.feasts,(x.swaps,(x.loans,(x.flow,(x.loss,x.plots)))))))))))⟩
theorem Ditch.f_loss:Fld Ditch (Span) 11 Ditch.loss:=⟨fun ρ cs x=>((.snd (.snd (.snd (.snd (.snd (.snd (.snd (.snd (.snd (.snd Fld.fst)))))))))):Fld ((List ByteArray) × (List WTurn) × (Int) × (Int) × (Int) × (Int) × (List Span) × (List WSwap) × (List WLoan) × (Span) × (Span) × (List WPlot)) (Span) 11 _).at_ ρ cs (x.holders,(x.turns,(x.begin_,(x.week,(x.restFrom,(x.restLong,(x.feasts,(x.swaps,(x.loans,(x.flow,(x.loss,x.plots)))))))))))⟩
theorem Ditch.f_plots:Fld Ditch (List WPlot) 13 Ditch.plots:=⟨fun ρ cs x=>((.snd (.snd (.snd (.snd (.snd (.snd (.snd (.snd (.snd (.snd (.snd Fld.self))))))))))):Fld ((List ByteArray) × (List WTurn) × (Int) × (Int) × (Int) × (Int) × (List Span) × (List WSwap) × (List WLoan) × (Span) × (Span) × (List WPlot)) (List WPlot) 13 _).at_ ρ cs (x.holders,(x.turns,(x.begin_,(x.week,(x.restFrom,(x.restLong,(x.feasts,(x.swaps,(x.loans,(x.flow,(x.loss,x.plots)))))))))))⟩
theorem Ditch.open_ {ρ:Ro} {v:Value} {x:Ditch} (h:Val ρ v x):∃ c0 c1 c2 c3 c4 c5,v = .agg #[c0,c1,.int .i64 x.begin_,.int .i64 x.week,.int .i64 x.restFrom,.int .i64 x.restLong,c2,c3,c4,.int .i64 x.flow.low,.int .i64 x.flow.high,.int .i64 x.loss.low,.int .i64 x.loss.high,c5]∧Val ρ c0 x.holders∧Val ρ c1 x.turns∧I64 x.begin_∧I64 x.week∧I64 x.restFrom∧I64 x.restLong∧Val ρ c2 x.feasts∧Val ρ c3 x.swaps∧Val ρ c4 x.loans∧I64 x.flow.low∧I64 x.flow.high∧I64 x.loss.low∧I64 x.loss.high∧Val ρ c5 x.plots:=by
 obtain ⟨cs,⟨q0,r0,f0,⟨w1,a1,b1⟩,⟨q2,r2,f2,⟨w3,a3,b3⟩,⟨q4,r4,f4,⟨a5,b5⟩,⟨q6,r6,f6,⟨a7,b7⟩,⟨q8,r8,f8,⟨a9,b9⟩,⟨q10,r10,f10,⟨a11,b11⟩,⟨q12,r12,f12,⟨w13,a13,b13⟩,⟨q14,r14,f14,⟨w15,a15,b15⟩,⟨q16,r16,f16,⟨w17,a17,b17⟩,⟨q18,r18,f18,⟨q19,r19,f19,⟨a20,b20⟩,⟨a21,b21⟩⟩,⟨q22,r22,f22,⟨q23,r23,f23,⟨a24,b24⟩,⟨a25,b25⟩⟩,⟨w26,a26,b26⟩⟩⟩⟩⟩⟩⟩⟩⟩⟩⟩⟩,hv⟩:=h
 subst f0
 subst f2
 subst f4
 subst f6
 subst f8
 subst f10
 subst f12
 subst f14
 subst f16
 subst f19
 subst f18
 subst f23
 subst f22
 subst a1
 subst a3
 subst a5
 subst a7
 subst a9
 subst a11
 subst a13
 subst a15
 subst a17
 subst a20
 subst a21
 subst a24
 subst a25
 subst a26
 exact ⟨w1,w3,w13,w15,w17,w26,hv,Cs.2 b1,Cs.2 b3,b5,b7,b9,b11,Cs.2 b13,Cs.2 b15,Cs.2 b17,b20,b21,b24,b25,Cs.2 b26⟩
theorem Ditch.shut {ρ:Ro} {x:Ditch} {c0 c1 c2 c3 c4 c5:Value} (h0:Val ρ c0 x.holders) (h1:Val ρ c1 x.turns) (h2:I64 x.begin_) (h3:I64 x.week) (h4:I64 x.restFrom) (h5:I64 x.restLong) (h6:Val ρ c2 x.feasts) (h7:Val ρ c3 x.swaps) (h8:Val ρ c4 x.loans) (h9:I64 x.flow.low) (h10:I64 x.flow.high) (h11:I64 x.loss.low) (h12:I64 x.loss.high) (h13:Val ρ c5 x.plots):Val ρ (.agg #[c0,c1,.int .i64 x.begin_,.int .i64 x.week,.int .i64 x.restFrom,.int .i64 x.restLong,c2,c3,c4,.int .i64 x.flow.low,.int .i64 x.flow.high,.int .i64 x.loss.low,.int .i64 x.loss.high,c5]) x:=⟨_,(show Dat.rep ρ _ (x.holders,(x.turns,(x.begin_,(x.week,(x.restFrom,(x.restLong,(x.feasts,(x.swaps,(x.loans,(x.flow,(x.loss,x.plots))))))))))) from (Asl (Auq h0) (Asl (Auq h1) (Asl (Asv h2) (Asl (Asv h3) (Asl (Asv h4) (Asl (Asv h5) (Asl (Auq h6) (Asl (Auq h7) (Asl (Auq h8) (Asl (show Dat.rep ρ _ x.flow from (Asl (Asv h9) (Asv h10))) (Asl (show Dat.rep ρ _ x.loss from (Asl (Asv h11) (Asv h12))) (Auq h13))))))))))))),rfl⟩
structure WOpen where
 holder:Int
 from_:Int
 till:Int
deriving DecidableEq
instance:Dat WOpen:=.iso fun x=>(x.holder,(x.from_,x.till))
theorem WOpen.f_holder:Fld WOpen (Int) 0 WOpen.holder:=⟨fun ρ cs x=>(Fld.fst:Fld ((Int) × (Int) × (Int)) (Int) 0 _).at_ ρ cs (x.holder,(x.from_,x.till))⟩
theorem WOpen.open_ {ρ:Ro} {v:Value} {x:WOpen} (h:Val ρ v x):v = .agg #[.int .i64 x.holder,.int .i64 x.from_,.int .i64 x.till]∧I64 x.holder∧I64 x.from_∧I64 x.till:=by
 obtain ⟨cs,⟨q0,r0,f0,⟨a1,b1⟩,⟨q2,r2,f2,⟨a3,b3⟩,⟨a4,b4⟩⟩⟩,hv⟩:=h
 subst f0
 subst f2
 subst a1
 subst a3
 subst a4
 exact ⟨hv,b1,b3,b4⟩
theorem WOpen.shut {ρ:Ro} {x:WOpen} (h0:I64 x.holder) (h1:I64 x.from_) (h2:I64 x.till):Val ρ (.agg #[.int .i64 x.holder,.int .i64 x.from_,.int .i64 x.till]) x:=⟨[.int .i64 x.holder,.int .i64 x.from_,.int .i64 x.till],⟨[.int .i64 x.holder],([.int .i64 x.from_] ++ [.int .i64 x.till]),rfl,⟨rfl,h0⟩,⟨[.int .i64 x.from_],[.int .i64 x.till],rfl,⟨rfl,h1⟩,⟨rfl,h2⟩⟩⟩,rfl⟩
structure WLog where
 clock:Span
 openings:List WOpen
deriving DecidableEq
instance:Dat WLog:=.iso fun x=>(x.clock,x.openings)
theorem WLog.f_openings:Fld WLog (List WOpen) 2 WLog.openings:=⟨fun ρ cs x=>((.snd Fld.self):Fld ((Span) × (List WOpen)) (List WOpen) 2 _).at_ ρ cs (x.clock,x.openings)⟩
theorem WLog.open_ {ρ:Ro} {v:Value} {x:WLog} (h:Val ρ v x):∃ c0,v = .agg #[.int .i64 x.clock.low,.int .i64 x.clock.high,c0]∧I64 x.clock.low∧I64 x.clock.high∧Val ρ c0 x.openings:=by
 obtain ⟨cs,⟨q0,r0,f0,⟨q1,r1,f1,⟨a2,b2⟩,⟨a3,b3⟩⟩,⟨w4,a4,b4⟩⟩,hv⟩:=h
 subst f1
 subst f0
 subst a2
 subst a3
 subst a4
 exact ⟨w4,hv,b2,b3,Cs.2 b4⟩
theorem WLog.shut {ρ:Ro} {x:WLog} {c0:Value} (h0:I64 x.clock.low) (h1:I64 x.clock.high) (h2:Val ρ c0 x.openings):Val ρ (.agg #[.int .i64 x.clock.low,.int .i64 x.clock.high,c0]) x:=⟨[.int .i64 x.clock.low,.int .i64 x.clock.high,c0],⟨([.int .i64 x.clock.low] ++ [.int .i64 x.clock.high]),[c0],rfl,⟨[.int .i64 x.clock.low],[.int .i64 x.clock.high],rfl,⟨rfl,h0⟩,⟨rfl,h1⟩⟩,⟨c0,rfl,Cs.1 h2⟩⟩,rfl⟩
structure DitchP where
 d:Ditch
deriving DecidableEq
instance:Dat DitchP:=.iso fun x=>x.d
theorem DitchP.f_d:Fld DitchP (Ditch) 0 DitchP.d:=⟨fun ρ cs x=>(Fld.self:Fld ((Ditch)) (Ditch) 0 _).at_ ρ cs x.d⟩
theorem DitchP.open_ {ρ:Ro} {v:Value} {x:DitchP} (h:Val ρ v x):∃ c0 c1 c2 c3 c4 c5,v = .agg #[c0,c1,.int .i64 x.d.begin_,.int .i64 x.d.week,.int .i64 x.d.restFrom,.int .i64 x.d.restLong,c2,c3,c4,.int .i64 x.d.flow.low,.int .i64 x.d.flow.high,.int .i64 x.d.loss.low,.int .i64 x.d.loss.high,c5]∧Val ρ c0 x.d.holders∧Val ρ c1 x.d.turns∧I64 x.d.begin_∧I64 x.d.week∧I64 x.d.restFrom∧I64 x.d.restLong∧Val ρ c2 x.d.feasts∧Val ρ c3 x.d.swaps∧Val ρ c4 x.d.loans∧I64 x.d.flow.low∧I64 x.d.flow.high∧I64 x.d.loss.low∧I64 x.d.loss.high∧Val ρ c5 x.d.plots:=by
 obtain ⟨cs,⟨q0,r0,f0,⟨w1,a1,b1⟩,⟨q2,r2,f2,⟨w3,a3,b3⟩,⟨q4,r4,f4,⟨a5,b5⟩,⟨q6,r6,f6,⟨a7,b7⟩,⟨q8,r8,f8,⟨a9,b9⟩,⟨q10,r10,f10,⟨a11,b11⟩,⟨q12,r12,f12,⟨w13,a13,b13⟩,⟨q14,r14,f14,⟨w15,a15,b15⟩,⟨q16,r16,f16,⟨w17,a17,b17⟩,⟨q18,r18,f18,⟨q19,r19,f19,⟨a20,b20⟩,⟨a21,b21⟩⟩,⟨q22,r22,f22,⟨q23,r23,f23,⟨a24,b24⟩,⟨a25,b25⟩⟩,⟨w26,a26,b26⟩⟩⟩⟩⟩⟩⟩⟩⟩⟩⟩⟩,hv⟩:=h
 subst f0
 subst f2
 subst f4
 subst f6
 subst f8
 subst f10
 subst f12
 subst f14
 subst f16
 subst f19
 subst f18
 subst f23
 subst f22
 subst a1
 subst a3
 subst a5
 subst a7
 subst a9
 subst a11
 subst a13
 subst a15
 subst a17
 subst a20
 subst a21
 subst a24
 subst a25
 subst a26
 exact ⟨w1,w3,w13,w15,w17,w26,hv,Cs.2 b1,Cs.2 b3,b5,b7,b9,b11,Cs.2 b13,Cs.2 b15,Cs.2 b17,b20,b21,b24,b25,Cs.2 b26⟩
theorem DitchP.shut {ρ:Ro} {x:DitchP} {c0 c1 c2 c3 c4 c5:Value} (h0:Val ρ c0 x.d.holders) (h1:Val ρ c1 x.d.turns) (h2:I64 x.d.begin_) (h3:I64 x.d.week) (h4:I64 x.d.restFrom) (h5:I64 x.d.restLong) (h6:Val ρ c2 x.d.feasts) (h7:Val ρ c3 x.d.swaps) (h8:Val ρ c4 x.d.loans) (h9:I64 x.d.flow.low) (h10:I64 x.d.flow.high) (h11:I64 x.d.loss.low) (h12:I64 x.d.loss.high) (h13:Val ρ c5 x.d.plots):Val ρ (.agg #[c0,c1,.int .i64 x.d.begin_,.int .i64 x.d.week,.int .i64 x.d.restFrom,.int .i64 x.d.restLong,c2,c3,c4,.int .i64 x.d.flow.low,.int .i64 x.d.flow.high,.int .i64 x.d.loss.low,.int .i64 x.d.loss.high,c5]) x:=⟨_,(show Dat.rep ρ _ x.d from (show Dat.rep ρ _ x.d from (Asl (Auq h0) (Asl (Auq h1) (Asl (Asv h2) (Asl (Asv h3) (Asl (Asv h4) (Asl (Asv h5) (Asl (Auq h6) (Asl (Auq h7) (Asl (Auq h8) (Asl (show Dat.rep ρ _ x.d.flow from (Asl (Asv h9) (Asv h10))) (Asl (show Dat.rep ρ _ x.d.loss from (Asl (Asv h11) (Asv h12))) (Auq h13)))))))))))))),rfl⟩
structure Ends where
 e0:Int
 e1:Int
 e2:Int
 e3:Int
 e4:Int
 e5:Int
 e6:Int
 e7:Int
 e8:Int
 e9:Int
 e10:Int
 e11:Int
deriving DecidableEq
instance:Dat Ends:=.iso fun x=>(x.e0,(x.e1,(x.e2,(x.e3,(x.e4,(x.e5,(x.e6,(x.e7,(x.e8,(x.e9,(x.e10,x.e11)))))))))))
theorem Ends.open_ {ρ:Ro} {v:Value} {x:Ends} (h:Val ρ v x):v = .agg #[.int .i64 x.e0,.int .i64 x.e1,.int .i64 x.e2,.int .i64 x.e3,.int .i64 x.e4,.int .i64 x.e5,.int .i64 x.e6,.int .i64 x.e7,.int .i64 x.e8,.int .i64 x.e9,.int .i64 x.e10,.int .i64 x.e11]∧I64 x.e0∧I64 x.e1∧I64 x.e2∧I64 x.e3∧I64 x.e4∧I64 x.e5∧I64 x.e6∧I64 x.e7∧I64 x.e8∧I64 x.e9∧I64 x.e10∧I64 x.e11:=by
 obtain ⟨cs,⟨q0,r0,f0,⟨a1,b1⟩,⟨q2,r2,f2,⟨a3,b3⟩,⟨q4,r4,f4,⟨a5,b5⟩,⟨q6,r6,f6,⟨a7,b7⟩,⟨q8,r8,f8,⟨a9,b9⟩,⟨q10,r10,f10,⟨a11,b11⟩,⟨q12,r12,f12,⟨a13,b13⟩,⟨q14,r14,f14,⟨a15,b15⟩,⟨q16,r16,f16,⟨a17,b17⟩,⟨q18,r18,f18,⟨a19,b19⟩,⟨q20,r20,f20,⟨a21,b21⟩,⟨a22,b22⟩⟩⟩⟩⟩⟩⟩⟩⟩⟩⟩⟩,hv⟩:=h
 subst f0
 subst f2
 subst f4
 subst f6
 subst f8
 subst f10
 subst f12
 subst f14
 subst f16
 subst f18
 subst f20
 subst a1
 subst a3
 subst a5
 subst a7
 subst a9
 subst a11
 subst a13
 subst a15
 subst a17
 subst a19
 subst a21
 subst a22
 exact ⟨hv,b1,b3,b5,b7,b9,b11,b13,b15,b17,b19,b21,b22⟩
theorem Ends.shut {ρ:Ro} {x:Ends} (h0:I64 x.e0) (h1:I64 x.e1) (h2:I64 x.e2) (h3:I64 x.e3) (h4:I64 x.e4) (h5:I64 x.e5) (h6:I64 x.e6) (h7:I64 x.e7) (h8:I64 x.e8) (h9:I64 x.e9) (h10:I64 x.e10) (h11:I64 x.e11):Val ρ (.agg #[.int .i64 x.e0,.int .i64 x.e1,.int .i64 x.e2,.int .i64 x.e3,.int .i64 x.e4,.int .i64 x.e5,.int .i64 x.e6,.int .i64 x.e7,.int .i64 x.e8,.int .i64 x.e9,.int .i64 x.e10,.int .i64 x.e11]) x:=⟨_,(show Dat.rep ρ _ (x.e0,(x.e1,(x.e2,(x.e3,(x.e4,(x.e5,(x.e6,(x.e7,(x.e8,(x.e9,(x.e10,x.e11))))))))))) from (Asl (Asv h0) (Asl (Asv h1) (Asl (Asv h2) (Asl (Asv h3) (Asl (Asv h4) (Asl (Asv h5) (Asl (Asv h6) (Asl (Asv h7) (Asl (Asv h8) (Asl (Asv h9) (Asl (Asv h10) (Asv h11))))))))))))),rfl⟩
structure Water where
 ditch:DitchP
 ends:Ends
 long:Int
 usual:List Int
 others:MapRef
instance:Dat Water:=.iso fun x=>(x.ditch,(x.ends,(x.long,(x.usual,x.others))))
theorem Water.f_ditch:Fld Water (DitchP) 0 Water.ditch:=⟨fun ρ cs x=>(Fld.fst:Fld ((DitchP) × (Ends) × (Int) × (List Int) × (MapRef)) (DitchP) 0 _).at_ ρ cs (x.ditch,(x.ends,(x.long,(x.usual,x.others))))⟩
theorem Water.f_ends:Fld Water (Ends) 14 Water.ends:=⟨fun ρ cs x=>((.snd Fld.fst):Fld ((DitchP) × (Ends) × (Int) × (List Int) × (MapRef)) (Ends) 14 _).at_ ρ cs (x.ditch,(x.ends,(x.long,(x.usual,x.others))))⟩
theorem Water.f_long:Fld Water (Int) 26 Water.long:=⟨fun ρ cs x=>((.snd (.snd Fld.fst)):Fld ((DitchP) × (Ends) × (Int) × (List Int) × (MapRef)) (Int) 26 _).at_ ρ cs (x.ditch,(x.ends,(x.long,(x.usual,x.others))))⟩
theorem Water.f_usual:Fld Water (List Int) 27 Water.usual:=⟨fun ρ cs x=>((.snd (.snd (.snd Fld.fst))):Fld ((DitchP) × (Ends) × (Int) × (List Int) × (MapRef)) (List Int) 27 _).at_ ρ cs (x.ditch,(x.ends,(x.long,(x.usual,x.others))))⟩
theorem Water.f_others:Fld Water (MapRef) 28 Water.others:=⟨fun ρ cs x=>((.snd (.snd (.snd (.snd Fld.self)))):Fld ((DitchP) × (Ends) × (Int) × (List Int) × (MapRef)) (MapRef) 28 _).at_ ρ cs (x.ditch,(x.ends,(x.long,(x.usual,x.others))))⟩
theorem Water.shut {ρ:Ro} {x:Water} {c0 c1 c2 c3 c4 c5 c6 c7:Value} (h0:Val ρ c0 x.ditch.d.holders) (h1:Val ρ c1 x.ditch.d.turns) (h2:I64 x.ditch.d.begin_) (h3:I64 x.ditch.d.week) (h4:I64 x.ditch.d.restFrom) (h5:I64 x.ditch.d.restLong) (h6:Val ρ c2 x.ditch.d.feasts) (h7:Val ρ c3 x.ditch.d.swaps) (h8:Val ρ c4 x.ditch.d.loans) (h9:I64 x.ditch.d.flow.low) (h10:I64 x.ditch.d.flow.high) (h11:I64 x.ditch.d.loss.low) (h12:I64 x.ditch.d.loss.high) (h13:Val ρ c5 x.ditch.d.plots) (h14:I64 x.ends.e0) (h15:I64 x.ends.e1) (h16:I64 x.ends.e2) (h17:I64 x.ends.e3) (h18:I64 x.ends.e4) (h19:I64 x.ends.e5) (h20:I64 x.ends.e6) (h21:I64 x.ends.e7) (h22:I64 x.ends.e8) (h23:I64 x.ends.e9) (h24:I64 x.ends.e10) (h25:I64 x.ends.e11) (h26:I64 x.long) (h27:Val ρ c6 x.usual) (h28:Val ρ c7 x.others):Val ρ (.agg #[c0,c1,.int .i64 x.ditch.d.begin_,.int .i64 x.ditch.d.week,.int .i64 x.ditch.d.restFrom,.int .i64 x.ditch.d.restLong,c2,c3,c4,.int .i64 x.ditch.d.flow.low,.int .i64 x.ditch.d.flow.high,.int .i64 x.ditch.d.loss.low,.int .i64 x.ditch.d.loss.high,c5,.int .i64 x.ends.e0,.int .i64 x.ends.e1,.int .i64 x.ends.e2,.int .i64 x.ends.e3,.int .i64 x.ends.e4,.int .i64 x.ends.e5,.int .i64 x.ends.e6,.int .i64 x.ends.e7,.int .i64 x.ends.e8,.int .i64 x.ends.e9,.int .i64 x.ends.e10,.int .i64 x.ends.e11,.int .i64 x.long,c6,c7]) x:=⟨_,(show Dat.rep ρ _ (x.ditch,(x.ends,(x.long,(x.usual,x.others)))) from (Asl (show Dat.rep ρ _ x.ditch from (show Dat.rep ρ _ x.ditch.d from (Asl (Auq h0) (Asl (Auq h1) (Asl (Asv h2) (Asl (Asv h3) (Asl (Asv h4) (Asl (Asv h5) (Asl (Auq h6) (Asl (Auq h7) (Asl (Auq h8) (Asl (show Dat.rep ρ _ x.ditch.d.flow from (Asl (Asv h9) (Asv h10))) (Asl (show Dat.rep ρ _ x.ditch.d.loss from (Asl (Asv h11) (Asv h12))) (Auq h13)))))))))))))) (Asl (show Dat.rep ρ _ x.ends from (Asl (Asv h14) (Asl (Asv h15) (Asl (Asv h16) (Asl (Asv h17) (Asl (Asv h18) (Asl (Asv h19) (Asl (Asv h20) (Asl (Asv h21) (Asl (Asv h22) (Asl (Asv h23) (Asl (Asv h24) (Asv h25))))))))))))) (Asl (Asv h26) (Asl (Auq h27) (Blu h28)))))),rfl⟩
theorem Avp:GoTy Tryz.prog 241 WTurn:=⟨⟨_,Boq,rfl⟩,⟨_,Ab Tryz.typeInfo241,rfl⟩⟩
theorem Avc:GoTy Tryz.prog 243 WSwap:=⟨⟨_,Bnx,rfl⟩,⟨_,Ab Tryz.typeInfo243,rfl⟩⟩
theorem Atx:GoTy Tryz.prog 90 WLoan:=⟨⟨_,Boc,rfl⟩,⟨_,Ab Bph,rfl⟩⟩
theorem Auh:GoTy Tryz.prog 184 WPlot:=⟨⟨_,Bno,rfl⟩,⟨_,Ab Tryz.typeInfo184,rfl⟩⟩
theorem Asi:GoTy Tryz.prog 88 Ditch:=⟨⟨_,Bna,rfl⟩,⟨_,Ab Box,rfl⟩⟩
theorem Auk:GoTy Tryz.prog 290 DitchP:=⟨⟨_,Bnf,rfl⟩,⟨_,Ab Brb,rfl⟩⟩
theorem Bcf:GoTy Tryz.prog 291 Ends:=⟨⟨_,Bpt,rfl⟩,⟨_,Ab Brc,rfl⟩⟩
theorem Atj:GoTy Tryz.prog 83 (List WTurn):=⟨⟨_,Bod,rfl⟩,⟨_,Ab Tryz.typeInfo83,rfl⟩⟩
theorem Atq:GoTy Tryz.prog 84 (List WSwap):=⟨⟨_,Boi,rfl⟩,⟨_,Ab Tryz.typeInfo84,rfl⟩⟩
theorem Atk:GoTy Tryz.prog 85 (List WLoan):=⟨⟨_,Bnk,rfl⟩,⟨_,Ab Bpm,rfl⟩⟩
theorem Atl:GoTy Tryz.prog 86 (List WPlot):=⟨⟨_,Bob,rfl⟩,⟨_,Ab Tryz.typeInfo86,rfl⟩⟩
theorem Bfw:GoTy Tryz.prog 93 (List WOpen):=⟨⟨_,Tryz.underlying93,rfl⟩,⟨_,Ab Tryz.typeInfo93,rfl⟩⟩
theorem Bfx:GoTy Tryz.prog 292 (MapRef):=⟨⟨_,Bor,rfl⟩,⟨_,Ab Bpq,rfl⟩⟩
def Bhe:List Value:=[z0,z0]
theorem Bhh:Fw Tryz.prog 241 (.agg #[z0,z0]):=⟨_,Ab Tryz.typeInfo241,rfl⟩
def Bhf:List Value:=[z0,z0,z0]
theorem Bhi:Fw Tryz.prog 243 (.agg #[z0,z0,z0]):=⟨_,Ab Tryz.typeInfo243,rfl⟩
def Bhc:List Value:=[z0,z0,z0]
theorem Awd:Fw Tryz.prog 90 (.agg #[z0,z0,z0]):=⟨_,Ab Bph,rfl⟩
def Bhd:List Value:=[.string (ByteArray.mk #[]),z0,z0,z0,z0,z0]
theorem Bhg:Fw Tryz.prog 184 (.agg #[.string (ByteArray.mk #[]),z0,z0,z0,z0,z0]):=⟨_,Ab Tryz.typeInfo184,rfl⟩
theorem Blh:Fw Tryz.prog 88 (.agg #[nS,nS,z0,z0,z0,z0,nS,nS,nS,z0,z0,z0,z0,nS]):=⟨_,Ab Box,rfl⟩
def Bld:List Value:=[z0,z0,nS]
theorem Bli:Fw Tryz.prog 95 (.agg #[z0,z0,nS]):=⟨_,Ab Tryz.typeInfo95,rfl⟩
def Ble:List Value:=[nS,nS,z0,z0,z0,z0,nS,nS,nS,z0,z0,z0,z0,nS]
theorem Blk:Fw Tryz.prog 290 (.agg #[nS,nS,z0,z0,z0,z0,nS,nS,nS,z0,z0,z0,z0,nS]):=⟨_,Ab Brb,rfl⟩
def Blf:List Value:=[nS,nS,z0,z0,z0,z0,nS,nS,nS,z0,z0,z0,z0,nS,z0,z0,z0,z0,z0,z0,z0,z0,z0,z0,z0,z0,z0,nS,.map none]
theorem Bll:Fw Tryz.prog 294 (.agg #[nS,nS,z0,z0,z0,z0,nS,nS,nS,z0,z0,z0,z0,nS,z0,z0,z0,z0,z0,z0,z0,z0,z0,z0,z0,z0,z0,nS,.map none]):=⟨_,Ab Tryz.typeInfo294,rfl⟩
theorem Blj:Fw Tryz.prog 244 (.pointer none):=⟨_,Ab Tryz.typeInfo244,rfl⟩
def Ata (f:Nat→Int):Nat→Int
 | 0=>0
 | n + 1=>Ata f n + f n
theorem Ats {f g:Nat→Int}:∀ {n:Nat},(∀ i,i < n→f i = g i)→Ata f n = Ata g n
 | 0,_=>rfl
 | n + 1,h=>by unfold Ata; rw [Ats (n:=n) (fun i hi=>h i (by omega)),h n (by omega)]
theorem Avo {f g:Nat→Int}:∀ {n:Nat},Ata (fun i=>f i + g i) n = Ata f n + Ata g n
 | 0=>rfl
 | n + 1=>by unfold Ata; rw [Avo (n:=n)]; omega
theorem Axr {f g:Nat→Int}:∀ {n:Nat},Ata (fun i=>f i - g i) n = Ata f n - Ata g n
 | 0=>rfl
 | n + 1=>by unfold Ata; rw [Axr (n:=n)]; omega
theorem Bba {f:Nat→Int} {a:Int}:∀ {n:Nat},Ata (fun i=>a * f i) n = a * Ata f n
 | 0=>(Int.mul_zero a).symm
 | n + 1=>by unfold Ata; rw [Bba (n:=n),Int.mul_add]
theorem sumI_zero:∀ {n:Nat},Ata (fun _=>0) n = 0
 | 0=>rfl
 | n + 1=>by unfold Ata; rw [sumI_zero (n:=n)]; rfl
theorem Bbb {v:Int} {j:Nat}:∀ {n:Nat},Ata (fun i=>if j = i then v else 0) n = if j < n then v else 0
 | 0=>rfl
 | n + 1=>by
  unfold Ata
  rw [Bbb (n:=n)]
  by_cases h1:j = n
  ·rw [if_pos h1,if_neg (by omega),if_pos (by omega),Int.zero_add]
  ·rw [if_neg h1,Int.add_zero]
   by_cases h2:j < n
   ·rw [if_pos h2,if_pos (by omega)]
   ·rw [if_neg h2,if_neg (by omega)]
theorem Aza {f:Nat→Nat→Int} {m:Nat}:∀ {n:Nat},Ata (fun i=>Ata (fun j=>f i j) m) n = Ata (fun j=>Ata (fun i=>f i j) n) m
 | 0=>sumI_zero.symm
 | n + 1=>by
  show Ata _ n + Ata (fun j=>f n j) m = Ata (fun j=>Ata (fun i=>f i j) n + f n j) m
  rw [Avo,Aza (n:=n)]
structure DitchOk (d:Ditch):Prop where
 names:Dd d.holders 6 = 0
 turns:1 ≤ d.turns.length∧d.turns.length ≤ 12
 turn:∀ (i:Nat) (x:WTurn),d.turns[i]? = some x→(0 ≤ x.holder∧x.holder ≤ (d.holders.length:Int) - 1)∧1 ≤ x.hours∧x.hours ≤ 100
 begin_:0 ≤ d.begin_∧d.begin_ ≤ 999999999
 week:0 ≤ d.week∧d.week ≤ 1000
 restFrom:0 ≤ d.restFrom∧d.restFrom ≤ 1000
 restLong:0 ≤ d.restLong∧d.restLong ≤ 1000
 wk0:d.week = 0→d.restFrom + d.restLong ≤ 0
 wk1:0 < d.week→d.restFrom + d.restLong ≤ d.week∧d.restLong ≠ d.week
 nfeasts:d.feasts.length ≤ 8
 feast:∀ (i:Nat) (x:Span),d.feasts[i]? = some x→(0 ≤ x.low∧x.low ≤ x.high∧x.high ≤ 999999999)∧∀ (y:Span),0 < i→d.feasts[i - 1]? = some y→y.high < x.low
 nswaps:d.swaps.length ≤ 8
 swap:∀ (i:Nat) (x:WSwap),d.swaps[i]? = some x→(0 ≤ x.cycle∧x.cycle ≤ 999999999)∧(0 ≤ x.a∧x.a ≤ (d.turns.length:Int) - 1)∧(0 ≤ x.b∧x.b ≤ (d.turns.length:Int) - 1)
 nloans:d.loans.length ≤ 8
 loan:∀ (i:Nat) (x:WLoan),d.loans[i]? = some x→(0 ≤ x.cycle∧x.cycle ≤ 999999999)∧(0 ≤ x.turn∧x.turn ≤ (d.turns.length:Int) - 1)∧(0 ≤ x.to∧x.to ≤ (d.holders.length:Int) - 1)
 flow:0 ≤ d.flow.low∧d.flow.low ≤ d.flow.high∧d.flow.high ≤ 100000
 loss:0 ≤ d.loss.low∧d.loss.low ≤ d.loss.high∧d.loss.high ≤ 1000
 nplots:d.plots.length ≤ 8
 plot:∀ (i:Nat) (x:WPlot),d.plots[i]? = some x→Hg x.name = true∧(∀ (k:Nat) (y:WPlot),k < i→d.plots[k]? = some y→y.name.toList ≠ x.name.toList)∧(0 ≤ x.holder∧x.holder ≤ (d.holders.length:Int) - 1)∧(0 ≤ x.far∧x.far ≤ 20)∧(0 ≤ x.needs.low∧x.needs.low ≤ x.needs.high∧x.needs.high ≤ 999999999)∧(0 ≤ x.worth∧x.worth ≤ 10000)
def Ati (d:Ditch) (h:Int):Int:=if d.week = 0 then 0 else h.tdiv d.week * d.restLong + min (max (h.tmod d.week - d.restFrom) 0) d.restLong
def Aub (d:Ditch) (a b:Int):Int:=if b ≤ a then 0 else b - a - Ati d b + Ati d a
def Auv (d:Ditch) (h:Int) (x:Span):Int:=Aub d (max d.begin_ x.low) (min h (x.high + 1))
def Asy (d:Ditch) (h:Int) (l:List Span):Int:=(l.map (Auv d h)).sum
def Ash (d:Ditch) (h:Int):Int:=Aub d d.begin_ h - Asy d h d.feasts
theorem Azr {d:Ditch} {h:Int} {i:Nat} {x:Span} (hx:d.feasts[i]? = some x):Asy d h (d.feasts.take (i + 1)) = Asy d h (d.feasts.take i) + Auv d h x:=by
 unfold Asy
 rw [List.take_add_one,hx]
 simp [List.map_append,List.sum_append]
/-- One hour more or less of rest. -/
theorem Ayx {d:Ditch} (ok:DitchOk d) {h:Int} (h0:0 ≤ h):Ati d h ≤ Ati d (h + 1)∧Ati d (h + 1) ≤ Ati d h + 1:=by
 unfold Ati
 split
 ·omega
 ·rename_i hw
  have h1:=ok.week; have h2:=ok.restFrom; have h3:=ok.restLong; have h4:=(ok.wk1 (by omega)).1
  rw [Int.tdiv_eq_ediv_of_nonneg h0,Int.tdiv_eq_ediv_of_nonneg (by omega:0 ≤ h + 1),Int.tmod_eq_emod_of_nonneg h0,Int.tmod_eq_emod_of_nonneg (by omega:0 ≤ h + 1)]
  have hp:0 < d.week:=by omega
  generalize hW:d.week = W at *
  generalize d.restLong = L at *
  generalize d.restFrom = F at *
  have e1:=Int.emod_add_mul_ediv h W
  have e2:=Int.emod_nonneg h hw
  have e3:=Int.emod_lt_of_pos h hp
  generalize hq:h / W = q at *
  generalize hr:h % W = r at *
  by_cases hlt:r + 1 < W
  ·have a1:(h + 1) / W = q:=by rw [show h + 1 = (r + 1) + W * q by omega,Int.add_mul_ediv_left _ _ hw,Int.ediv_eq_zero_of_lt (by omega) hlt]; omega
   have a2:(h + 1) % W = r + 1:=by rw [show h + 1 = (r + 1) + W * q by omega,Int.add_mul_emod_self_left,Int.emod_eq_of_lt (by omega) hlt]
   rw [a1,a2]
   generalize q * L = z
   omega
  ·have a0:h + 1 = 0 + W * (q + 1):=by rw [Int.mul_add]; omega
   have a1:(h + 1) / W = q + 1:=by rw [a0,Int.add_mul_ediv_left _ _ hw]; simp
   have a2:(h + 1) % W = 0:=by rw [a0,Int.add_mul_emod_self_left]; simp
   rw [a1,a2,Int.add_mul,Int.one_mul]
   generalize q * L = z
   omega
theorem Azy {d:Ditch} (ok:DitchOk d) {a:Int} (ha:0 ≤ a):∀ n:Nat,Ati d a ≤ Ati d (a + n)∧Ati d (a + n) ≤ Ati d a + n
 | 0=>by simp
 | n + 1=>by
  have h1:=Azy ok ha n
  have h2:=Ayx ok (h:=a + n) (by omega)
  rw [show a + ((n + 1:Nat):Int) = a + n + 1 by omega]
  omega
theorem Axq {d:Ditch} (ok:DitchOk d) {a:Int} (ha:0 ≤ a):0 ≤ Ati d a∧Ati d a ≤ a:=by
 have h:=Azy ok (a:=0) (by omega) a.toNat
 have h0:Ati d 0 = 0:=by
  unfold Ati
  split
  ·rfl
  ·have:=ok.restFrom; have:=ok.restLong
   simp; omega
 rw [show (0:Int) + (a.toNat:Int) = a by omega,h0] at h
 omega
theorem Axv {d:Ditch} (ok:DitchOk d) {a b:Int} (ha:0 ≤ a):0 ≤ Aub d a b∧Aub d a b ≤ max 0 (b - a):=by
 unfold Aub
 split
 ·omega
 ·have h:=Azy ok ha (b - a).toNat
  rw [show a + ((b - a).toNat:Int) = b by omega] at h
  omega
/-- Whether an hour is not weekly rest. -/
def Avg (d:Ditch) (h:Int):Int:=1 - (Ati d (h + 1) - Ati d h)
theorem Azd {d:Ditch} {a b:Int}:Aub d a (b + 1) - Aub d a b = if a ≤ b then Avg d b else 0:=by
 unfold Aub Avg
 by_cases h:a ≤ b
 ·rw [if_pos h,if_neg (by omega)]
  by_cases h2:b ≤ a
  ·rw [if_pos h2]
   have:a = b:=by omega
   subst this; omega
  ·rw [if_neg h2]; omega
 ·rw [if_neg h,if_pos (by omega),if_pos (by omega)]; rfl
def Asc:Int→List Span→Prop
 | _,[]=>True
 | last,x :: l=>last < x.low∧x.low ≤ x.high∧Asc x.high l
theorem Axj {d:Ditch} {h:Int} {x:Span}:Auv d (h + 1) x - Auv d h x = if d.begin_ ≤ h∧x.low ≤ h∧h ≤ x.high then Avg d h else 0:=by
 unfold Auv
 by_cases h1:h ≤ x.high
 ·rw [show min (h + 1) (x.high + 1) = h + 1 by omega,show min h (x.high + 1) = h by omega,Azd]
  by_cases h2:max d.begin_ x.low ≤ h
  ·rw [if_pos h2,if_pos (by omega)]
  ·rw [if_neg h2,if_neg (by omega)]
 ·rw [show min (h + 1) (x.high + 1) = min h (x.high + 1) by omega,if_neg (by omega)]; omega
theorem Awt {d:Ditch} {h:Int}:∀ {l:List Span} {last:Int},h ≤ last→Asc last l→Asy d (h + 1) l - Asy d h l = 0
 | [],_,_,_=>rfl
 | x :: l,last,hl,⟨h1,h2,h3⟩=>by
  have i1:=Awt (d:=d) (h:=h) (l:=l) (last:=x.high) (by omega) h3
  have i2:=Axj (d:=d) (h:=h) (x:=x)
  rw [if_neg (by omega)] at i2
  unfold Asy at *
  simp only [List.map_cons,List.sum_cons]
  omega
theorem Awu {d:Ditch} {h:Int} (ha:0 ≤ Avg d h):∀ {l:List Span} {last:Int},Asc last l→0 ≤ Asy d (h + 1) l - Asy d h l∧Asy d (h + 1) l - Asy d h l ≤ if d.begin_ ≤ h then Avg d h else 0
 | [],_,_=>by simp only [Asy,List.map_nil,List.sum_nil]; split <;> omega
 | x :: l,last,⟨h1,h2,h3⟩=>by
  have i2:=Axj (d:=d) (h:=h) (x:=x)
  have e:Asy d (h + 1) (x :: l) - Asy d h (x :: l) = (Auv d (h + 1) x - Auv d h x) + (Asy d (h + 1) l - Asy d h l):=by
   unfold Asy; simp only [List.map_cons,List.sum_cons]; omega
  rw [e,i2]
  by_cases hh:h ≤ x.high
  ·rw [Awt hh h3]
   split <;> split <;> omega
  ·have i3:=Awu ha h3
   rw [if_neg (by omega)]; omega
theorem Bhj {l:List Span}:∀ (k:Nat) (last:Int),(∀ x,l[k]? = some x→last < x.low)→(∀ (i:Nat) (x:Span),l[i]? = some x→x.low ≤ x.high∧∀ (y:Span),0 < i→l[i - 1]? = some y→y.high < x.low)→Asc last (l.drop k):=by
 intro k
 generalize hn:l.length - k = n
 induction n generalizing k with
 | zero=>intro last _ _; rw [List.drop_of_length_le (by omega)]; exact trivial
 | succ n ih =>
  intro last h1 h2
  have hk:k < l.length:=by omega
  rw [List.drop_eq_getElem_cons hk]
  have hx:l[k]? = some l[k]:=List.getElem?_eq_getElem hk
  refine ⟨h1 _ hx,(h2 _ _ hx).1,ih (k + 1) (by omega) _ (fun y hy=>?_) h2⟩
  exact (h2 _ _ hy).2 _ (by omega) (by rw [Nat.add_sub_cancel]; exact hx)
theorem DitchOk.asc {d:Ditch} (ok:DitchOk d):Asc (-1) d.feasts:=by
 have:=Bhj (l:=d.feasts) 0 (-1) (fun x hx=>by have:=(ok.feast _ _ hx).1; omega) (fun i x hx=>⟨(ok.feast i x hx).1.2.1,(ok.feast i x hx).2⟩)
 simpa using this
theorem Bfs {d:Ditch} (ok:DitchOk d) {h:Int} (h0:0 ≤ h):Ash d h ≤ Ash d (h + 1)∧Ash d (h + 1) ≤ Ash d h + 1:=by
 have h1:=Ayx ok h0
 have h2:0 ≤ Avg d h∧Avg d h ≤ 1:=by unfold Avg; omega
 have h3:=Azd (d:=d) (a:=d.begin_) (b:=h)
 have h4:=Awu h2.1 ok.asc
 unfold Ash
 split at h3 <;> rename_i hb
 ·rw [if_pos hb] at h4; omega
 ·rw [if_neg hb] at h4; omega
theorem Blt {d:Ditch} (ok:DitchOk d):Ash d 0 = 0:=by
 have hb:=ok.begin_
 have h1:Aub d d.begin_ 0 = 0:=if_pos hb.1
 have h2:∀ l:List Span,Asy d 0 l = 0:=by
  intro l
  unfold Asy
  induction l with
  | nil=>rfl
  | cons x l ih =>
   rw [List.map_cons,List.sum_cons,ih]
   have:Auv d 0 x = 0:=if_pos (by omega)
   omega
 unfold Ash
 rw [h1,h2]; rfl
theorem Bfr {d:Ditch} (ok:DitchOk d) {a:Int} (ha:0 ≤ a):∀ n:Nat,Ash d a ≤ Ash d (a + n)∧Ash d (a + n) ≤ Ash d a + n
 | 0=>by simp
 | n + 1=>by
  have h1:=Bfr ok ha n
  have h2:=Bfs ok (h:=a + n) (by omega)
  rw [show a + ((n + 1:Nat):Int) = a + n + 1 by omega]
  omega
theorem Avn {d:Ditch} (ok:DitchOk d) {a b:Int} (ha:0 ≤ a) (h:a ≤ b):Ash d a ≤ Ash d b∧Ash d b ≤ Ash d a + (b - a):=by
 have h:=Bfr ok ha (b - a).toNat
 rw [show a + ((b - a).toNat:Int) = b by omega] at h
 omega
theorem Auc {d:Ditch} (ok:DitchOk d) {a:Int} (ha:0 ≤ a):0 ≤ Ash d a∧Ash d a ≤ a:=by
 have h:=Avn ok (a:=0) (by omega) ha
 rw [Blt ok] at h
 omega
def Atv (d:Ditch) (i:Nat):Int:=((d.turns.take i).map (·.hours)).sum
def Asg (d:Ditch):Int:=Atv d d.turns.length
def Asj (d:Ditch):List Int:=d.turns.map (·.holder)
theorem Avv {d:Ditch} {i:Nat} {x:WTurn} (hx:d.turns[i]? = some x):Atv d (i + 1) = Atv d i + x.hours:=by
 unfold Atv
 rw [List.take_add_one,hx]
 simp [List.map_append,List.sum_append]
theorem endI_0 {d:Ditch}:Atv d 0 = 0:=rfl
theorem Avu {d:Ditch} (ok:DitchOk d) {i:Nat} (hi:i < d.turns.length):Atv d i + 1 ≤ Atv d (i + 1)∧Atv d (i + 1) ≤ Atv d i + 100:=by
 have hx:=List.getElem?_eq_getElem hi
 rw [Avv hx]
 have:=(ok.turn _ _ hx).2
 omega
theorem Atw {d:Ditch} (ok:DitchOk d):∀ {i:Nat},i ≤ d.turns.length→(i:Int) ≤ Atv d i∧Atv d i ≤ 100 * i
 | 0,_=>by rw [endI_0]; omega
 | i + 1,h=>by
  have h1:=Atw ok (i:=i) (by omega)
  have h2:=Avu ok (i:=i) (by omega)
  omega
theorem Atc {d:Ditch} (ok:DitchOk d):1 ≤ Asg d∧Asg d ≤ 1200:=by
 have h:=Atw ok (Nat.le_refl d.turns.length)
 have h1:=ok.turns
 unfold Asg; omega
def Aue (d:Ditch) (k:Int) (i:Nat):Int:=max 0 (min k (Atv d (i + 1)) - Atv d i)
def Aua (d:Ditch) (l:List Int) (h k:Int):Nat→Int:=Ata fun i=>if l[i]? = some h then Aue d k i else 0
def Ass (d:Ditch) (l:List Int) (h k:Int):Int:=Aua d l h k l.length
theorem Bdi {d:Ditch} (ok:DitchOk d) {k:Int} {i:Nat} (hi:i < d.turns.length):0 ≤ Aue d k i∧Aue d k i ≤ 100:=by
 have:=Avu ok hi
 unfold Aue; omega
theorem Bii {d:Ditch} (ok:DitchOk d) {k:Int} (hk:0 ≤ k):∀ {m:Nat},m ≤ d.turns.length→Ata (Aue d k) m = min k (Atv d m)
 | 0,_=>by rw [endI_0]; unfold Ata; omega
 | m + 1,h=>by
  unfold Ata
  rw [Bii ok hk (m:=m) (by omega)]
  have:=Avu ok (i:=m) (by omega)
  unfold Aue; omega
theorem Avl {d:Ditch} (ok:DitchOk d) {l:List Int} {h k:Int}:∀ {m:Nat},m ≤ d.turns.length→0 ≤ Aua d l h k m∧Aua d l h k m ≤ 100 * m
 | 0,_=>by unfold Aua Ata; omega
 | m + 1,hm=>by
  have h1:=Avl ok (l:=l) (h:=h) (k:=k) (m:=m) (by omega)
  have h2:=Bdi ok (k:=k) (i:=m) (by omega)
  unfold Aua Ata
  unfold Aua at h1
  split <;> omega
theorem Axp {d:Ditch} (ok:DitchOk d) {l:List Int} {h k k':Int} (hk:k ≤ k'):∀ {m:Nat},m ≤ d.turns.length→Aua d l h k m ≤ Aua d l h k' m
 | 0,_=>Int.le_refl _
 | m + 1,hm=>by
  have h1:=Axp ok (l:=l) (h:=h) (k:=k) (k':=k') hk (m:=m) (by omega)
  unfold Aua Ata
  unfold Aua at h1
  have h3:Aue d k m ≤ Aue d k' m:=by unfold Aue; omega
  split <;> omega
theorem Bdd {d:Ditch} (ok:DitchOk d) {l:List Int} {h k:Int} (hk:k ≤ 0):∀ {m:Nat},m ≤ d.turns.length→Aua d l h k m = 0
 | 0,_=>rfl
 | m + 1,hm=>by
  have h1:=Bdd ok (l:=l) (h:=h) (k:=k) hk (m:=m) (by omega)
  have h2:=Atw ok (i:=m) (by omega)
  unfold Aua Ata
  unfold Aua at h1
  rw [h1]
  split
  ·unfold Aue; omega
  ·rfl
/-- Owners of the turns of a cycle. -/
def LOk (d:Ditch) (l:List Int):Prop:=l.length = d.turns.length∧∀ h ∈ l,0 ≤ h∧h ≤ (d.holders.length:Int) - 1
theorem Awl {d:Ditch} (ok:DitchOk d) {l:List Int} (hl:LOk d l) {k:Int} (hk:0 ≤ k) (hk2:k ≤ Asg d):Ata (fun h=>Ass d l (h:Int) k) d.holders.length = k:=by
 have e1:Ata (fun h=>Ass d l ((h:Nat):Int) k) d.holders.length = Ata (Aue d k) l.length:=by
  show Ata (fun h=>Ata (fun i=>if l[i]? = some ((h:Nat):Int) then Aue d k i else 0) l.length) d.holders.length = _
  rw [Aza]
  refine Ats fun i hi=>?_
  have hx:l[i]? = some l[i]:=List.getElem?_eq_getElem hi
  obtain ⟨h1,h2⟩:=hl.2 _ (List.getElem_mem hi)
  have e2:∀ h:Nat,(if l[i]? = some ((h:Nat):Int) then Aue d k i else 0) = if (l[i]).toNat = h then Aue d k i else 0:=fun h=>by
   by_cases hh:(l[i]).toNat = h
   ·rw [if_pos hh,if_pos (by rw [hx]; congr 1; omega)]
   ·rw [if_neg hh,if_neg (by rw [hx]; intro e; have:=Option.some.inj e; omega)]
  rw [Ats (fun h _=>e2 h),Bbb,if_pos (by omega)]
 rw [e1,hl.1,Bii ok hk (Nat.le_refl _)]
 unfold Asg at hk2
 omega
abbrev Oth:=List (Int × List Int)
def Ayf (L:Oth) (c:Int):Bool:=L.any (fun z=>z.1 == c)
def Aty (d:Ditch) (L:Oth) (c:Int):Oth:=if Ayf L c then L else L ++ [(c,Asj d)]
def atO (L:Oth) (c:Int):List Int:=match L.find? (fun z=>z.1 == c) with | some z=>z.2 | none=>[]
/-- A cycle's owners,set. -/
def Awy (L:Oth) (c:Int) (l:List Int):Oth:=L.map fun z=>if z.1 = c then (z.1,l) else z
def Azb (d:Ditch) (L:Oth) (s:WSwap):Oth :=
 Awy (Aty d L s.cycle) s.cycle (((atO (Aty d L s.cycle) s.cycle).set s.a.toNat ((atO (Aty d L s.cycle) s.cycle).getD s.b.toNat 0)).set s.b.toNat ((atO (Aty d L s.cycle) s.cycle).getD s.a.toNat 0))
def Bcz (d:Ditch) (L:Oth) (s:WLoan):Oth:=Awy (Aty d L s.cycle) s.cycle ((atO (Aty d L s.cycle) s.cycle).set s.turn.toNat s.to)
def Auf (d:Ditch) (i:Nat):Oth:=(d.swaps.take i).foldl (Azb d) []
def Avi (d:Ditch) (i:Nat):Oth:=(d.loans.take i).foldl (Bcz d) (Auf d d.swaps.length)
def Awx (d:Ditch):Oth:=Avi d d.loans.length
structure OthOk (d:Ditch) (L:Oth):Prop where
 keys:(L.map (·.1)).Nodup
 key:∀ z ∈ L,0 ≤ z.1∧z.1 ≤ 999999999
 list:∀ z ∈ L,LOk d z.2
theorem Asx {d:Ditch} (ok:DitchOk d):LOk d (Asj d):=by
 refine ⟨by simp [Asj],fun h hh=>?_⟩
 obtain ⟨x,hx,rfl⟩:=List.mem_map.1 hh
 obtain ⟨i,hi⟩:=List.mem_iff_getElem?.1 hx
 exact (ok.turn i x hi).1
theorem Bec {d:Ditch}:OthOk d []:=⟨List.nodup_nil,fun z h=>by (cases h),fun z h=>by (cases h)⟩
theorem Avh {L:Oth} {c:Int}:Ayf L c = true↔∃ z ∈ L,z.1 = c:=by
 unfold Ayf; rw [List.any_eq_true]; simp
theorem Axi {d:Ditch} (ok:DitchOk d) {L:Oth} (h:OthOk d L) {c:Int} (hc:0 ≤ c∧c ≤ 999999999):OthOk d (Aty d L c):=by
 unfold Aty
 split
 ·exact h
 ·rename_i hn
  refine ⟨?_,fun z hz=>?_,fun z hz=>?_⟩
  ·rw [List.map_append,List.nodup_append]
   refine ⟨h.keys,by simp,fun x hx y hy=>?_⟩
   simp only [List.map_cons,List.map_nil,List.mem_singleton] at hy
   subst hy
   intro e; subst e
   obtain ⟨z,hz,e⟩:=List.mem_map.1 hx
   exact hn (Avh.2 ⟨z,hz,e⟩)
  ·rcases List.mem_append.1 hz with hz | hz
   ·exact h.key z hz
   ·rw [List.mem_singleton.1 hz]; exact hc
  ·rcases List.mem_append.1 hz with hz | hz
   ·exact h.list z hz
   ·rw [List.mem_singleton.1 hz]; exact Asx ok
theorem Awz {d:Ditch} {L:Oth} {c:Int}:Ayf (Aty d L c) c = true:=by
 unfold Aty
 split
 ·assumption
 ·exact Avh.2 ⟨_,List.mem_append_right _ (List.mem_singleton.2 rfl),rfl⟩
theorem Bee {L:Oth} {c:Int} {l:List Int}:(Awy L c l).map (·.1) = L.map (·.1):=by
 unfold Awy; rw [List.map_map]; congr 1; funext z; simp only [Function.comp]; split <;> rfl
theorem Bfq {d:Ditch} {L:Oth} (h:OthOk d L) {c:Int} {l:List Int} (hl:LOk d l):OthOk d (Awy L c l):=by
 refine ⟨by rw [Bee]; exact h.keys,fun z hz=>?_,fun z hz=>?_⟩
 ·obtain ⟨y,hy,rfl⟩:=List.mem_map.1 hz
  split <;> exact h.key y hy
 ·obtain ⟨y,hy,rfl⟩:=List.mem_map.1 hz
  split
  ·exact hl
  ·exact h.list y hy
theorem Azu {d:Ditch} {l:List Int} (h:LOk d l) {i:Nat} {v:Int} (hv:0 ≤ v∧v ≤ (d.holders.length:Int) - 1):LOk d (l.set i v):=by
 refine ⟨by rw [List.length_set]; exact h.1,fun x hx=>?_⟩
 rcases List.mem_or_eq_of_mem_set hx with hx | rfl
 ·exact h.2 x hx
 ·exact hv
theorem Bhk {L:Oth} {c:Int} (h:Ayf L c = true):∃ z ∈ L,z.1 = c∧atO L c = z.2:=by
 unfold atO
 cases hf:L.find? (fun z=>z.1 == c) with
 | none =>
  rw [List.find?_eq_none] at hf
  obtain ⟨z,hz,e⟩:=Avh.1 h
  exact absurd (by simpa using e) (hf z hz)
 | some z=>exact ⟨z,List.mem_of_find?_eq_some hf,by simpa using List.find?_some hf,rfl⟩
theorem Bai {d:Ditch} {L:Oth} (h:OthOk d L) {c:Int} (hc:Ayf L c = true):LOk d (atO L c):=by
 obtain ⟨z,h1,_,h3⟩:=Bhk hc
 rw [h3]; exact h.list z h1
theorem Bif {d:Ditch} {L:Oth} (h:OthOk d L) {c:Int} (hc:Ayf L c = true) {i:Int} (hi:0 ≤ i∧i ≤ (d.turns.length:Int) - 1):0 ≤ (atO L c).getD i.toNat 0∧(atO L c).getD i.toNat 0 ≤ (d.holders.length:Int) - 1:=by
 have hl:=Bai h hc
 have:i.toNat < (atO L c).length:=by rw [hl.1]; omega
 rw [List.getD_eq_getElem?_getD,List.getElem?_eq_getElem this]
 exact hl.2 _ (List.getElem_mem this)
theorem Bia {d:Ditch} (ok:DitchOk d) {L:Oth} (h:OthOk d L) {i:Nat} {s:WSwap} (hs:d.swaps[i]? = some s):OthOk d (Azb d L s):=by
 obtain ⟨h1,h2,h3⟩:=ok.swap i s hs
 have hc:=Axi ok h h1
 have hh:=Awz (d:=d) (L:=L) (c:=s.cycle)
 exact Bfq hc (Azu (Azu (Bai hc hh) (Bif hc hh h3)) (Bif hc hh h2))
theorem Bhx {d:Ditch} (ok:DitchOk d) {L:Oth} (h:OthOk d L) {i:Nat} {s:WLoan} (hs:d.loans[i]? = some s):OthOk d (Bcz d L s):=by
 obtain ⟨h1,h2,h3⟩:=ok.loan i s hs
 exact Bfq (Axi ok h h1) (Azu (Bai (Axi ok h h1) Awz) h3)
theorem Auj {d:Ditch} {i:Nat} {s:WSwap} (hs:d.swaps[i]? = some s):Auf d (i + 1) = Azb d (Auf d i) s:=by
 unfold Auf
 rw [List.take_add_one,hs,List.foldl_append]; rfl
theorem Avj {d:Ditch} {i:Nat} {s:WLoan} (hs:d.loans[i]? = some s):Avi d (i + 1) = Bcz d (Avi d i) s:=by
 unfold Avi
 rw [List.take_add_one,hs,List.foldl_append]; rfl
theorem Axs {d:Ditch} (ok:DitchOk d):∀ {i:Nat},i ≤ d.swaps.length→OthOk d (Auf d i)
 | 0,_=>Bec
 | i + 1,h=>by
  have hx:=List.getElem?_eq_getElem (show i < d.swaps.length by omega)
  rw [Auj hx]
  exact Bia ok (Axs ok (by omega)) hx
theorem Axl {d:Ditch} (ok:DitchOk d):∀ {i:Nat},i ≤ d.loans.length→OthOk d (Avi d i)
 | 0,_=>Axs ok (Nat.le_refl _)
 | i + 1,h=>by
  have hx:=List.getElem?_eq_getElem (show i < d.loans.length by omega)
  rw [Avj hx]
  exact Bhx ok (Axl ok (by omega)) hx
theorem Awb {d:Ditch} (ok:DitchOk d):OthOk d (Awx d):=Axl ok (Nat.le_refl _)
theorem Bct {d:Ditch} {L:Oth} {c:Int}:(Aty d L c).length ≤ L.length + 1:=by unfold Aty; split <;> simp
theorem Bax {L:Oth} {c:Int} {l:List Int}:(Awy L c l).length = L.length:=by unfold Awy; simp
theorem Azc {d:Ditch}:∀ {i:Nat},i ≤ d.swaps.length→(Auf d i).length ≤ i
 | 0,_=>Nat.le_refl _
 | i + 1,h=>by
  have hx:=List.getElem?_eq_getElem (show i < d.swaps.length by omega)
  rw [Auj hx]
  have:=Azc (d:=d) (i:=i) (by omega)
  unfold Azb; rw [Bax]
  have:=Bct (d:=d) (L:=Auf d i) (c:=(d.swaps[i]'(by omega)).cycle)
  omega
theorem Ayn {d:Ditch}:∀ {i:Nat},i ≤ d.loans.length→(Avi d i).length ≤ d.swaps.length + i
 | 0,_=>Azc (Nat.le_refl _)
 | i + 1,h=>by
  have hx:=List.getElem?_eq_getElem (show i < d.loans.length by omega)
  rw [Avj hx]
  have:=Ayn (d:=d) (i:=i) (by omega)
  unfold Bcz; rw [Bax]
  have:=Bct (d:=d) (L:=Avi d i) (c:=(d.loans[i]'(by omega)).cycle)
  omega
theorem Bdc {d:Ditch} (ok:DitchOk d):(Awx d).length ≤ 16:=by
 have:=Ayn (d:=d) (Nat.le_refl _)
 have:=ok.nswaps; have:=ok.nloans
 unfold Awx; omega
def Atz (d:Ditch) (h n:Int) (z:Int × List Int):Int:=if min (Asg d) (n - z.1 * Asg d) > 0 then Ass d z.2 h (min (Asg d) (n - z.1 * Asg d)) - Ass d (Asj d) h (min (Asg d) (n - z.1 * Asg d)) else 0
def Atd (d:Ditch) (h n:Int) (L:Oth):Int:=(L.map (Atz d h n)).sum
def Avw (d:Ditch) (h n:Int):Int:=n.tdiv (Asg d) * Ass d (Asj d) h (Asg d) + Ass d (Asj d) h (n.tmod (Asg d))
def Aui (d:Ditch) (h n:Int):Int:=Avw d h n + Atd d h n (Awx d)
theorem Awc {d:Ditch} (ok:DitchOk d) {l:List Int} (hl:LOk d l) {h k:Int} (hk:k ≤ 0):Ass d l h k = 0:=Bdd ok hk (by rw [hl.1]; exact Nat.le_refl _)
theorem Ayv {d:Ditch} (ok:DitchOk d) {l:List Int} (hl:LOk d l) {h k k':Int} (hk:k ≤ k'):Ass d l h k ≤ Ass d l h k':=Axp ok hk (by rw [hl.1]; exact Nat.le_refl _)
theorem Atn {d:Ditch} (ok:DitchOk d) {l:List Int} (hl:LOk d l) {h k:Int}:0 ≤ Ass d l h k∧Ass d l h k ≤ 1200:=by
 have:=Avl ok (l:=l) (h:=h) (k:=k) (m:=l.length) (by rw [hl.1]; exact Nat.le_refl _)
 have:=ok.turns; have:=hl.1
 unfold Ass; omega
theorem Azw {d:Ditch} (ok:DitchOk d) {h n:Int} {z:Int × List Int} (hz:LOk d z.2):Atz d h n z = Ass d z.2 h (min (Asg d) (n - z.1 * Asg d)) - Ass d (Asj d) h (min (Asg d) (n - z.1 * Asg d)):=by
 unfold Atz
 split
 ·rfl
 ·rw [Awc ok hz (by omega),Awc ok (Asx ok) (by omega)]; rfl
theorem Bca {d:Ditch} (ok:DitchOk d) {h n:Int} {z:Int × List Int} (hz:LOk d z.2):-1200 ≤ Atz d h n z∧Atz d h n z ≤ 1200:=by
 rw [Azw ok hz]
 have h1:=Atn ok hz (h:=h) (k:=min (Asg d) (n - z.1 * Asg d))
 have h2:=Atn ok (Asx ok) (h:=h) (k:=min (Asg d) (n - z.1 * Asg d))
 omega
theorem Avk {d:Ditch} (ok:DitchOk d) {h n:Int}:∀ {L:Oth},(∀ z ∈ L,LOk d z.2)→-1200 * (L.length:Int) ≤ Atd d h n L∧Atd d h n L ≤ 1200 * (L.length:Int)
 | [],_=>by simp [Atd]
 | z :: L,hL=>by
  have h1:=Avk ok (h:=h) (n:=n) (L:=L) (fun w hw=>hL w (List.mem_cons_of_mem _ hw))
  have h2:=Bca ok (h:=h) (n:=n) (hL z (List.mem_cons_self ..))
  unfold Atd at *
  simp only [List.map_cons,List.sum_cons,List.length_cons]
  omega
theorem Axe {d:Ditch} (ok:DitchOk d) {h n:Int} (hn:0 ≤ n∧n ≤ 1000000000):0 ≤ n.tdiv (Asg d) * Ass d (Asj d) h (Asg d)∧n.tdiv (Asg d) * Ass d (Asj d) h (Asg d) ≤ 1200000000000:=by
 have h1:=Atn ok (Asx ok) (h:=h) (k:=Asg d)
 have h2:=Atc ok
 have h3:0 ≤ n.tdiv (Asg d):=Int.tdiv_nonneg hn.1 (by omega)
 have h4:n.tdiv (Asg d) ≤ 1000000000:=Int.le_trans (Int.tdiv_le_self (Asg d) hn.1) hn.2
 refine ⟨Int.mul_nonneg h3 h1.1,?_⟩
 have:=Int.mul_le_mul h4 h1.2 h1.1 (by omega)
 omega
theorem Bcx {d:Ditch} (ok:DitchOk d) {n:Int} (hn:0 ≤ n):Ata (fun h=>Aui d (h:Int) n) d.holders.length = n:=by
 have h2:=Atc ok
 have hu:=Asx ok
 have ho:=Awb ok
 have e3:∀ L:Oth,(∀ z ∈ L,LOk d z.2)→Ata (fun h=>Atd d ((h:Nat):Int) n L) d.holders.length = 0:=by
  intro L
  induction L with
  | nil=>intro _; exact sumI_zero
  | cons z L ih =>
   intro hL
   have i1:=ih (fun w hw=>hL w (List.mem_cons_of_mem _ hw))
   have e4:∀ h:Nat,Atd d (h:Int) n (z :: L) = Atz d (h:Int) n z + Atd d (h:Int) n L:=fun h=>by unfold Atd; simp
   rw [Ats (fun h _=>e4 h),Avo,i1]
   have hz:=hL z (List.mem_cons_self ..)
   by_cases hk:min (Asg d) (n - z.1 * Asg d) > 0
   ·have e5:∀ h:Nat,Atz d (h:Int) n z = Ass d z.2 h (min (Asg d) (n - z.1 * Asg d)) - Ass d (Asj d) h (min (Asg d) (n - z.1 * Asg d)):=fun h=>by unfold Atz; rw [if_pos hk]
    rw [Ats (fun h _=>e5 h),Axr,Awl ok hz (by omega) (by omega),Awl ok hu (by omega) (by omega)]
    omega
   ·have e5:∀ h:Nat,Atz d (h:Int) n z = 0:=fun h=>by unfold Atz; rw [if_neg hk]
    rw [Ats (fun h _=>e5 h),sumI_zero]; rfl
 have e1:∀ h:Nat,Aui d (h:Int) n = (n.tdiv (Asg d) * Ass d (Asj d) h (Asg d) + Ass d (Asj d) h (n.tmod (Asg d))) + Atd d h n (Awx d):=fun h=>rfl
 have m1:0 ≤ n.tmod (Asg d):=Int.tmod_nonneg _ hn
 have m2:n.tmod (Asg d) < Asg d:=Int.tmod_lt_of_pos _ (by omega)
 rw [Ats (fun h _=>e1 h),Avo,Avo,Bba,Awl ok hu (by omega) (Int.le_refl _),Awl ok hu m1 (by omega),e3 _ ho.list]
 have:=Int.tdiv_mul_add_tmod n (Asg d)
 omega
theorem Ayq {d:Ditch} (ok:DitchOk d) {h n:Int} {z:Int × List Int} (hz:LOk d z.2) {q r:Int} (hq:n = r + Asg d * q) (hr:0 ≤ r∧r < Asg d) :
  Atz d h (n + 1) z - Atz d h n z = if z.1 = q then (Ass d z.2 h (r + 1) - Ass d z.2 h r) - (Ass d (Asj d) h (r + 1) - Ass d (Asj d) h r) else 0:=by
 rw [Azw ok hz,Azw ok hz]
 have hl:=Atc ok
 generalize Asg d = L at *
 by_cases hc:z.1 = q
 ·rw [if_pos hc,hc,show n + 1 - q * L = r + 1 by rw [hq,Int.mul_comm q L]; omega,show n - q * L = r by rw [hq,Int.mul_comm q L]; omega]
  rw [show min L (r + 1) = r + 1 by omega,show min L r = r by omega]
  omega
 ·rw [if_neg hc]
  by_cases hlt:z.1 < q
  ·have:L * (z.1 + 1) ≤ L * q:=Int.mul_le_mul_of_nonneg_left (by omega) (by omega)
   rw [Int.mul_add,Int.mul_one] at this
   rw [Int.mul_comm z.1 L]
   rw [show min L (n + 1 - L * z.1) = L by omega,show min L (n - L * z.1) = L by omega]
   omega
  ·have:L * (q + 1) ≤ L * z.1:=Int.mul_le_mul_of_nonneg_left (by omega) (by omega)
   rw [Int.mul_add,Int.mul_one] at this
   rw [Int.mul_comm z.1 L]
   have k1:min L (n + 1 - L * z.1) ≤ 0:=by omega
   have k2:min L (n - L * z.1) ≤ 0:=by omega
   rw [Awc ok hz k1,Awc ok hz k2,Awc ok (Asx ok) k1,Awc ok (Asx ok) k2]; rfl
theorem Ays {d:Ditch} (ok:DitchOk d) {h n q r:Int} (hq:n = r + Asg d * q) (hr:0 ≤ r∧r < Asg d):∀ {L:Oth},(∀ z ∈ L,LOk d z.2)→(∀ z ∈ L,z.1 ≠ q)→Atd d h (n + 1) L - Atd d h n L = 0
 | [],_,_=>rfl
 | z :: L,hL,hn=>by
  have h1:=Ays ok (h:=h) hq hr (L:=L) (fun w hw=>hL w (List.mem_cons_of_mem _ hw)) (fun w hw=>hn w (List.mem_cons_of_mem _ hw))
  have h2:=Ayq ok (h:=h) (hL z (List.mem_cons_self ..)) hq hr
  rw [if_neg (hn z (List.mem_cons_self ..))] at h2
  unfold Atd at *
  simp only [List.map_cons,List.sum_cons]
  omega
theorem Axm {d:Ditch} (ok:DitchOk d) {h n q r:Int} (hq:n = r + Asg d * q) (hr:0 ≤ r∧r < Asg d):∀ {L:Oth},(∀ z ∈ L,LOk d z.2)→(L.map (·.1)).Nodup→0 ≤ Atd d h (n + 1) L - Atd d h n L + (Ass d (Asj d) h (r + 1) - Ass d (Asj d) h r)
 | [],_,_=>by
  have:=Ayv ok (Asx ok) (h:=h) (show r ≤ r + 1 by omega)
  simp only [Atd,List.map_nil,List.sum_nil]; omega
 | z :: L,hL,hn=>by
  rw [List.map_cons,List.nodup_cons] at hn
  have hz:=hL z (List.mem_cons_self ..)
  have h2:=Ayq ok (h:=h) hz hq hr
  have e:Atd d h (n + 1) (z :: L) - Atd d h n (z :: L) = (Atz d h (n + 1) z - Atz d h n z) + (Atd d h (n + 1) L - Atd d h n L):=by
   unfold Atd; simp only [List.map_cons,List.sum_cons]; omega
  rw [e,h2]
  by_cases hc:z.1 = q
  ·rw [if_pos hc,Ays ok hq hr (fun w hw=>hL w (List.mem_cons_of_mem _ hw)) (fun w hw e=>hn.1 (by rw [hc]; exact List.mem_map.2 ⟨w,hw,e⟩))]
   have:=Ayv ok hz (h:=h) (show r ≤ r + 1 by omega)
   omega
  ·rw [if_neg hc]
   have:=Axm ok (h:=h) hq hr (L:=L) (fun w hw=>hL w (List.mem_cons_of_mem _ hw)) hn.2
   omega
theorem Bdo {d:Ditch} (ok:DitchOk d) {h n q r:Int} (hn:0 ≤ n) (hq:n = r + Asg d * q) (hr:0 ≤ r∧r < Asg d):Avw d h (n + 1) - Avw d h n = Ass d (Asj d) h (r + 1) - Ass d (Asj d) h r:=by
 have hl:=Atc ok
 have hw:Asg d ≠ 0:=by omega
 unfold Avw
 rw [Int.tdiv_eq_ediv_of_nonneg hn,Int.tdiv_eq_ediv_of_nonneg (by omega:0 ≤ n + 1),Int.tmod_eq_emod_of_nonneg hn,Int.tmod_eq_emod_of_nonneg (by omega:0 ≤ n + 1)]
 have b1:n / Asg d = q:=by rw [hq,Int.add_mul_ediv_left _ _ hw,Int.ediv_eq_zero_of_lt hr.1 hr.2]; omega
 have b2:n % Asg d = r:=by rw [hq,Int.add_mul_emod_self_left,Int.emod_eq_of_lt hr.1 hr.2]
 rw [b1,b2]
 by_cases hlt:r + 1 < Asg d
 ·have a1:(n + 1) / Asg d = q:=by rw [show n + 1 = (r + 1) + Asg d * q by omega,Int.add_mul_ediv_left _ _ hw,Int.ediv_eq_zero_of_lt (by omega) hlt]; omega
  have a2:(n + 1) % Asg d = r + 1:=by rw [show n + 1 = (r + 1) + Asg d * q by omega,Int.add_mul_emod_self_left,Int.emod_eq_of_lt (by omega) hlt]
  rw [a1,a2]; omega
 ·have e0:r + 1 = Asg d:=by omega
  have a0:n + 1 = 0 + Asg d * (q + 1):=by rw [Int.mul_add]; omega
  have a1:(n + 1) / Asg d = q + 1:=by rw [a0,Int.add_mul_ediv_left _ _ hw]; simp
  have a2:(n + 1) % Asg d = 0:=by rw [a0,Int.add_mul_emod_self_left]; simp
  rw [a1,a2,e0,Awc ok (Asx ok) (Int.le_refl 0),Int.add_mul,Int.one_mul]; omega
theorem Bff {d:Ditch} (ok:DitchOk d) {h n:Int} (hn:0 ≤ n):Aui d h n ≤ Aui d h (n + 1):=by
 have hl:=Atc ok
 have hq:n = n % Asg d + Asg d * (n / Asg d):=(Int.emod_add_mul_ediv n (Asg d)).symm
 have hr:0 ≤ n % Asg d∧n % Asg d < Asg d:=⟨Int.emod_nonneg _ (by omega),Int.emod_lt_of_pos _ (by omega)⟩
 have h1:=Axm ok (h:=h) hq hr (Awb ok).list (Awb ok).keys
 have h2:=Bdo ok (h:=h) hn hq hr
 unfold Aui
 omega
theorem Bfe {d:Ditch} (ok:DitchOk d) {h a:Int} (ha:0 ≤ a):∀ n:Nat,Aui d h a ≤ Aui d h (a + n)
 | 0=>by simp
 | n + 1=>by
  have h1:=Bfe ok (h:=h) ha n
  have h2:=Bff ok (h:=h) (n:=a + n) (by omega)
  rw [show a + ((n + 1:Nat):Int) = a + n + 1 by omega]
  omega
def Asm (d:Ditch) (h a b:Int):Int:=Aui d h (Ash d b) - Aui d h (Ash d a)
theorem Auy {d:Ditch} (ok:DitchOk d) {h a b:Int} (ha:0 ≤ a) (hab:a ≤ b):0 ≤ Asm d h a b:=by
 have h1:=Avn ok ha hab
 have h2:=Auc ok ha
 have h3:=Bfe ok (h:=h) h2.1 (Ash d b - Ash d a).toNat
 rw [show Ash d a + ((Ash d b - Ash d a).toNat:Int) = Ash d b by omega] at h3
 unfold Asm; omega
theorem Ayl {d:Ditch} (ok:DitchOk d) {a b:Int} (ha:0 ≤ a) (hab:a ≤ b):Ata (fun h=>Asm d (h:Int) a b) d.holders.length = Ash d b - Ash d a:=by
 have h1:=Avn ok ha hab
 have h2:=Auc ok ha
 show Ata (fun h=>Aui d ((h:Nat):Int) (Ash d b) - Aui d ((h:Nat):Int) (Ash d a)) d.holders.length = _
 rw [Axr,Bcx ok (by omega),Bcx ok h2.1]
end
section
open Go
/-- An entry: key,slice,stamp; what the slice holds; the blocks of the slice. -/
structure OEnt where
 c:Int
 v:Value
 b:Nat
 l:List Int
 g:Own
def OEnt.e (z:OEnt):MapEntry:=⟨.int .i64 z.c,z.v,z.b⟩
def OEnt.p (z:OEnt):Int × List Int:=(z.c,z.l)
structure MapE (es:Array MapEntry) (ck:Nat) (E:List OEnt):Prop where
 es:es.toList = E.map OEnt.e
 keys:(E.map OEnt.c).Nodup
 born:(E.map OEnt.b).Nodup
 lt:∀ z ∈ E,z.b < ck
/-- A map and the slices that it holds,all owned. -/
def OthG (ρ:Ro) (r:Nat) (L:Oth) (g:Own):Prop :=
 ∃ es ck E,MapE es ck E∧L = E.map OEnt.p∧(∀ z ∈ E,Grow ρ 3 z.v z.l z.g∧z.l ≠ [])∧g = (r,Res.obj (.map es ck)) :: (E.map OEnt.g).flatten
theorem OthG.mono {ρ ρ':Ro} (hle:Ro.le ρ ρ') {r:Nat} {L:Oth} {g:Own} (h:OthG ρ r L g):OthG ρ' r L g :=
 let ⟨es,ck,E,h1,h2,h3,h4⟩:=h
 ⟨es,ck,E,h1,h2,fun z hz=>⟨(h3 z hz).1.mono hle,(h3 z hz).2⟩,h4⟩
theorem Bfn {ρ:Ro} {r:Nat}:OthG ρ r [] [(r,Res.obj (.map #[] 0))]:=⟨#[],0,[],⟨rfl,List.nodup_nil,List.nodup_nil,fun z h=>by (cases h)⟩,rfl,fun z h=>by (cases h),rfl⟩
/-- The same without the slice of a cycle,which is held elsewhere. -/
def OthH (ρ:Ro) (r:Nat) (L:Oth) (c:Int) (v:Value) (h:Own):Prop :=
 ∀ ρ' l' gr',Ro.le ρ ρ'→l' ≠ []→Grow ρ' 3 v l' gr'→∃ g',OthG ρ' r (Awy L c l') g'∧(gr' ++ h).Perm g'
theorem OthH.mono {ρ ρ':Ro} (hle:Ro.le ρ ρ') {r:Nat} {L:Oth} {c:Int} {v:Value} {h:Own} (hh:OthH ρ r L c v h):OthH ρ' r L c v h :=
 fun ρ'' l' gr' hle'=>hh ρ'' l' gr' (Brn hle hle')
/-- The map and its slices,only read from here on. -/
def OthR (ρ:Ro) (r:Nat) (L:Oth):Prop :=
 ∃ es ck E,ρ r = some (.map es ck)∧MapE es ck E∧L = E.map OEnt.p∧∀ z ∈ E,Val ρ z.v z.l
theorem OthR.mono {ρ ρ':Ro} (hle:Ro.le ρ ρ') {r:Nat} {L:Oth} (h:OthR ρ r L):OthR ρ' r L :=
 let ⟨es,ck,E,h0,h1,h2,h3⟩:=h
 ⟨es,ck,E,hle _ _ h0,h1,h2,fun z hz=>(h3 z hz).mono hle⟩
def Atr (c:Int):List OEnt→Nat→Option (Nat × Value)
 | [],_=>none
 | z :: l,i=>if c = z.c then some (i,z.v) else Atr c l (i + 1)
theorem Ayk {c:Int}:∀ (E:List OEnt) (i:Nat),Instr.findNow (.int .i64) (.int .i64 c) (E.map OEnt.e) i = some (Atr c E i)
 | [],_=>rfl
 | z :: E,i=>by
  simp only [List.map_cons,Instr.findNow,OEnt.e,Instr.sameNow,if_true]
  unfold Atr
  by_cases h:c = z.c
  ·rw [if_pos h,beq_iff_eq.2 h]
  ·rw [if_neg h,beq_eq_false_iff_ne.2 h]; exact Ayk E (i + 1)
def Aur (E:List OEnt) (c:Int):Value:=((Atr c E 0).map (·.2)).getD (.slice none 0 0)
theorem Auw {c:Int}:∀ {E:List OEnt} {i:Nat},Atr c E i = none↔∀ z ∈ E,z.c ≠ c
 | [],_=>by simp [Atr]
 | z :: E,i=>by
  unfold Atr
  split
  ·rename_i hz; constructor
   ·intro h; cases h
   ·intro h; exact absurd hz.symm (h z (List.mem_cons_self ..))
  ·rename_i hz
   rw [Auw]
   constructor
   ·intro h w hw
    rcases List.mem_cons.1 hw with rfl | hw
    ·exact fun e=>hz e.symm
    ·exact h w hw
   ·intro h w hw; exact h w (List.mem_cons_of_mem _ hw)
theorem Awa {c:Int}:∀ {E:List OEnt} {i:Nat} {r:Nat × Value},Atr c E i = some r→∃ A z B,E = A ++ z :: B∧z.c = c∧z.v = r.2∧∀ w ∈ A,w.c ≠ c
 | [],_,_,h=>by cases h
 | z :: E,i,r,h=>by
  unfold Atr at h
  split at h
  ·rename_i hz
   cases h
   exact ⟨[],z,E,rfl,hz.symm,rfl,fun w hw=>by cases hw⟩
  ·rename_i hz
   obtain ⟨A,w,B,h1,h2,h3,h4⟩:=Awa h
   refine ⟨z :: A,w,B,by rw [h1]; rfl,h2,h3,fun y hy=>?_⟩
   rcases List.mem_cons.1 hy with rfl | hy
   ·exact fun e=>hz e.symm
   ·exact h4 y hy
theorem Bih {E:List OEnt} {c:Int}:Ayf (E.map OEnt.p) c = (Atr c E 0).isSome:=by
 cases h:Atr c E 0 with
 | none =>
  rw [Auw] at h
  show Ayf _ c = false
  cases hh:Ayf (E.map OEnt.p) c with
  | false=>rfl
  | true =>
   obtain ⟨z,hz,e⟩:=Avh.1 hh
   obtain ⟨w,hw,rfl⟩:=List.mem_map.1 hz
   exact absurd e (h w hw)
 | some r =>
  obtain ⟨A,z,B,h1,h2,_,_⟩:=Awa h
  exact Avh.2 ⟨z.p,List.mem_map.2 ⟨z,by rw [h1]; simp,rfl⟩,h2⟩
theorem Blx {A B:List OEnt} {z:OEnt} {c:Int} (h:z.c = c) (hA:∀ w ∈ A,w.c ≠ c):atO ((A ++ z :: B).map OEnt.p) c = z.l:=by
 unfold atO
 have:((A ++ z :: B).map OEnt.p).find? (fun z=>z.1 == c) = some z.p:=by
  rw [List.map_append,List.find?_append]
  have h1:(A.map OEnt.p).find? (fun z=>z.1 == c) = none:=by
   rw [List.find?_eq_none]
   intro x hx
   obtain ⟨w,hw,rfl⟩:=List.mem_map.1 hx
   simpa [OEnt.p] using hA w hw
  rw [h1,List.map_cons,List.find?_cons]
  have h2:(z.p.1 == c) = true:=beq_iff_eq.2 h
  rw [h2]; rfl
 rw [this]; rfl
theorem Bls {A B:List OEnt} {z:OEnt} {c:Int} {l:List Int} {g:Own} (h:z.c = c) (hA:∀ w ∈ A,w.c ≠ c) (hB:∀ w ∈ B,w.c ≠ c):Awy ((A ++ z :: B).map OEnt.p) c l = (A ++ (⟨z.c,z.v,z.b,l,g⟩:OEnt) :: B).map OEnt.p:=by
 unfold Awy
 have key:∀ A:List OEnt,(∀ w ∈ A,w.c ≠ c)→(A.map OEnt.p).map (fun z=>if z.1 = c then (z.1,l) else z) = A.map OEnt.p:=fun A hA=>by
  rw [List.map_map]
  refine List.map_congr_left fun w hw=>?_
  exact if_neg (hA w hw)
 rw [List.map_append,List.map_append,key A hA,List.map_cons,List.map_cons,key B hB,List.map_append,List.map_cons]
 congr 2
 exact if_pos h
/-- The slice of a cycle is taken out. -/
theorem Bav {ρ:Ro} {r ck:Nat} {es:Array MapEntry} {E A B:List OEnt} {z:OEnt} {c:Int} (hM:MapE es ck E) (hG:∀ z ∈ E,Grow ρ 3 z.v z.l z.g∧z.l ≠ []) (hE:E = A ++ z :: B) (hc:z.c = c) (hA:∀ w ∈ A,w.c ≠ c) :
  Grow ρ 3 z.v (atO (E.map OEnt.p) c) z.g∧OthH ρ r (E.map OEnt.p) c z.v ((r,Res.obj (.map es ck)) :: ((A.map OEnt.g).flatten ++ (B.map OEnt.g).flatten)):=by
 subst hE
 have hk:=hM.keys
 rw [List.map_append,List.map_cons,List.nodup_append] at hk
 have hB:∀ w ∈ B,w.c ≠ c:=fun w hw e=>(List.nodup_cons.1 hk.2.1).1 (List.mem_map.2 ⟨w,hw,by rw [e,hc]⟩)
 refine ⟨by rw [Blx hc hA]; exact (hG z (by simp)).1,fun ρ' l' gr' hle hl hg=>?_⟩
 refine ⟨(r,Res.obj (.map es ck)) :: ((A ++ (⟨z.c,z.v,z.b,l',gr'⟩:OEnt) :: B).map OEnt.g).flatten,⟨es,ck,A ++ (⟨z.c,z.v,z.b,l',gr'⟩:OEnt) :: B,⟨?_,?_,?_,fun w hw=>?_⟩,Bls hc hA hB,fun w hw=>?_,rfl⟩,?_⟩
 ·rw [hM.es]; simp [OEnt.e]
 ·have:=hM.keys; simpa using this
 ·have:=hM.born; simpa using this
 ·rcases List.mem_append.1 hw with hw | hw
  ·exact hM.lt w (by simp [hw])
  ·rcases List.mem_cons.1 hw with rfl | hw
   ·exact hM.lt z (by simp)
   ·exact hM.lt w (by simp [hw])
 ·rcases List.mem_append.1 hw with hw | hw
  ·exact ⟨(hG w (by simp [hw])).1.mono hle,(hG w (by simp [hw])).2⟩
  ·rcases List.mem_cons.1 hw with rfl | hw
   ·exact ⟨hg,hl⟩
   ·exact ⟨(hG w (by simp [hw])).1.mono hle,(hG w (by simp [hw])).2⟩
 ·rw [List.map_append,List.map_cons,List.flatten_append,List.flatten_cons]
  refine (List.perm_middle (a:=(r,Res.obj (.map es ck)))).trans (List.Perm.cons _ ?_)
  exact List.perm_append_comm_assoc gr' _ _
/-- An entry more. -/
theorem Bfj {es:Array MapEntry} {ck:Nat} {E:List OEnt} (hM:MapE es ck E) {c:Int} {v:Value} {l:List Int} {g:Own} (hn:Atr c E 0 = none):MapE (es.push ⟨.int .i64 c,v,ck⟩) (ck + 1) (E ++ [⟨c,v,ck,l,g⟩]):=by
 refine ⟨by rw [Array.toList_push,hM.es,List.map_append]; rfl,?_,?_,fun z hz=>?_⟩
 ·rw [List.map_append,List.nodup_append]
  refine ⟨hM.keys,by simp,fun x hx y hy=>?_⟩
  simp only [List.map_cons,List.map_nil,List.mem_singleton] at hy
  subst hy
  obtain ⟨z,hz,rfl⟩:=List.mem_map.1 hx
  exact Auw.1 hn z hz
 ·rw [List.map_append,List.nodup_append]
  refine ⟨hM.born,by simp,fun x hx y hy=>?_⟩
  simp only [List.map_cons,List.map_nil,List.mem_singleton] at hy
  subst hy
  obtain ⟨z,hz,rfl⟩:=List.mem_map.1 hx
  have:=hM.lt z hz
  omega
 ·rcases List.mem_append.1 hz with hz | hz
  ·have:=hM.lt z hz; omega
  ·rw [List.mem_singleton.1 hz]; exact Nat.lt_succ_self _
theorem Grow.nonnil {ρ:Ro} {el:TypeId} {v:Value} {l:List Int} {g:Own} (h:Grow ρ el v l g) (hl:l ≠ []):∃ a n k,v = .slice (some a) n k:=by
 rcases h.2.2 with ⟨_,h2⟩ | ⟨r,cap,cs,rs,gb,h1,_⟩
 ·exact absurd h2 hl
 ·exact ⟨_,_,_,h1⟩
section
variable {C:Ctx} {e:Env} {ds:List Deferred} {ρ:Ro} {σ:Own} {K:Value→List Deferred→Ro→Own→Prop} {rd:Option Nat} {dd:Option Tmp}
variable {ty:TypeId} {pos:String} {af:Array Edge} {g:Option (Nat × Bool)} {x y u:Operand} {v p:Value} {t t':TypeId} {P:Program}
theorem Awo {kt:TypeId} {c:Int} {em:Bool} {m:Nat} (hk:P.underlying kt = some (.int .i64)) {Q:Unit→Own→Prop} (h:Q () σ):wpS P ρ (Instr.checkKey em (m + 1) kt (.int .i64 c)) σ Q:=by
 show wpS P ρ ((underlying kt).bind _) σ Q
 rw [Ad]
 exact Az hk h
theorem Aze {kt:TypeId} {c:Int} {E:List OEnt} (hk:P.underlying kt = some (.int .i64)) {Q:Option (Nat × Value)→Own→Prop} (h:Q (Atr c E 0) σ):wpS P ρ (Instr.findKey kt (.int .i64 c) (E.map OEnt.e)) σ Q:=by
 show wpS P ρ ((underlying kt).bind _) σ Q
 rw [Ad]
 refine Az hk ?_
 simp only [Ayk]
 exact h
theorem Aws {r ck:Nat} {kt et:TypeId} {c:Int} {es:Array MapEntry} {E:List OEnt} (hT:C.P.underlying t = some (.map kt et)) (hk:C.P.underlying kt = some (.int .i64)) (hz:Fw C.P et (.slice none 0 0)) (hM:MapE es ck E) (hx:Af e x = .map (some r)) (hy:Af e y = .int .i64 c) (hi:Has ρ σ r (.map es ck))
  (h:K (Aur E c) ds ρ σ):wpS C.P ρ (execOp (Af e) ⟨dd,.lookup t x y false,ty,pos,af,g⟩) σ (NextH C K rd ds ρ):=by
 show wpS C.P ρ ((Instr.lookup t (Af e x) (Af e y) false).bind _) σ _
 refine Gd ?_
 rw [hx,hy]
 show wpS C.P ρ ((underlying t).bind _) σ _
 rw [Ad]
 refine Az hT ?_
 show wpS C.P ρ ((getObj r).bind _) σ _
 rw [Ad]
 refine ⟨_,hi,rfl,?_⟩
 show wpS C.P ρ ((Instr.checkKey es.isEmpty 10000 kt _).bind _) σ _
 rw [Ad]
 refine Awo (m:=9999) hk ?_
 show wpS C.P ρ ((Instr.findKey kt _ es.toList).bind _) σ _
 rw [Ad,hM.es]
 refine Aze hk ?_
 unfold Aur at h
 cases hf:Atr c E 0 with
 | none =>
  rw [hf] at h
  show wpS C.P ρ ((zeroValue et).bind _) σ _
  rw [Ad]
  exact Jz hz h
 | some q=>rw [hf] at h; exact h
theorem Bkl {i r ck:Nat} {kt et:TypeId} {c:Int} {w:Value} {es:Array MapEntry} {E:List OEnt} (hT:C.P.underlying t = some (.map kt et)) (hk:C.P.underlying kt = some (.int .i64)) (hM:MapE es ck E) (hn:Atr c E 0 = none)
  (hx:Af e x = .map (some r)) (hy:Af e y = .int .i64 c) (hu:Af e u = w) (hi:σ[i]? = some (r,.obj (.map es ck)))
  (h:K undef ds ρ (σ.set i (r,.obj (.map (es.push ⟨.int .i64 c,w,ck⟩) (ck + 1))))):wpS C.P ρ (execOp (Af e) ⟨dd,.mapUpdate t x y u,ty,pos,af,g⟩) σ (NextH C K rd ds ρ):=by
 show wpS C.P ρ ((Instr.mapUpdate t (Af e x) (Af e y) (Af e u)).bind _) σ _
 refine Rs ?_
 rw [hx,hy,hu]
 show wpS C.P ρ ((underlying t).bind _) σ _
 rw [Ad]
 refine Az hT ?_
 show wpS C.P ρ ((getObj r).bind _) σ _
 rw [Ad]
 refine ⟨_,.inr (List.mem_of_getElem? hi),rfl,?_⟩
 show wpS C.P ρ ((Instr.checkKey false 10000 kt _).bind _) σ _
 rw [Ad]
 refine Awo (m:=9999) hk ?_
 show wpS C.P ρ ((Instr.findKey kt _ es.toList).bind _) σ _
 rw [Ad,hM.es]
 refine Aze hk ?_
 rw [hn]
 exact ⟨rfl,i,_,hi,rfl,h⟩
/-- A slice compared with nil. -/
theorem Bad {el:TypeId} {a:Option Addr} {n k:Nat} (hT:P.underlying t = some (.slice el)) (hx:Af e x = .slice a n k) (hy:Af e y = .slice none 0 0):Yld P ρ e (.binOp .eql t x y t') ty (.bool a.isNone) :=
 Mt (s:=(do eqGuard .eql t x y (Af e x) (Af e y); binOp .eql t (Af e x) (Af e y))) (fun _ _ _ _=>rfl) fun ρ' σ _=>by
  rw [hx,hy,show eqGuard .eql t x y (.slice a n k) (.slice none 0 0) = pure () from rfl]
  show wpS P ρ' ((Op.equal t (.slice a n k) (.slice none 0 0)).bind _) σ _
  rw [Ad]
  show wpS P ρ' ((underlying t).bind _) σ _
  rw [Ad]
  refine Az hT ?_
  cases a <;> exact ⟨rfl,rfl⟩
def Awi (r ck:Nat) (dn:List OEnt):Obj:=.mapIter (some r) ck (dn.map OEnt.b).toArray ck
theorem Bga {r ck:Nat} {kt et:TypeId} {es:Array MapEntry} (hT:C.P.underlying t = some (.map kt et)) (hx:Af e x = .map (some r)) (hi:Has ρ σ r (.map es ck)) (h:∀ k,K (.pointer (some ⟨k,0,none⟩)) ds ρ ((k,.obj (Awi r ck [])) :: σ)) :
  wpS C.P ρ (execOp (Af e) ⟨dd,.range t x,ty,pos,af,g⟩) σ (NextH C K rd ds ρ):=by
 show wpS C.P ρ ((Instr.range t (Af e x)).bind _) σ _
 refine Gd ?_
 rw [hx]
 show wpS C.P ρ ((underlying t).bind _) σ _
 rw [Ad]
 refine Az hT ?_
 show wpS C.P ρ ((getObj r).bind _) σ _
 rw [Ad]
 refine ⟨_,hi,rfl,?_⟩
 show wpS C.P ρ ((newObj (.mapIter (some r) ck #[] ck)).bind _) σ _
 rw [Ad]
 exact .inl ⟨rfl,fun k=>h k⟩
theorem Ayp {es:Array MapEntry} {ck:Nat} {l dn:List OEnt} (hs:MapE es ck l) (hd:∀ z ∈ dn,z ∈ l) {z:OEnt} (hz:z ∈ l):((dn.map OEnt.b).toArray.contains z.b = true)↔z ∈ dn:=by
 rw [List.contains_toArray,List.contains_iff_mem,List.mem_map]
 constructor
 ·rintro ⟨w,hw,e⟩
  have:w = z:=by
   have h1:=hd w hw
   obtain ⟨i,hi⟩:=List.mem_iff_getElem?.1 h1
   obtain ⟨j,hj⟩:=List.mem_iff_getElem?.1 hz
   have h2:(l.map OEnt.b)[i]? = (l.map OEnt.b)[j]?:=by rw [List.getElem?_map,List.getElem?_map,hi,hj]; simp [e]
   have hlt:i < (l.map OEnt.b).length:=by rw [List.length_map]; exact (List.getElem?_eq_some_iff.1 hi).1
   have:=(List.getElem?_inj hlt hs.born).1 h2
   subst this
   rw [hi] at hj; exact Option.some.inj hj
  rw [← this]; exact hw
 ·intro h; exact ⟨z,h,rfl⟩
/-- The next entry of a map that has not changed: one that has not been shown,or the end when all have been. -/
theorem Bib {i k r ck:Nat} {es:Array MapEntry} {l dn:List OEnt} (hs:MapE es ck l) (hd:∀ z ∈ dn,z ∈ l) (hx:Af e x = .pointer (some ⟨k,0,none⟩)) (hi:σ[i]? = some (k,.obj (Awi r ck dn))) (hm:Has ρ σ r (.map es ck))
  (h0:(∀ z ∈ l,z ∈ dn)→K (.tuple #[.bool false]) ds ρ σ) (h1:∀ z ∈ l,z ∉ dn→K (.tuple #[.bool true,.int .i64 z.c,z.v]) ds ρ (σ.set i (k,.obj (Awi r ck (dn ++ [z]))))) :
  wpS C.P ρ (execOp (Af e) ⟨dd,.next x false,ty,pos,af,g⟩) σ (NextH C K rd ds ρ):=by
 show wpS C.P ρ ((Instr.next (Af e x) false ty).bind _) σ _
 refine Gd ?_
 rw [hx]
 show wpS C.P ρ ((getObj k).bind _) σ _
 rw [Ad]
 refine ⟨_,.inr (List.mem_of_getElem? hi),rfl,?_⟩
 show wpS C.P ρ ((getObj r).bind _) σ _
 rw [Ad]
 refine ⟨_,hm,rfl,?_⟩
 have hlt:∀ en ∈ es.toList,en.born < ck:=fun en he=>by
  rw [hs.es] at he
  obtain ⟨z,hz,rfl⟩:=List.mem_map.1 he
  exact hs.lt z hz
 have hg:(!(dn.map OEnt.b).toArray.isEmpty && !es.isEmpty && es.all (·.born ≥ ck)) = false:=by
  cases hl:es.toList with
  | nil =>
   have:es = #[]:=by apply Array.ext'; exact hl
   subst this; simp
  | cons en l' =>
   have h2:=hlt en (by rw [hl]; exact List.mem_cons_self ..)
   have:es.all (·.born ≥ ck) = false:=by
    rw [← Array.all_toList,hl,List.all_cons,decide_eq_false (by omega)]; rfl
   rw [this,Bool.and_false]
 show wpS C.P ρ (if (!(dn.map OEnt.b).toArray.isEmpty && !es.isEmpty && es.all (·.born ≥ ck)) = true then _ else _) σ _
 rw [if_neg (by rw [hg]; exact Bool.false_ne_true)]
 -- what is left
 have hfilt:∀ (q:MapEntry→Bool),(es.filter q).toList = (l.filter (fun z=>q z.e)).map OEnt.e:=fun q=>by
  rw [Array.toList_filter,hs.es,List.filter_map]; rfl
 generalize hleft:es.filter (fun e=>!(dn.map OEnt.b).toArray.contains e.born) = left
 have hleftL:left.toList = (l.filter (fun z=>!(dn.map OEnt.b).toArray.contains z.b)).map OEnt.e:=by rw [← hleft]; exact hfilt _
 have hold:left.filter (·.born < ck) = left:=by
  apply Array.ext'
  rw [Array.toList_filter,List.filter_eq_self]
  intro en he
  rw [hleftL] at he
  obtain ⟨z,hz,rfl⟩:=List.mem_map.1 he
  exact decide_eq_true (hs.lt z (List.mem_filter.1 hz).1)
 have hnew:left.filter (·.born ≥ ck) = #[]:=by
  apply Array.ext'
  rw [Array.toList_filter]
  show _ = []
  rw [List.filter_eq_nil_iff]
  intro en he
  rw [hleftL] at he
  obtain ⟨z,hz,rfl⟩:=List.mem_map.1 he
  have h3:=hs.lt z (List.mem_filter.1 hz).1
  have h4:¬ z.b ≥ ck:=by show ¬ z.b ≥ ck; omega
  simpa [OEnt.e] using h4
 have hsel:∀ z,z ∈ l.filter (fun z=>!(dn.map OEnt.b).toArray.contains z.b)→z ∈ l∧z ∉ dn:=fun z hz=>by
  obtain ⟨h2,h3⟩:=List.mem_filter.1 hz
  refine ⟨h2,fun h4=>?_⟩
  rw [(Ayp hs hd h2).2 h4] at h3; cases h3
 dsimp only
 simp only [hold,hnew,Array.append_empty]
 have hgo:∀ en,(∃ z ∈ l,z ∉ dn∧en = z.e)→wpS C.P ρ (Sem.bind (setObj k (.mapIter (some r) ck ((dn.map OEnt.b).toArray.push en.born) ck)) fun _=>Sem.pure (.tuple #[.bool true,en.key,en.val])) σ (fun v σ'=>K v ds ρ σ'):=by
  rintro en ⟨z,h2,h3,rfl⟩
  rw [Ad]
  refine ⟨rfl,i,_,hi,rfl,?_⟩
  have:=h1 z h2 h3
  have e2:Awi r ck (dn ++ [z]) = .mapIter (some r) ck ((dn.map OEnt.b).toArray.push z.b) ck:=by
   unfold Awi; rw [List.map_append,List.push_toArray]; rfl
  rw [e2] at this
  exact this
 cases hl:left.toList with
 | nil =>
  have:left = #[]:=by apply Array.ext'; exact hl
  subst this
  have hall:∀ z ∈ l,z ∈ dn:=fun z hz=>by
   rcases Classical.em (z ∈ dn) with h | h
   ·exact h
   ·exfalso
    have:z ∈ l.filter (fun z=>!(dn.map OEnt.b).toArray.contains z.b):=List.mem_filter.2 ⟨hz,by
     cases hc:(dn.map OEnt.b).toArray.contains z.b with
     | false=>rfl
     | true=>exact absurd ((Ayp hs hd hz).1 hc) h⟩
    have h5:z.e ∈ (#[]:Array MapEntry).toList:=by rw [hleftL]; exact List.mem_map.2 ⟨z,this,rfl⟩
    cases h5
  have e4:((if (#[]:Array MapEntry).isEmpty = true then #[none] else #[]) ++ Array.map some (#[]:Array MapEntry)) = #[none]:=by simp
  rw [e4]
  show wpS C.P ρ (Sem.bind (choose (.mapNext 1)) _) σ _
  rw [Ad]
  exact h0 hall
 | cons en l' =>
  have hne:left.isEmpty = false:=by
   rw [← Array.isEmpty_toList,hl]; rfl
  have hsz:left.size = l'.length + 1:=by rw [← Array.length_toList,hl]; rfl
  have hat:∀ j,j < left.size→∃ en,left[j]? = some en∧∃ z ∈ l,z ∉ dn∧en = z.e:=fun j hj=>by
   refine ⟨left[j],Array.getElem?_eq_getElem hj,?_⟩
   have hm2:left[j] ∈ left.toList:=Array.getElem_mem_toList hj
   rw [hleftL] at hm2
   obtain ⟨z,hz,e2⟩:=List.mem_map.1 hm2
   exact ⟨z,(hsel z hz).1,(hsel z hz).2,e2.symm⟩
  rw [hne]
  simp only [Bool.false_eq_true,if_false,Array.empty_append,Array.size_map]
  show wpS C.P ρ (Sem.bind (choose (.mapNext left.size)) _) σ _
  rw [Ad]
  show (if (Question.mapNext left.size).forced = true then _ else _)
  split
  ·obtain ⟨en,h2,h3⟩:=hat 0 (by omega)
   simp only [wpS,Array.getElem?_map,h2,Option.map_some]
   exact hgo en h3
  ·intro t
   obtain ⟨en,h2,h3⟩:=hat (t % left.size) (Nat.mod_lt _ (by omega))
   have e3:(Question.mapNext left.size).cut t = t % left.size:=rfl
   simp only [wpS,e3,Array.getElem?_map,h2,Option.map_some]
   exact hgo en h3
/-- The entry that was shown last. -/
theorem Bfz {i k r ck:Nat} {es:Array MapEntry} {l dn:List OEnt} {z:OEnt} (hs:MapE es ck l) (hz:z ∈ l) (hx:Af e x = .pointer (some ⟨k,0,none⟩)) (hi:σ[i]? = some (k,.obj (Awi r ck (dn ++ [z])))) (hm:Has ρ σ r (.map es ck)) (h:K (.tuple #[.int .i64 z.c,z.v]) ds ρ σ) :
  wpS C.P ρ (execOp (Af e) ⟨dd,.entry x,ty,pos,af,g⟩) σ (NextH C K rd ds ρ):=by
 show wpS C.P ρ ((Instr.entry (Af e x)).bind _) σ _
 refine Gd ?_
 rw [hx]
 show wpS C.P ρ ((getObj k).bind _) σ _
 rw [Ad]
 refine ⟨_,.inr (List.mem_of_getElem? hi),rfl,?_⟩
 have e1:Awi r ck (dn ++ [z]) = .mapIter (some r) ck ((dn.map OEnt.b).toArray.push z.b) ck:=by
  unfold Awi; rw [List.map_append,List.push_toArray]; rfl
 rw [e1]
 simp only [wpS,Array.back?_push]
 show wpS C.P ρ ((getObj r).bind _) σ _
 rw [Ad]
 refine ⟨_,hm,rfl,?_⟩
 show wpS C.P ρ (if (ck != ck) = true then _ else _) σ _
 rw [if_neg (by simp)]
 have hf:es.find? (·.born == z.b) = some z.e:=by
  rw [← Array.find?_toList,hs.es]
  have key:∀ (l:List OEnt),(l.map OEnt.b).Nodup→z ∈ l→(l.map OEnt.e).find? (·.born == z.b) = some z.e:=by
   intro l
   induction l with
   | nil=>intro _ h; cases h
   | cons w l ih =>
    intro hb hzl
    rw [List.map_cons,List.find?_cons]
    rw [List.map_cons,List.nodup_cons] at hb
    rcases List.mem_cons.1 hzl with rfl | hzl
    ·have:(z.e.born == z.b) = true:=beq_self_eq_true _
     rw [this]
    ·have:(w.e.born == z.b) = false:=beq_eq_false_iff_ne.2 fun h2=>hb.1 (List.mem_map.2 ⟨z,hzl,h2.symm⟩)
     rw [this]
     exact ih hb.2 hzl
  exact key l hs.born hz
 rw [hf]
 exact h
end
end
section
open Go
def Ends.l (a:Ends):List Int:=[a.e0,a.e1,a.e2,a.e3,a.e4,a.e5,a.e6,a.e7,a.e8,a.e9,a.e10,a.e11]
theorem Bfy {ρ:Ro} {r:Nat}:Val ρ (.map (some r)) (⟨r⟩:MapRef):=⟨[.map (some r)],rfl,rfl⟩
theorem Bfa {ρ:Ro} {cs:List Value} {a:Ends} (h:Dat.rep ρ cs a):cs = a.l.map (Value.int .i64)∧∀ z ∈ a.l,I64 z:=by
 have h1:=Ends.open_ (ρ:=ρ) (v:=Vu true cs) (x:=a) ⟨cs,h,rfl⟩
 obtain ⟨h2,h3⟩:=h1
 refine ⟨?_,?_⟩
 ·have h4:=congrArg (fun v=>match v with | Value.agg c=>c.toList | _=>[]) h2
  exact h4
 ·intro z hz
  simp only [Ends.l,List.mem_cons,List.not_mem_nil,or_false] at hz
  obtain ⟨g0,g1,g2,g3,g4,g5,g6,g7,g8,g9,g10,g11⟩:=h3
  rcases hz with rfl | rfl | rfl | rfl | rfl | rfl | rfl | rfl | rfl | rfl | rfl | rfl <;> assumption
/-- An element of an array of twelve numbers. -/
theorem Avs {P:Program} {ρ:Ro} {e:Env} {ty t el:TypeId} {x y:Operand} {p:Value} {a:Ends} {k:IntKind} {q z:Int} (i:Nat) (hT:P.underlying t = some (.array 12 el)) (hE:∃ i,P.info? el = some i∧i.size = 1) (hx:Af e x = p) (hp:At ρ p a) (hy:Af e y = .int k q) (hq:q = (i:Int)) (hi:i < 12) (hz:a.l[i]? = some z) :
  ∃ p',At ρ p' z∧Yld P ρ e (.indexAddr t x y) ty p':=by
 obtain ⟨b,off,c,t',fz,cs,rest,rfl,h2,h3,h4⟩:=hp
 obtain ⟨h5,h6⟩:=Bfa h3
 refine ⟨.pointer (some ⟨b,off + i,none⟩),⟨b,off + i,c,t',fz,[.int .i64 z],(a.l.drop (i + 1)).map (Value.int .i64) ++ rest,rfl,h2,⟨rfl,h6 z (List.mem_of_getElem? hz)⟩,?_⟩,Cq (k':=1) i hT hE hx hy hq hi (by omega)⟩
 rw [← List.drop_drop,h4,h5]
 have hl:i < a.l.length:=(List.getElem?_eq_some_iff.1 hz).1
 have e1:a.l.map (Value.int .i64) = (a.l.take i).map (Value.int .i64) ++ (.int .i64 z :: (a.l.drop (i + 1)).map (Value.int .i64)):=by
  rw [← List.map_cons (f:=Value.int .i64),← List.map_append]
  congr 1
  rw [show z :: a.l.drop (i + 1) = a.l.drop i from by rw [List.drop_eq_getElem_cons hl]; congr 1; rw [List.getElem?_eq_getElem hl] at hz; exact (Option.some.inj hz).symm]
  exact (List.take_append_drop i a.l).symm
 rw [e1,List.append_assoc,List.drop_left' (by simp; omega)]
 rfl
def Asf (d:Ditch) (i j:Nat):Int:=if j < i then Atv d (j + 1) else 0
def Bam (d:Ditch) (i:Nat):Ends:=⟨Asf d i 0,Asf d i 1,Asf d i 2,Asf d i 3,Asf d i 4,Asf d i 5,Asf d i 6,Asf d i 7,Asf d i 8,Asf d i 9,Asf d i 10,Asf d i 11⟩
def Avd (d:Ditch) (r:Nat):Water:=⟨⟨d⟩,Bam d d.turns.length,Asg d,Asj d,⟨r⟩⟩
theorem Bkh {d:Ditch} {i:Nat}:(Bam d i).l = (List.range 12).map (Asf d i):=rfl
theorem Azp {d:Ditch} (ok:DitchOk d) {i:Nat} (hi:i < d.turns.length):(Bam d d.turns.length).l[i]? = some (Atv d (i + 1)):=by
 have:=ok.turns
 rw [Bkh,List.getElem?_map,List.getElem?_range (by omega)]
 show some (Asf d _ i) = _
 unfold Asf; rw [if_pos hi]
theorem Bbr {d:Ditch} (ok:DitchOk d) {i j:Nat} (hi:i ≤ d.turns.length):0 ≤ Asf d i j∧Asf d i j ≤ 1200:=by
 unfold Asf
 have:=ok.turns
 split
 ·have:=Atw ok (i:=j + 1) (by omega); omega
 ·omega
theorem Bez {d:Ditch} {i:Nat} {v:Int} (hv:v = Atv d (i + 1)):((List.range 12).map (fun j=>Value.int .i64 (Asf d i j))).set i (.int .i64 v) = (List.range 12).map (fun j=>Value.int .i64 (Asf d (i + 1) j)):=by
 apply List.ext_getElem?
 intro j
 rw [List.getElem?_set]
 simp only [List.length_map,List.length_range,List.getElem?_map]
 by_cases hj:j < 12
 ·rw [List.getElem?_range hj]
  by_cases hij:i = j
  ·subst hij
   rw [if_pos rfl,if_pos hj]
   simp only [Option.map_some]
   unfold Asf; rw [if_pos (by omega),hv]
  ·rw [if_neg hij]
   simp only [Option.map_some]
   congr 2
   unfold Asf
   by_cases h1:j < i
   ·rw [if_pos h1,if_pos (by omega)]
   ·rw [if_neg h1,if_neg (by omega)]
 ·rw [List.getElem?_eq_none (by simp; omega)]
  by_cases hij:i = j
  ·subst hij; rw [if_pos rfl,if_neg hj]; rfl
  ·rw [if_neg hij]; rfl
theorem Bfb {d:Ditch} {i:Nat} {v:Int} {c0 c1 c2 c3 c4 c5 c6 c7 c8 c9 c10 c11 c12 c13 lo us ot:Value} (hi:i < 12) (hv:v = Atv d (i + 1)) :
  [c0,c1,c2,c3,c4,c5,c6,c7,c8,c9,c10,c11,c12,c13,.int .i64 (Asf d i 0),.int .i64 (Asf d i 1),.int .i64 (Asf d i 2),.int .i64 (Asf d i 3),.int .i64 (Asf d i 4),.int .i64 (Asf d i 5),.int .i64 (Asf d i 6),.int .i64 (Asf d i 7),.int .i64 (Asf d i 8),.int .i64 (Asf d i 9),.int .i64 (Asf d i 10),.int .i64 (Asf d i 11),lo,us,ot].set (14 + i) (.int .i64 v) =
  [c0,c1,c2,c3,c4,c5,c6,c7,c8,c9,c10,c11,c12,c13,.int .i64 (Asf d (i + 1) 0),.int .i64 (Asf d (i + 1) 1),.int .i64 (Asf d (i + 1) 2),.int .i64 (Asf d (i + 1) 3),.int .i64 (Asf d (i + 1) 4),.int .i64 (Asf d (i + 1) 5),.int .i64 (Asf d (i + 1) 6),.int .i64 (Asf d (i + 1) 7),.int .i64 (Asf d (i + 1) 8),.int .i64 (Asf d (i + 1) 9),.int .i64 (Asf d (i + 1) 10),.int .i64 (Asf d (i + 1) 11),lo,us,ot]:=by
 show ([c0,c1,c2,c3,c4,c5,c6,c7,c8,c9,c10,c11,c12,c13] ++ ((List.range 12).map (fun j=>Value.int .i64 (Asf d i j)) ++ [lo,us,ot])).set (14 + i) _ = [c0,c1,c2,c3,c4,c5,c6,c7,c8,c9,c10,c11,c12,c13] ++ ((List.range 12).map (fun j=>Value.int .i64 (Asf d (i + 1) j)) ++ [lo,us,ot])
 rw [List.set_append_right _ _ (by simp),List.set_append_left _ _ (by simp; omega)]
 congr 2
 rw [show 14 + i - [c0,c1,c2,c3,c4,c5,c6,c7,c8,c9,c10,c11,c12,c13].length = i by simp]
 exact Bez hv
section
variable {C:Ctx} {bb:FB} {nn:Nat} {Q:Hu} {e:Env} {ds:List Deferred} {ρ:Ro} {σ:Own} {c:Code}
theorem mem_flat {E:List OEnt} {z:OEnt} (hz:z ∈ E) {p:Nat × Res} (hp:p ∈ z.g):p ∈ (E.map OEnt.g).flatten:=List.mem_flatten.2 ⟨z.g,List.mem_map.2 ⟨z,hz,rfl⟩,hp⟩
theorem Bci {r:Nat} {L:Oth} {g:Own} (hO:OthG ρ r L g) (h:∀ ρ',Ro.le ρ ρ'→OthR ρ' r L→WpC C bb nn c Q e ds ρ' σ):WpC C bb nn c Q e ds ρ (g ++ σ) :=
 fun tm k cs ht=>by
 obtain ⟨es,ck,E,h1,h2,h3,rfl⟩:=hO
 refine Aux (fun p hp=>?_) fun ρ' hle hg=>h ρ' hle ⟨es,ck,E,?_,h1,h2,fun z hz=>?_⟩ tm k cs ht
 ·rcases List.mem_cons.1 hp with rfl | hp
  ·exact ⟨_,rfl⟩
  ·obtain ⟨g',hg',hp⟩:=List.mem_flatten.1 hp
   obtain ⟨z,hz,rfl⟩:=List.mem_map.1 hg'
   exact (h3 z hz).1.1 p hp
 ·obtain ⟨o,ho,hr⟩:=hg _ (List.mem_cons_self ..)
  cases ho; exact hr
 ·obtain ⟨hG,hne⟩:=h3 z hz
  rcases hG.2.2 with ⟨e1,e2⟩ | ⟨r',cap,cs',rs,gb,e1,e2,e3,e4,e5⟩
  ·exact absurd e2 hne
  ·obtain ⟨o,ho,hr⟩:=hg (r',.obj (.cells (cs' ++ rs).toArray 3 (0,0))) (List.mem_cons_of_mem _ (mem_flat hz (by rw [e2]; exact List.mem_cons_self ..)))
   cases ho
   exact Grow.val hG.2.1 e1 (e3.mono hle) e5 hr
/-- The slice of a cycle is given back. -/
theorem Axw {r:Nat} {L:Oth} {cy:Int} {v:Value} {l:List Int} {gr h:Own} (hH:OthH ρ r L cy v h) (hG:Grow ρ 3 v l gr) (hl:l ≠ []) (hw:∀ g',OthG ρ r (Awy L cy l) g'→WpC C bb nn c Q e ds ρ (g' ++ σ)):WpC C bb nn c Q e ds ρ (gr ++ (h ++ σ)):=by
 obtain ⟨g',h1,h2⟩:=hH ρ l gr Brm hl hG
 refine Aj (σ':=g' ++ σ) (Brk ?_) (hw g' h1)
 rw [← List.append_assoc]
 exact h2.append_right σ
end
/-- What a walk reads of a ditch that runs. -/
def WaterAt (ρ:Ro) (p:Value) (d:Ditch):Prop:=∃ r,At ρ p (Avd d r)∧OthR ρ r (Awx d)
theorem WaterAt.mono {ρ ρ':Ro} {p:Value} {d:Ditch} (hle:Ro.le ρ ρ') (h:WaterAt ρ p d):WaterAt ρ' p d:=let ⟨r,h1,h2⟩:=h; ⟨r,h1.mono hle,h2.mono hle⟩
end
section
set_option maxHeartbeats 1000000
open Go
def Beo (d:Ditch) (i:Nat):Prop:=∀ x,d.turns[i]? = some x→(0 ≤ x.holder∧x.holder ≤ (d.holders.length:Int) - 1)∧1 ≤ x.hours∧x.hours ≤ 100
def Bck (d:Ditch) (i:Nat):Prop:=∀ x,d.feasts[i]? = some x→(0 ≤ x.low∧x.low ≤ x.high∧x.high ≤ 999999999)∧∀ (y:Span),0 < i→d.feasts[i - 1]? = some y→y.high < x.low
def Ben (d:Ditch) (i:Nat):Prop:=∀ x,d.swaps[i]? = some x→(0 ≤ x.cycle∧x.cycle ≤ 999999999)∧(0 ≤ x.a∧x.a ≤ (d.turns.length:Int) - 1)∧(0 ≤ x.b∧x.b ≤ (d.turns.length:Int) - 1)
def Bek (d:Ditch) (i:Nat):Prop:=∀ x,d.loans[i]? = some x→(0 ≤ x.cycle∧x.cycle ≤ 999999999)∧(0 ≤ x.turn∧x.turn ≤ (d.turns.length:Int) - 1)∧(0 ≤ x.to∧x.to ≤ (d.holders.length:Int) - 1)
def Bel (d:Ditch) (i:Nat):Prop:=∀ x,d.plots[i]? = some x→Hg x.name = true∧(∀ (k:Nat) (y:WPlot),k < i→d.plots[k]? = some y→y.name.toList ≠ x.name.toList)∧(0 ≤ x.holder∧x.holder ≤ (d.holders.length:Int) - 1)∧(0 ≤ x.far∧x.far ≤ 20)∧(0 ≤ x.needs.low∧x.needs.low ≤ x.needs.high∧x.needs.high ≤ 999999999)∧(0 ≤ x.worth∧x.worth ≤ 10000)
def Ayh (d:Ditch):Prop:=Dd d.holders 6 = 0∧(1 ≤ d.turns.length∧d.turns.length ≤ 12)∧∀ j,j < d.turns.length→Beo d j
def Bcm (d:Ditch):Prop:=(0 ≤ d.begin_∧d.begin_ ≤ 999999999)∧(0 ≤ d.week∧d.week ≤ 1000)∧(0 ≤ d.restFrom∧d.restFrom ≤ 1000)∧(0 ≤ d.restLong∧d.restLong ≤ 1000)∧(d.week = 0→d.restFrom + d.restLong ≤ 0)∧(0 < d.week→d.restFrom + d.restLong ≤ d.week∧d.restLong ≠ d.week)∧d.feasts.length ≤ 8∧∀ j,j < d.feasts.length→Bck d j
def Ayg (d:Ditch):Prop:=d.swaps.length ≤ 8∧(∀ j,j < d.swaps.length→Ben d j)∧d.loans.length ≤ 8∧∀ j,j < d.loans.length→Bek d j
def Bcl (d:Ditch):Prop:=(0 ≤ d.flow.low∧d.flow.low ≤ d.flow.high∧d.flow.high ≤ 100000)∧(0 ≤ d.loss.low∧d.loss.low ≤ d.loss.high∧d.loss.high ≤ 1000)∧d.plots.length ≤ 8∧∀ j,j < d.plots.length→Bel d j
theorem Bah {α:Type} {l:List α} {i:Nat} {x:α} (h:l[i]? = some x):i < l.length:=(List.getElem?_eq_some_iff.1 h).1
theorem Bbq {d:Ditch} (h1:Ayh d) (h2:Bcm d) (h3:Ayg d) (h4:Bcl d):DitchOk d :=
 let ⟨a1,a2,a3⟩:=h1; let ⟨b1,b2,b3,b4,b5,b6,b7,b8⟩:=h2; let ⟨c1,c2,c3,c4⟩:=h3; let ⟨e1,e2,e3,e4⟩:=h4
 ⟨a1,a2,fun i x hx=>a3 i (Bah hx) x hx,b1,b2,b3,b4,b5,b6,b7,fun i x hx=>b8 i (Bah hx) x hx,c1,fun i x hx=>c2 i (Bah hx) x hx,c3,fun i x hx=>c4 i (Bah hx) x hx,e1,e2,e3,fun i x hx=>e4 i (Bah hx) x hx⟩
variable {mn:Bool} {X:Frame→List Frame→Ro→Own→Cy→Prop} {ρ:Ro} {σ:Own}
theorem Bes {d:Ditch} {vd vl:Value} {l:WLog} (rd:Val ρ vd d) (rl:Val ρ vl l):CallsH (CX mn X) 29 #[vd,vl] ρ σ (fun w ρ' σ'=>ρ' = ρ∧σ' = σ∧∃ b,w = .bool b):=by
 refine Bh (n:=81) (args:=[vd,vl]) [4] Tryz.func29 rfl rfl rfl rfl fun Q hret hnor=>w_q rfl rfl fun K1 k1=>Arv (Eb (v:=vd) rfl fun k2=>?_)
 refine Bb (a:=d) rd fun ρ2 l2 r2=>?_
 replace rl:=Brp l2 rl
 refine Arv (Eb (v:=vl) rfl fun k3=>?_)
 refine Bb (a:=l) rl fun ρ3 l3 r3=>?_
 replace r2:=At.mono l3 r2
 refine Bma (.bool (false)) (Ary rfl rfl k1 fun K4 K5 k4 k5=>Arw (Ay Ditch.f_holders Bna rfl rfl Hw (by decide) rfl r2) fun v6 r6=>Arw (Ax Hw rfl r6) fun v7 r7=>?_)
 have g8:=Bro r7
 refine l_v (Ci (el:=9) Bnd rfl r7) (l_v (Gl rfl rfl) (Bmb (.bool (decide (((d.holders.length:Nat):Int) > 40))) (Cn (decide (((d.holders.length:Nat):Int) > 40)) (fun b9=>?_) (fun b9=>?_))))
 ·have q9:=of_decide_eq_true b9
  refine Ap (gN rfl b9) (Ap (gN rfl b9) (Ap (gN rfl b9) ?_))
  refine Ap (gN rfl b9) (l_v (Bt rfl b9 (v:=(.bool (true))) rfl) (Bmb (.bool (true)) (Ap (gN rfl rfl) (Ap (gN rfl rfl) (Ap (gN rfl rfl) (Ap (gN rfl rfl) (l_v (Bt rfl rfl (v:=(.bool (true))) rfl) (Bmb (.bool (true)) (Ap (gN rfl rfl) (Ap (gN rfl rfl) (Ap (gN rfl rfl) (Ap (gN rfl rfl) (l_v (Bt rfl rfl (v:=(.bool (true))) rfl) (Bmb (.bool (true)) (Ap (gN rfl rfl) (Ap (gN rfl rfl) (Ap (gN rfl rfl) (Ap (gN rfl rfl) (l_v (Bt rfl rfl (v:=(.bool (true))) rfl) (Bmb (.bool (true)) (Ap (gN rfl rfl) (Ap (gN rfl rfl) (Ap (gN rfl rfl) (Ap (gN rfl rfl) (l_v (Bt rfl rfl (v:=(.bool (true))) rfl) (Bmb (.bool (true)) (Ap (gN rfl rfl) (Ap (gN rfl rfl) (Ap (gN rfl rfl) (Ap (gN rfl rfl) (l_v (Bt rfl rfl (v:=(.bool (true))) rfl) (l_k k5 (Co rfl rfl (w_q rfl rfl fun K10 k10=>Bma (.bool (true)) (l_k k10 (Aj (Brj (Brn l2 l3)) (Aq (hret _ _ _ (⟨rfl,rfl,_,rfl⟩)))))))))))))))))))))))))))))))))))))))
 have q9:=of_decide_eq_false b9
 refine Ak (gY rfl b9) (Ay Ditch.f_turns Bna rfl rfl Atj (by decide) rfl r2) fun v11 r11=>Ak (gY rfl b9) (Ax Atj rfl r11) fun v12 r12=>?_
 have g13:=Bro r12
 refine Aa (gY rfl b9) (Ci (el:=241) Bod rfl r12) (Aa (gY rfl b9) (Gl rfl rfl) (l_v (Bn rfl b9 (v:=(.bool (decide (((d.turns.length:Nat):Int) > 40)))) rfl) (Bmb (.bool (decide (((d.turns.length:Nat):Int) > 40))) (Cn (decide (((d.turns.length:Nat):Int) > 40)) (fun b14=>?_) (fun b14=>?_)))))
 ·have q14:=of_decide_eq_true b14
  refine Ap (gN rfl b14) (Ap (gN rfl b14) (Ap (gN rfl b14) (Ap (gN rfl b14) (l_v (Bt rfl b14 (v:=(.bool (true))) rfl) (Bmb (.bool (true)) (Ap (gN rfl rfl) (Ap (gN rfl rfl) (Ap (gN rfl rfl) (Ap (gN rfl rfl) (l_v (Bt rfl rfl (v:=(.bool (true))) rfl) (Bmb (.bool (true)) (Ap (gN rfl rfl) (Ap (gN rfl rfl) (Ap (gN rfl rfl) (Ap (gN rfl rfl) (l_v (Bt rfl rfl (v:=(.bool (true))) rfl) (Bmb (.bool (true)) (Ap (gN rfl rfl) (Ap (gN rfl rfl) (Ap (gN rfl rfl) (Ap (gN rfl rfl) (l_v (Bt rfl rfl (v:=(.bool (true))) rfl) (Bmb (.bool (true)) (Ap (gN rfl rfl) (Ap (gN rfl rfl) (Ap (gN rfl rfl) (Ap (gN rfl rfl) (l_v (Bt rfl rfl (v:=(.bool (true))) rfl) (l_k k5 (Co rfl rfl (w_q rfl rfl fun K15 k15=>Bma (.bool (true)) (l_k k15 (Aj (Brj (Brn l2 l3)) (Aq (hret _ _ _ (⟨rfl,rfl,_,rfl⟩))))))))))))))))))))))))))))))))))))
 have q14:=of_decide_eq_false b14
 refine Ak (gY rfl b14) (Ay Ditch.f_feasts Bna rfl rfl Uo (by decide) rfl r2) fun v16 r16=>Ak (gY rfl b14) (Ax Uo rfl r16) fun v17 r17=>?_
 have g18:=Bro r17
 refine Aa (gY rfl b14) (Ci (el:=41) Bni rfl r17) (Aa (gY rfl b14) (Gl rfl rfl) (l_v (Bn rfl b14 (v:=(.bool (decide (((d.feasts.length:Nat):Int) > 40)))) rfl) (Bmb (.bool (decide (((d.feasts.length:Nat):Int) > 40))) (Cn (decide (((d.feasts.length:Nat):Int) > 40)) (fun b19=>?_) (fun b19=>?_)))))
 ·have q19:=of_decide_eq_true b19
  refine Ap (gN rfl b19) (Ap (gN rfl b19) (Ap (gN rfl b19) (Ap (gN rfl b19) (l_v (Bt rfl b19 (v:=(.bool (true))) rfl) (Bmb (.bool (true)) (Ap (gN rfl rfl) (Ap (gN rfl rfl) (Ap (gN rfl rfl) (Ap (gN rfl rfl) (l_v (Bt rfl rfl (v:=(.bool (true))) rfl) (Bmb (.bool (true)) (Ap (gN rfl rfl) (Ap (gN rfl rfl) (Ap (gN rfl rfl) (Ap (gN rfl rfl) (l_v (Bt rfl rfl (v:=(.bool (true))) rfl) (Bmb (.bool (true)) (Ap (gN rfl rfl) (Ap (gN rfl rfl) (Ap (gN rfl rfl) (Ap (gN rfl rfl) (l_v (Bt rfl rfl (v:=(.bool (true))) rfl) (l_k k5 (Co rfl rfl (w_q rfl rfl fun K20 k20=>Bma (.bool (true)) (l_k k20 (Aj (Brj (Brn l2 l3)) (Aq (hret _ _ _ (⟨rfl,rfl,_,rfl⟩))))))))))))))))))))))))))))))
 have q19:=of_decide_eq_false b19
 refine Ak (gY rfl b19) (Ay Ditch.f_swaps Bna rfl rfl Atq (by decide) rfl r2) fun v21 r21=>Ak (gY rfl b19) (Ax Atq rfl r21) fun v22 r22=>?_
 have g23:=Bro r22
 refine Aa (gY rfl b19) (Ci (el:=243) Boi rfl r22) (Aa (gY rfl b19) (Gl rfl rfl) (l_v (Bn rfl b19 (v:=(.bool (decide (((d.swaps.length:Nat):Int) > 40)))) rfl) (Bmb (.bool (decide (((d.swaps.length:Nat):Int) > 40))) (Cn (decide (((d.swaps.length:Nat):Int) > 40)) (fun b24=>?_) (fun b24=>?_)))))
 ·have q24:=of_decide_eq_true b24
  refine Ap (gN rfl b24) (Ap (gN rfl b24) (Ap (gN rfl b24) (Ap (gN rfl b24) (l_v (Bt rfl b24 (v:=(.bool (true))) rfl) (Bmb (.bool (true)) (Ap (gN rfl rfl) (Ap (gN rfl rfl) (Ap (gN rfl rfl) (Ap (gN rfl rfl) (l_v (Bt rfl rfl (v:=(.bool (true))) rfl) (Bmb (.bool (true)) (Ap (gN rfl rfl) (Ap (gN rfl rfl) (Ap (gN rfl rfl) (Ap (gN rfl rfl) (l_v (Bt rfl rfl (v:=(.bool (true))) rfl) (l_k k5 (Co rfl rfl (w_q rfl rfl fun K25 k25=>Bma (.bool (true)) (l_k k25 (Aj (Brj (Brn l2 l3)) (Aq (hret _ _ _ (⟨rfl,rfl,_,rfl⟩))))))))))))))))))))))))
 have q24:=of_decide_eq_false b24
 refine Ak (gY rfl b24) (Ay Ditch.f_loans Bna rfl rfl Atk (by decide) rfl r2) fun v26 r26=>Ak (gY rfl b24) (Ax Atk rfl r26) fun v27 r27=>?_
 have g28:=Bro r27
 refine Aa (gY rfl b24) (Ci (el:=90) Bnk rfl r27) (Aa (gY rfl b24) (Gl rfl rfl) (l_v (Bn rfl b24 (v:=(.bool (decide (((d.loans.length:Nat):Int) > 40)))) rfl) (Bmb (.bool (decide (((d.loans.length:Nat):Int) > 40))) (Cn (decide (((d.loans.length:Nat):Int) > 40)) (fun b29=>?_) (fun b29=>?_)))))
 ·have q29:=of_decide_eq_true b29
  refine Ap (gN rfl b29) (Ap (gN rfl b29) (Ap (gN rfl b29) (Ap (gN rfl b29) (l_v (Bt rfl b29 (v:=(.bool (true))) rfl) (Bmb (.bool (true)) (Ap (gN rfl rfl) (Ap (gN rfl rfl) (Ap (gN rfl rfl) (Ap (gN rfl rfl) (l_v (Bt rfl rfl (v:=(.bool (true))) rfl) (l_k k5 (Co rfl rfl (w_q rfl rfl fun K30 k30=>Bma (.bool (true)) (l_k k30 (Aj (Brj (Brn l2 l3)) (Aq (hret _ _ _ (⟨rfl,rfl,_,rfl⟩))))))))))))))))))
 have q29:=of_decide_eq_false b29
 refine Ak (gY rfl b29) (Ay Ditch.f_plots Bna rfl rfl Atl (by decide) rfl r2) fun v31 r31=>Ak (gY rfl b29) (Ax Atl rfl r31) fun v32 r32=>?_
 have g33:=Bro r32
 refine Aa (gY rfl b29) (Ci (el:=184) Bob rfl r32) (Aa (gY rfl b29) (Gl rfl rfl) (l_v (Bn rfl b29 (v:=(.bool (decide (((d.plots.length:Nat):Int) > 40)))) rfl) (Bmb (.bool (decide (((d.plots.length:Nat):Int) > 40))) (Cn (decide (((d.plots.length:Nat):Int) > 40)) (fun b34=>?_) (fun b34=>?_)))))
 ·have q34:=of_decide_eq_true b34
  refine Ap (gN rfl b34) (Ap (gN rfl b34) (Ap (gN rfl b34) (Ap (gN rfl b34) (l_v (Bt rfl b34 (v:=(.bool (true))) rfl) (l_k k5 (Co rfl rfl (w_q rfl rfl fun K35 k35=>Bma (.bool (true)) (l_k k35 (Aj (Brj (Brn l2 l3)) (Aq (hret _ _ _ (⟨rfl,rfl,_,rfl⟩))))))))))))
 have q34:=of_decide_eq_false b34
 refine Ak (gY rfl b34) (Ay WLog.f_openings Tryz.underlying95 rfl rfl Bfw (by decide) rfl r3) fun v36 r36=>Ak (gY rfl b34) (Ax Bfw rfl r36) fun v37 r37=>?_
 have g38:=Bro r37
 refine Aa (gY rfl b34) (Ci (el:=333) Tryz.underlying93 rfl r37) (Aa (gY rfl b34) (Gl rfl rfl) (l_v (Bn rfl b34 (v:=(.bool (decide (((l.openings.length:Nat):Int) > 40)))) rfl) (l_k k5 (Up (t:=decide (((l.openings.length:Nat):Int) > 40)) rfl (fun b39=>?_) (fun b39=>?_)))))
 ·have q39:=of_decide_eq_true b39
  refine w_q rfl rfl fun K40 k40=>Bma (.bool (true)) (l_k k40 (Aj (Brj (Brn l2 l3)) (Aq (hret _ _ _ (⟨rfl,rfl,_,rfl⟩)))))
 have q39:=of_decide_eq_false b39
 refine Al (k4 _ _ _ _ ?_)
 refine w_q rfl rfl fun K41 k41=>Bma (iV (0)) (Ary rfl rfl k41 fun K42 K43 k42 k43=>Bma (iV (0)) (l_k k43 (Ao (Cc (fun mm ee dd ρ' σ'=>∃ (i:Nat) (n:Int),(d.holders.length - i) = mm∧[] = dd∧ρ3 = ρ'∧σ = σ'∧ee 2 = (.pointer (some ⟨k2,0,none⟩))∧ee 5 = (iV (n))∧ee 6 = (iV ((i:Int)))∧(i ≤ d.holders.length)∧True) (m:=_) ⟨0,0,rfl,rfl,rfl,rfl,rfl,rfl,rfl,(Nat.zero_le _),trivial⟩ ?_))))
 rintro m44 e44 _ _ _ ⟨i,n,rfl,rfl,rfl,rfl,h44_2,h44_5,h44_6,p44_0,_⟩
 refine Asb rfl rfl fun K45 K46 k45 k46=>l_v (Ah (v:=(iV ((i:Int)))) h44_6) (Arw (Ay Ditch.f_holders Bna rfl rfl Hw (by decide) h44_2 r2) fun v47 r47=>Arw (Ax Hw rfl r47) fun v48 r48=>?_)
 have g49:=Bro r48
 refine l_v (Ci (el:=9) Bnd rfl r48) (l_v (Da rfl rfl) (l_k k46 (Up (t:=decide ((i:Int) < ((d.holders.length:Nat):Int))) rfl (fun b50=>?_) (fun b50=>?_))))
 ·have q50:=of_decide_eq_true b50
  refine Al (k45 _ _ _ _ ?_)
  refine Ai fun K51 k51=>Ao (Ag rfl rfl (l_v (Ah (v:=(iV (n))) h44_5) (Arw (Ay Ditch.f_holders Bna rfl rfl Hw (by decide) h44_2 r2) fun v52 r52=>Arw (Ax Hw rfl r52) fun v53 r53=>l_v (Ah (v:=(iV ((i:Int)))) h44_6) ?_)))
  obtain ⟨a55,ha55⟩:=Ed (xs:=d.holders) (i:=i) (by omega)
  refine Arw (Ch i Bnd ty9 rfl r53 (q:=(i:Int)) rfl rfl ha55) fun v54 r54=>?_
  have g56:=At.slen r54
  refine l_v (Pk ty9 rfl r54) (l_v (Afz Bnt (s:=a55) rfl) (l_v (Br rfl rfl (z:=(IntKind.i64.wrap (n + ((a55.size:Nat):Int)))) rfl) (Bma (iV ((IntKind.i64.wrap (n + ((a55.size:Nat):Int))))) (l_k k51 (Ag rfl rfl (l_v (Ah (v:=(iV ((i:Int)))) h44_6) (l_v (Br rfl rfl (z:=(((i + 1):Nat):Int)) wrE) (Bma (iV ((((i + 1):Nat):Int))) (Ac ?_)))))))))
  refine ⟨_,?_,((i + 1)),((IntKind.i64.wrap (n + ((a55.size:Nat):Int)))),rfl,rfl,rfl,rfl,h44_2,rfl,rfl,(by omega),trivial⟩
  omega
 have q50:=of_decide_eq_false b50
 refine Bx (k42 _ _ _ _ ?_)
 refine Asb rfl rfl fun K57 K58 k57 k58=>Bma (iV (0)) (l_k k58 (Ao (Cc (fun mm ee dd ρ' σ'=>∃ (i:Nat) (n:Int),(d.plots.length - i) = mm∧[] = dd∧ρ3 = ρ'∧σ = σ'∧ee 2 = (.pointer (some ⟨k2,0,none⟩))∧ee 5 = (iV (n))∧ee 7 = (iV ((i:Int)))∧(i ≤ d.plots.length)∧True) (m:=_) ⟨0,n,rfl,rfl,rfl,rfl,h44_2,h44_5,rfl,(Nat.zero_le _),trivial⟩ ?_)))
 rintro m59 e59 _ _ _ ⟨i,n,rfl,rfl,rfl,rfl,h59_2,h59_5,h59_7,p59_0,_⟩
 refine Asb rfl rfl fun K60 K61 k60 k61=>l_v (Ah (v:=(iV ((i:Int)))) h59_7) (Arw (Ay Ditch.f_plots Bna rfl rfl Atl (by decide) h59_2 r2) fun v62 r62=>Arw (Ax Atl rfl r62) fun v63 r63=>?_)
 have g64:=Bro r63
 refine l_v (Ci (el:=184) Bob rfl r63) (l_v (Da rfl rfl) (l_k k61 (Up (t:=decide ((i:Int) < ((d.plots.length:Nat):Int))) rfl (fun b65=>?_) (fun b65=>?_))))
 ·have q65:=of_decide_eq_true b65
  refine Al (k60 _ _ _ _ ?_)
  refine Ai fun K66 k66=>Ao (Ag rfl rfl (l_v (Ah (v:=(iV (n))) h59_5) (Arw (Ay Ditch.f_plots Bna rfl rfl Atl (by decide) h59_2 r2) fun v67 r67=>Arw (Ax Atl rfl r67) fun v68 r68=>l_v (Ah (v:=(iV ((i:Int)))) h59_7) ?_)))
  obtain ⟨a70,ha70⟩:=Ed (xs:=d.plots) (i:=i) (by omega)
  refine Arw (Ch i Bob Auh rfl r68 (q:=(i:Int)) rfl rfl ha70) fun v69 r69=>Arw (Ay WPlot.f_name Bno rfl rfl ty9 (by decide) rfl r69) fun v71 r71=>?_
  have g72:=At.slen r71
  refine l_v (Pk ty9 rfl r71) (l_v (Afz Bnt (s:=a70.name) rfl) (l_v (Br rfl rfl (z:=(IntKind.i64.wrap (n + ((a70.name.size:Nat):Int)))) rfl) (Bma (iV ((IntKind.i64.wrap (n + ((a70.name.size:Nat):Int))))) (l_k k66 (Ag rfl rfl (l_v (Ah (v:=(iV ((i:Int)))) h59_7) (l_v (Br rfl rfl (z:=(((i + 1):Nat):Int)) wrE) (Bma (iV ((((i + 1):Nat):Int))) (Ac ?_)))))))))
  refine ⟨_,?_,((i + 1)),((IntKind.i64.wrap (n + ((a70.name.size:Nat):Int)))),rfl,rfl,rfl,rfl,h59_2,rfl,rfl,(by omega),trivial⟩
  omega
 have q65:=of_decide_eq_false b65
 refine Bx (k57 _ _ _ _ ?_)
 refine w_q rfl rfl fun K73 k73=>l_v (Ah (v:=(iV (n))) h59_5) (l_v (Gl rfl rfl) (Bma (.bool (decide (n > 1000))) (l_k k73 (Aj (Brj (Brn l2 l3)) (Aq (hret _ _ _ (⟨rfl,rfl,_,rfl⟩)))))))
theorem Azo {d:Ditch} {vd:Value} (rd:Val ρ vd d):CallsH (CX mn X) 73 #[vd] ρ σ (fun w ρ' σ'=>ρ' = ρ∧σ' = σ∧∃ f:Int,w = .int .i64 f∧(f = 0→Ayh d)):=by
 refine Bh (n:=66) (args:=[vd]) [2] Tryz.func73 rfl rfl rfl rfl fun Q hret hnor=>w_q rfl rfl fun K1 k1=>Arv (Eb (v:=vd) rfl fun k2=>?_)
 refine Bb (a:=d) rd fun ρ2 l2 r2=>Bma (iV (0)) (Ary rfl rfl k1 fun K3 K4 k3 k4=>Arw (Ay Ditch.f_holders Bna rfl rfl Hw (by decide) rfl r2) fun v5 r5=>Arw (Ax Hw rfl r5) fun v6 r6=>?_)
 have g7:=Bro r6
 refine l_v (Ci (el:=9) Bnd rfl r6) (l_v (Gl rfl rfl) (l_k k4 (Up (t:=decide (((d.holders.length:Nat):Int) > 6)) rfl (fun b8=>?_) (fun b8=>?_))))
 ·have q8:=of_decide_eq_true b8
  refine w_q rfl rfl fun K9 k9=>Bma (iV (2)) (l_k k9 (Aj (Brj l2) (Aq (hret _ _ _ (⟨rfl,rfl,_,rfl,fun h=>absurd h (by decide)⟩)))))
 have q8:=of_decide_eq_false b8
 refine Al (k3 _ _ _ _ ?_)
 refine Asb rfl rfl fun K10 K11 k10 k11=>Bma (iV (0)) (l_k k11 (Ao (Cc (fun mm ee dd ρ' σ'=>∃ (i:Nat),(d.holders.length - i) = mm∧[] = dd∧ρ2 = ρ'∧σ = σ'∧ee 1 = (.pointer (some ⟨k2,0,none⟩))∧ee 3 = (iV ((i:Int)))∧(i ≤ d.holders.length)∧(∀ j,j < i→Nh d.holders j = 0)∧True) (m:=_) ⟨0,rfl,rfl,rfl,rfl,rfl,rfl,(Nat.zero_le _),(fun j h=>absurd h (Nat.not_lt_zero _)),trivial⟩ ?_)))
 rintro m12 e12 _ _ _ ⟨i,rfl,rfl,rfl,rfl,h12_1,h12_3,p12_0,p12_1,_⟩
 refine Asb rfl rfl fun K13 K14 k13 k14=>l_v (Ah (v:=(iV ((i:Int)))) h12_3) (Arw (Ay Ditch.f_holders Bna rfl rfl Hw (by decide) h12_1 r2) fun v15 r15=>Arw (Ax Hw rfl r15) fun v16 r16=>?_)
 have g17:=Bro r16
 refine l_v (Ci (el:=9) Bnd rfl r16) (l_v (Da rfl rfl) (l_k k14 (Up (t:=decide ((i:Int) < ((d.holders.length:Nat):Int))) rfl (fun b18=>?_) (fun b18=>?_))))
 ·have q18:=of_decide_eq_true b18
  refine Al (k13 _ _ _ _ ?_)
  refine Ai fun K19 k19=>Ao (Asb rfl rfl fun K20 K21 k20 k21=>Arw (Ay Ditch.f_holders Bna rfl rfl Hw (by decide) h12_1 r2) fun v22 r22=>Arw (Ax Hw rfl r22) fun v23 r23=>l_v (Ah (v:=(iV ((i:Int)))) h12_3) ?_)
  obtain ⟨a25,ha25⟩:=Ed (xs:=d.holders) (i:=i) (by omega)
  refine Arw (Ch i Bnd ty9 rfl r23 (q:=(i:Int)) rfl rfl ha25) fun v24 r24=>?_
  have g26:=At.slen r24
  refine l_v (Pk ty9 rfl r24) (Arv (Bm (Azk) Bqn rfl rfl ⟨rfl,trivial⟩ ?_))
  refine l_v (Iy rfl) (l_k k21 (Up (t:=!(Hg a25)) rfl (fun b27=>?_) (fun b27=>?_)))
  ·have b28:=not_eq_t b27
   refine w_q rfl rfl fun K29 k29=>Bma (iV (4)) (l_k k29 (Aj (Brj l2) (Aq (hret _ _ _ (⟨rfl,rfl,_,rfl,fun h=>absurd h (by decide)⟩)))))
  have b30:=not_eq_f b27
  refine Al (k20 _ _ _ _ ?_)
  refine Ai fun K31 k31=>Bmw (Bms 0 Bbf rfl (Ay Ditch.f_holders Bna rfl rfl Hw (by decide) h12_1 r2) fun v32 r32=>Bms 1 Bbg rfl (Ax Hw rfl r32) fun v33 r33=>Bmq 2 Bbh rfl (Ah (v:=(iV ((i:Int)))) h12_3) (Bms 3 Bbi rfl (Avf i Bnd ty9 rfl r33 (q:=(i:Int)) rfl rfl (by omega)) fun v34 r34=>Bms 4 Bbj rfl (Ay Ditch.f_holders Bna rfl rfl Hw (by decide) h12_1 r2) fun v35 r35=>Bms 5 Arg rfl (Ax Hw rfl r35) fun v36 r36=>Bmr 6 zZ2 rfl (Ah (v:=(iV ((i:Int)))) h12_3) (Bmu 7 zZ3 rfl (Ch i Bnd ty9 rfl r36 (q:=(i:Int)) rfl rfl ha25) fun v37 r37=>?_)))
  have g38:=At.slen r37
  refine Bmr 8 zZ4 rfl (Pk ty9 rfl r37) (Bmt 9 zZ5 rfl (Bm (Ber r34) Tryz.func109 rfl rfl ⟨rfl,rfl,trivial⟩ ⟨Brm,?_⟩))
  refine Bmr 10 zZ6 rfl (Uy rfl rfl) (Ec rfl (k31 _ _ _ _ ?_))
  refine Up (t:=decide (Aht ((d.holders.take i)) a25 ≥ 0)) rfl (fun b39=>?_) (fun b39=>?_)
  ·have q39:=of_decide_eq_true b39
   refine w_q rfl rfl fun K40 k40=>Bma (iV (5)) (l_k k40 (Aj (Brj l2) (Aq (hret _ _ _ (⟨rfl,rfl,_,rfl,fun h=>absurd h (by decide)⟩)))))
  have q39:=of_decide_eq_false b39
  refine Al (k19 _ _ _ _ ?_)
  refine Ag rfl rfl (l_v (Ah (v:=(iV ((i:Int)))) h12_3) (l_v (Br rfl rfl (z:=(((i + 1):Nat):Int)) wrE) (Bma (iV ((((i + 1):Nat):Int))) (Ac ?_))))
  refine ⟨_,?_,((i + 1)),rfl,rfl,rfl,rfl,h12_1,rfl,(by omega),(Eg p12_1 (by simp only [Nh,ha25,b8,b18,b27,b30,b39]; first | rfl | omega | (simp; done) | (simp; omega))),trivial⟩
  omega
 have q18:=of_decide_eq_false b18
 refine Bx (k10 _ _ _ _ ?_)
 refine Asb rfl rfl fun K41 K42 k41 k42=>Arw (Ay Ditch.f_turns Bna rfl rfl Atj (by decide) h12_1 r2) fun v43 r43=>Arw (Ax Atj rfl r43) fun v44 r44=>?_
 have g45:=Bro r44
 refine l_v (Ci (el:=241) Bod rfl r44) (Arv (Bm (Aul) Bog rfl rfl ⟨rfl,rfl,rfl,trivial⟩ ?_))
 refine l_v (Iy rfl) (l_k k42 (Up (t:=!(inR (((d.turns.length:Nat):Int)) 1 12)) rfl (fun b46=>?_) (fun b46=>?_)))
 ·have b47:=not_eq_t b46
  have q47:=Tr.1 b47
  refine w_q rfl rfl fun K48 k48=>Bma (iV (2)) (l_k k48 (Aj (Brj l2) (Aq (hret _ _ _ (⟨rfl,rfl,_,rfl,fun h=>absurd h (by decide)⟩)))))
 have b49:=not_eq_f b46
 have q49:=Fz.1 b49
 refine Al (k41 _ _ _ _ ?_)
 refine Asb rfl rfl fun K50 K51 k50 k51=>Bma (iV (0)) (l_k k51 (Ao (Cc (fun mm ee dd ρ' σ'=>∃ (k:Nat),(d.turns.length - k) = mm∧[] = dd∧ρ2 = ρ'∧σ = σ'∧ee 1 = (.pointer (some ⟨k2,0,none⟩))∧ee 4 = (iV ((k:Int)))∧(k ≤ d.turns.length)∧(∀ j,j < k→Beo d j)∧True) (m:=_) ⟨0,rfl,rfl,rfl,rfl,h12_1,rfl,(Nat.zero_le _),(fun j h=>absurd h (Nat.not_lt_zero _)),trivial⟩ ?_)))
 rintro m52 e52 _ _ _ ⟨k,rfl,rfl,rfl,rfl,h52_1,h52_4,p52_0,p52_1,_⟩
 refine Asb rfl rfl fun K53 K54 k53 k54=>l_v (Ah (v:=(iV ((k:Int)))) h52_4) (Arw (Ay Ditch.f_turns Bna rfl rfl Atj (by decide) h52_1 r2) fun v55 r55=>Arw (Ax Atj rfl r55) fun v56 r56=>?_)
 have g57:=Bro r56
 refine l_v (Ci (el:=241) Bod rfl r56) (l_v (Da rfl rfl) (l_k k54 (Up (t:=decide ((k:Int) < ((d.turns.length:Nat):Int))) rfl (fun b58=>?_) (fun b58=>?_))))
 ·have q58:=of_decide_eq_true b58
  refine Al (k53 _ _ _ _ ?_)
  refine Ai fun K59 k59=>Ao (Ai fun K60 k60=>Ai fun K61 k61=>Bmw (Bms 0 Bgo rfl (Ay Ditch.f_turns Bna rfl rfl Atj (by decide) h52_1 r2) fun v62 r62=>Bms 1 Bgp rfl (Ax Atj rfl r62) fun v63 r63=>Bmq 2 Bgq rfl (Ah (v:=(iV ((k:Int)))) h52_4) ?_))
  obtain ⟨a65,ha65⟩:=Ed (xs:=d.turns) (i:=k) (by omega)
  refine Bms 3 Bgr rfl (Ch k Bod Avp rfl r63 (q:=(k:Int)) rfl rfl ha65) fun v64 r64=>Bms 4 Bgs rfl (Ay WTurn.f_holder Boq rfl rfl ty3 (by decide) rfl r64) fun v66 r66=>?_
  have ⟨g67a,g67b⟩:=Brh r66
  refine Bmq 5 Bgt rfl (Bc ty3 rfl r66) (Bmu 6 Bgu rfl (Ay Ditch.f_holders Bna rfl rfl Hw (by decide) h52_1 r2) fun v68 r68=>Bmu 7 Bdk rfl (Ax Hw rfl r68) fun v69 r69=>?_)
  have g70:=Bro r69
  refine Bmr 8 Aou rfl (Ci (el:=9) Bnd rfl r69) (Bmr 9 Are rfl (Ou rfl rfl (z:=(((d.holders.length:Nat):Int) - 1)) wrE) (Bmt 10 zZ0 rfl (Bm (Aul) Bog rfl rfl ⟨rfl,rfl,rfl,trivial⟩ ⟨Brm,?_⟩)))
  refine Bmr 11 zZ1 rfl (Iy rfl) (Ec rfl (k61 _ _ _ _ ?_))
  refine Up (t:=!(inR a65.holder 0 ((((d.holders.length:Nat):Int) - 1)))) rfl (fun b71=>?_) (fun b71=>?_)
  ·have b72:=not_eq_t b71
   have q72:=Tr.1 b72
   refine w_q rfl rfl fun K73 k73=>Bma (iV (6)) (l_k k73 (Aj (Brj l2) (Aq (hret _ _ _ (⟨rfl,rfl,_,rfl,fun h=>absurd h (by decide)⟩)))))
  have b74:=not_eq_f b71
  have q74:=Fz.1 b74
  refine Al (k60 _ _ _ _ ?_)
  refine w_q rfl rfl fun K75 k75=>Arw (Ay Ditch.f_turns Bna rfl rfl Atj (by decide) h52_1 r2) fun v76 r76=>Arw (Ax Atj rfl r76) fun v77 r77=>l_v (Ah (v:=(iV ((k:Int)))) h52_4) (Arw (Ch k Bod Avp rfl r77 (q:=(k:Int)) rfl rfl ha65) fun v78 r78=>Arw (Ay WTurn.f_hours Boq rfl rfl ty3 (by decide) rfl r78) fun v79 r79=>?_)
  have ⟨g80a,g80b⟩:=Brh r79
  refine l_v (Bc ty3 rfl r79) (Arv (Bm (Aul) Bog rfl rfl ⟨rfl,rfl,rfl,trivial⟩ ?_))
  refine l_v (Iy rfl) (l_k k75 (Up (t:=!(inR a65.hours 1 100)) rfl (fun b81=>?_) (fun b81=>?_)))
  ·have b82:=not_eq_t b81
   have q82:=Tr.1 b82
   refine w_q rfl rfl fun K83 k83=>Bma (iV (1)) (l_k k83 (Aj (Brj l2) (Aq (hret _ _ _ (⟨rfl,rfl,_,rfl,fun h=>absurd h (by decide)⟩)))))
  have b84:=not_eq_f b81
  have q84:=Fz.1 b84
  refine Al (k59 _ _ _ _ ?_)
  refine Ag rfl rfl (l_v (Ah (v:=(iV ((k:Int)))) h52_4) (l_v (Br rfl rfl (z:=(((k + 1):Nat):Int)) wrE) (Bma (iV ((((k + 1):Nat):Int))) (Ac ?_))))
  refine ⟨_,?_,((k + 1)),rfl,rfl,rfl,rfl,h52_1,rfl,(by omega),(Eg p52_1 (fun x hx=>by rw [ha65] at hx; cases hx; exact ⟨by omega,by omega⟩)),trivial⟩
  omega
 have q58:=of_decide_eq_false b58
 refine Bx (k50 _ _ _ _ ?_)
 refine w_q rfl rfl fun K85 k85=>Bma (iV (0)) (l_k k85 (Aj (Brj l2) (Aq (hret _ _ _ (⟨rfl,rfl,_,rfl,fun _=>⟨(by rw [Dd,if_neg (by omega),Fb fun j hj=>p12_1 j (by omega)]),by omega,fun j hj=>p52_1 j (by omega)⟩⟩)))))
theorem Bbp {d:Ditch} {vd:Value} (rd:Val ρ vd d):CallsH (CX mn X) 74 #[vd] ρ σ (fun w ρ' σ'=>ρ' = ρ∧σ' = σ∧∃ f:Int,w = .int .i64 f∧(f = 0→Bcm d)):=by
 refine Bh (n:=95) (args:=[vd]) [2] Tryz.func74 rfl rfl rfl rfl fun Q hret hnor=>w_q rfl rfl fun K1 k1=>Arv (Eb (v:=vd) rfl fun k2=>?_)
 refine Bb (a:=d) rd fun ρ2 l2 r2=>Bma (iV (0)) (Ary rfl rfl k1 fun K3 K4 k3 k4=>Arw (Ay Ditch.f_begin_ Bna rfl rfl ty3 (by decide) rfl r2) fun v5 r5=>?_)
 have ⟨g6a,g6b⟩:=Brh r5
 refine l_v (Bc ty3 rfl r5) (Arv (Bm (Aul) Bog rfl rfl ⟨rfl,rfl,rfl,trivial⟩ ?_))
 refine l_v (Iy rfl) (Bmb (.bool (!(inR d.begin_ 0 999999999))) (Cn (!(inR d.begin_ 0 999999999)) (fun b7=>?_) (fun b7=>?_)))
 ·have b8:=not_eq_t b7
  have q8:=Tr.1 b8
  refine Ap (gN rfl b7) (Ap (gN rfl b7) (Ap (gN rfl b7) (Ap (gN rfl b7) (l_v (Bt rfl b7 (v:=(.bool (true))) rfl) (Bmb (.bool (true)) (Ap (gN rfl rfl) (Ap (gN rfl rfl) (Ap (gN rfl rfl) (Ap (gN rfl rfl) (l_v (Bt rfl rfl (v:=(.bool (true))) rfl) (Bmb (.bool (true)) (Ap (gN rfl rfl) (Ap (gN rfl rfl) (Ap (gN rfl rfl) (Ap (gN rfl rfl) (l_v (Bt rfl rfl (v:=(.bool (true))) rfl) (l_k k4 (Co rfl rfl (w_q rfl rfl fun K9 k9=>Bma (iV (1)) (l_k k9 (Aj (Brj l2) (Aq (hret _ _ _ (⟨rfl,rfl,_,rfl,fun h=>absurd h (by decide)⟩))))))))))))))))))))))))
 have b10:=not_eq_f b7
 have q10:=Fz.1 b10
 refine Ak (gY rfl b7) (Ay Ditch.f_week Bna rfl rfl ty3 (by decide) rfl r2) fun v11 r11=>?_
 have ⟨g12a,g12b⟩:=Brh r11
 refine Aa (gY rfl b7) (Bc ty3 rfl r11) (Ae (gY rfl b7) (Bm (Aul) Bog rfl rfl ⟨rfl,rfl,rfl,trivial⟩ ?_))
 refine Aa (gY rfl b7) (Iy rfl) (l_v (Bn rfl b7 (v:=(.bool (!(inR d.week 0 1000)))) rfl) (Bmb (.bool (!(inR d.week 0 1000))) (Cn (!(inR d.week 0 1000)) (fun b13=>?_) (fun b13=>?_))))
 ·have b14:=not_eq_t b13
  have q14:=Tr.1 b14
  refine Ap (gN rfl b13) (Ap (gN rfl b13) (Ap (gN rfl b13) (Ap (gN rfl b13) (l_v (Bt rfl b13 (v:=(.bool (true))) rfl) (Bmb (.bool (true)) (Ap (gN rfl rfl) (Ap (gN rfl rfl) (Ap (gN rfl rfl) (Ap (gN rfl rfl) (l_v (Bt rfl rfl (v:=(.bool (true))) rfl) (l_k k4 (Co rfl rfl (w_q rfl rfl fun K15 k15=>Bma (iV (1)) (l_k k15 (Aj (Brj l2) (Aq (hret _ _ _ (⟨rfl,rfl,_,rfl,fun h=>absurd h (by decide)⟩))))))))))))))))))
 have b16:=not_eq_f b13
 have q16:=Fz.1 b16
 refine Ak (gY rfl b13) (Ay Ditch.f_restFrom Bna rfl rfl ty3 (by decide) rfl r2) fun v17 r17=>?_
 have ⟨g18a,g18b⟩:=Brh r17
 refine Aa (gY rfl b13) (Bc ty3 rfl r17) (Ae (gY rfl b13) (Bm (Aul) Bog rfl rfl ⟨rfl,rfl,rfl,trivial⟩ ?_))
 refine Aa (gY rfl b13) (Iy rfl) (l_v (Bn rfl b13 (v:=(.bool (!(inR d.restFrom 0 1000)))) rfl) (Bmb (.bool (!(inR d.restFrom 0 1000))) (Cn (!(inR d.restFrom 0 1000)) (fun b19=>?_) (fun b19=>?_))))
 ·have b20:=not_eq_t b19
  have q20:=Tr.1 b20
  refine Ap (gN rfl b19) (Ap (gN rfl b19) (Ap (gN rfl b19) (Ap (gN rfl b19) (l_v (Bt rfl b19 (v:=(.bool (true))) rfl) (l_k k4 (Co rfl rfl (w_q rfl rfl fun K21 k21=>Bma (iV (1)) (l_k k21 (Aj (Brj l2) (Aq (hret _ _ _ (⟨rfl,rfl,_,rfl,fun h=>absurd h (by decide)⟩))))))))))))
 have b22:=not_eq_f b19
 have q22:=Fz.1 b22
 refine Ak (gY rfl b19) (Ay Ditch.f_restLong Bna rfl rfl ty3 (by decide) rfl r2) fun v23 r23=>?_
 have ⟨g24a,g24b⟩:=Brh r23
 refine Aa (gY rfl b19) (Bc ty3 rfl r23) (Ae (gY rfl b19) (Bm (Aul) Bog rfl rfl ⟨rfl,rfl,rfl,trivial⟩ ?_))
 refine Aa (gY rfl b19) (Iy rfl) (l_v (Bn rfl b19 (v:=(.bool (!(inR d.restLong 0 1000)))) rfl) (l_k k4 (Up (t:=!(inR d.restLong 0 1000)) rfl (fun b25=>?_) (fun b25=>?_))))
 ·have b26:=not_eq_t b25
  have q26:=Tr.1 b26
  refine w_q rfl rfl fun K27 k27=>Bma (iV (1)) (l_k k27 (Aj (Brj l2) (Aq (hret _ _ _ (⟨rfl,rfl,_,rfl,fun h=>absurd h (by decide)⟩)))))
 have b28:=not_eq_f b25
 have q28:=Fz.1 b28
 refine Al (k3 _ _ _ _ ?_)
 refine Ai fun K29 k29=>?_
 have kj29:∀  (ee:Env),(ee 1 = (.pointer (some ⟨k2,0,none⟩)))∧((0 ≤ d.begin_∧d.begin_ ≤ 999999999)∧(0 ≤ d.week∧d.week ≤ 1000)∧(0 ≤ d.restFrom∧d.restFrom ≤ 1000)∧(0 ≤ d.restLong∧d.restLong ≤ 1000))∧(d.week = 0→d.restFrom + d.restLong ≤ 0)∧(0 < d.week→d.restFrom + d.restLong ≤ d.week∧d.restLong ≠ d.week)∧True→K29 ee ([]) ρ2 σ:=by
  rintro e29 ⟨h29_1,p29_0,p29_1,p29_2,_⟩
  apply k29
  refine Asb rfl rfl fun K30 K31 k30 k31=>Arw (Ay Ditch.f_feasts Bna rfl rfl Uo (by decide) h29_1 r2) fun v32 r32=>Arw (Ax Uo rfl r32) fun v33 r33=>?_
  have g34:=Bro r33
  refine l_v (Ci (el:=41) Bni rfl r33) (l_v (Gl rfl rfl) (l_k k31 (Up (t:=decide (((d.feasts.length:Nat):Int) > 8)) rfl (fun b35=>?_) (fun b35=>?_))))
  ·have q35:=of_decide_eq_true b35
   refine w_q rfl rfl fun K36 k36=>Bma (iV (2)) (l_k k36 (Aj (Brj l2) (Aq (hret _ _ _ (⟨rfl,rfl,_,rfl,fun h=>absurd h (by decide)⟩)))))
  have q35:=of_decide_eq_false b35
  refine Al (k30 _ _ _ _ ?_)
  refine Asb rfl rfl fun K37 K38 k37 k38=>Bma (iV (0)) (l_k k38 (Ao (Cc (fun mm ee dd ρ' σ'=>∃ (i:Nat),(d.feasts.length - i) = mm∧[] = dd∧ρ2 = ρ'∧σ = σ'∧ee 1 = (.pointer (some ⟨k2,0,none⟩))∧ee 3 = (iV ((i:Int)))∧(i ≤ d.feasts.length)∧(∀ j,j < i→Bck d j)∧True) (m:=_) ⟨0,rfl,rfl,rfl,rfl,h29_1,rfl,(Nat.zero_le _),(fun j h=>absurd h (Nat.not_lt_zero _)),trivial⟩ ?_)))
  rintro m39 e39 _ _ _ ⟨i,rfl,rfl,rfl,rfl,h39_1,h39_3,p39_0,p39_1,_⟩
  refine Asb rfl rfl fun K40 K41 k40 k41=>l_v (Ah (v:=(iV ((i:Int)))) h39_3) (Arw (Ay Ditch.f_feasts Bna rfl rfl Uo (by decide) h39_1 r2) fun v42 r42=>Arw (Ax Uo rfl r42) fun v43 r43=>?_)
  have g44:=Bro r43
  refine l_v (Ci (el:=41) Bni rfl r43) (l_v (Da rfl rfl) (l_k k41 (Up (t:=decide ((i:Int) < ((d.feasts.length:Nat):Int))) rfl (fun b45=>?_) (fun b45=>?_))))
  ·have q45:=of_decide_eq_true b45
   refine Al (k40 _ _ _ _ ?_)
   refine Ai fun K46 k46=>Ao (Asb rfl rfl fun K47 K48 k47 k48=>Arw (Ay Ditch.f_feasts Bna rfl rfl Uo (by decide) h39_1 r2) fun v49 r49=>Arw (Ax Uo rfl r49) fun v50 r50=>l_v (Ah (v:=(iV ((i:Int)))) h39_3) ?_)
   obtain ⟨a52,ha52⟩:=Ed (xs:=d.feasts) (i:=i) (by omega)
   refine Arw (Ch i Bni Mx rfl r50 (q:=(i:Int)) rfl rfl ha52) fun v51 r51=>Arw (Ax Mx rfl r51) fun v53 r53=>Arv (Bm (Aum r53) Bpw rfl rfl ⟨rfl,rfl,rfl,trivial⟩ ?_)
   refine l_v (Iy rfl) (l_k k48 (Up (t:=!(Ef a52 0 999999999)) rfl (fun b54=>?_) (fun b54=>?_)))
   ·have b55:=not_eq_t b54
    have q55:=trivial
    refine w_q rfl rfl fun K56 k56=>Bma (iV (1)) (l_k k56 (Aj (Brj l2) (Aq (hret _ _ _ (⟨rfl,rfl,_,rfl,fun h=>absurd h (by decide)⟩)))))
   have b57:=not_eq_f b54
   have q57:=Re.1 b57
   refine Al (k47 _ _ _ _ ?_)
   refine Ai fun K58 k58=>Bmw (Bmr 0 [o1,o0,o0,o0,o0,o0,o0,o0,o0,o0,o0,o0,o0,o0,o0,o0,o0,o0] rfl (Ah (v:=(iV ((i:Int)))) h39_3) (Bmr 1 [o1,o1,o0,o0,o0,o0,o0,o0,o0,o0,o0,o0,o0,o0,o0,o0,o0,o0] rfl (Gl rfl rfl) (Bmr 2 [o1,o1,o1,o0,o0,o0,o0,o0,o0,o0,o0,o0,o0,o0,o0,o0,o0,o0] rfl (Ah (v:=(.bool (decide ((i:Int) > 0)))) rfl) (Akk (decide ((i:Int) > 0)) (fun b59=>?_) (fun b59=>?_)))))
   ·have q59:=of_decide_eq_true b59
    refine Bme 3 Bjd rfl Brm (gY rfl b59) (Ay Ditch.f_feasts Bna rfl rfl Uo (by decide) h39_1 r2) fun v60 r60=>Bme 4 Bje rfl Brm (gY rfl b59) (Ax Uo rfl r60) fun v61 r61=>Bmc 5 Bjf rfl Brm (gY rfl b59) (Ah (v:=(iV ((i:Int)))) h39_3) (Bme 6 Bjg rfl Brm (gY rfl b59) (Ch i Bni Mx rfl r61 (q:=(i:Int)) rfl rfl ha52) fun v62 r62=>Bme 7 Bjh rfl Brm (gY rfl b59) (Ay Span.f_low Bnj rfl rfl ty3 (by decide) rfl r62) fun v63 r63=>?_)
    have ⟨g64a,g64b⟩:=Brh r63
    refine Bmc 8 Bji rfl Brm (gY rfl b59) (Bc ty3 rfl r63) (Bme 9 Bjj rfl Brm (gY rfl b59) (Ay Ditch.f_feasts Bna rfl rfl Uo (by decide) h39_1 r2) fun v65 r65=>Bme 10 Bjk rfl Brm (gY rfl b59) (Ax Uo rfl r65) fun v66 r66=>Bmd 11 Bjl rfl Brm (gY rfl b59) (Ah (v:=(iV ((i:Int)))) h39_3) (Bmd 12 Bjm rfl Brm (gY rfl b59) (Ou rfl rfl (z:=(((i - 1):Nat):Int)) (Bo (by omega) (by omega) (by omega))) ?_))
    obtain ⟨a68,ha68⟩:=Ed (xs:=d.feasts) (i:=(i - 1)) (by omega)
    refine Bmg 13 Bjn rfl Brm (gY rfl b59) (Ch ((i - 1)) Bni Mx rfl r66 (q:=(((i - 1):Nat):Int)) rfl rfl ha68) fun v67 r67=>Bmg 14 Bjo rfl Brm (gY rfl b59) (Ay Span.f_high Bnj rfl rfl ty3 (by decide) rfl r67) fun v69 r69=>?_
    have ⟨g70a,g70b⟩:=Brh r69
    refine Bmd 15 Bjp rfl Brm (gY rfl b59) (Bc ty3 rfl r69) (Bmd 16 Bjq rfl Brm (gY rfl b59) (Uz rfl rfl) (Bmr 17 Bjr rfl (Bt rfl b59 (v:=(.bool (decide (a52.low ≤ a68.high)))) rfl) (Ec rfl (k58 _ _ _ _ ?_))))
    refine Up (t:=decide (a52.low ≤ a68.high)) rfl (fun b71=>?_) (fun b71=>?_)
    ·have q71:=of_decide_eq_true b71
     refine w_q rfl rfl fun K72 k72=>Bma (iV (7)) (l_k k72 (Aj (Brj l2) (Aq (hret _ _ _ (⟨rfl,rfl,_,rfl,fun h=>absurd h (by decide)⟩)))))
    have q71:=of_decide_eq_false b71
    refine Al (k46 _ _ _ _ ?_)
    refine Ag rfl rfl (l_v (Ah (v:=(iV ((i:Int)))) h39_3) (l_v (Br rfl rfl (z:=(((i + 1):Nat):Int)) wrE) (Bma (iV ((((i + 1):Nat):Int))) (Ac ?_))))
    refine ⟨_,?_,((i + 1)),rfl,rfl,rfl,rfl,h39_1,rfl,(by omega),(Eg p39_1 (fun x hx=>by rw [ha52] at hx; cases hx; exact ⟨q57,fun y _ hy=>by rw [show i - 1 = (i - 1) from rfl,ha68] at hy; cases hy; omega⟩)),trivial⟩
    omega
   have q59:=of_decide_eq_false b59
   refine Bmh 3 Bjd rfl Brm (gN rfl b59) (Bmh 4 Bje rfl Brm (gN rfl b59) (Bmh 5 Bjf rfl Brm (gN rfl b59) (Bmh 6 Bjg rfl Brm (gN rfl b59) (Bmh 7 Bjh rfl Brm (gN rfl b59) (Bmh 8 Bji rfl Brm (gN rfl b59) (Bmh 9 Bjj rfl Brm (gN rfl b59) (Bmh 10 Bjk rfl Brm (gN rfl b59) (Bmi 11 Bjl rfl Brm (gN rfl b59) (Bmi 12 Bjm rfl Brm (gN rfl b59) (Bmi 13 Bjn rfl Brm (gN rfl b59) (Bmi 14 Bjo rfl Brm (gN rfl b59) (Bmi 15 Bjp rfl Brm (gN rfl b59) (Bmi 16 Bjq rfl Brm (gN rfl b59) (Bmr 17 Bjr rfl (Bn rfl b59 (v:=(.bool (false))) rfl) (Ec rfl (k58 _ _ _ _ ?_))))))))))))))))
   refine Cg rfl rfl (Al (k46 _ _ _ _ ?_))
   refine Ag rfl rfl (l_v (Ah (v:=(iV ((i:Int)))) h39_3) (l_v (Br rfl rfl (z:=(((i + 1):Nat):Int)) wrE) (Bma (iV ((((i + 1):Nat):Int))) (Ac ?_))))
   refine ⟨_,?_,((i + 1)),rfl,rfl,rfl,rfl,h39_1,rfl,(by omega),(Eg p39_1 (fun x hx=>by rw [ha52] at hx; cases hx; exact ⟨q57,fun y h _=>absurd h (by omega)⟩)),trivial⟩
   omega
  have q45:=of_decide_eq_false b45
  refine Bx (k37 _ _ _ _ ?_)
  refine w_q rfl rfl fun K73 k73=>Bma (iV (0)) (l_k k73 (Aj (Brj l2) (Aq (hret _ _ _ (⟨rfl,rfl,_,rfl,fun _=>⟨by omega,by omega,by omega,by omega,by omega,by omega,by omega,fun j hj=>p39_1 j (by omega)⟩⟩)))))
 refine w_q rfl rfl fun K74 k74=>Arw (Ay Ditch.f_week Bna rfl rfl ty3 (by decide) rfl r2) fun v75 r75=>?_
 have ⟨g76a,g76b⟩:=Brh r75
 refine l_v (Bc ty3 rfl r75) (l_v (Ek rfl rfl) (Bmb (.bool (d.week == 0)) (Cn (d.week == 0) (fun b77=>?_) (fun b77=>?_))))
 ·have q77:=Jr b77
  refine Ak (gY rfl b77) (Ay Ditch.f_restFrom Bna rfl rfl ty3 (by decide) rfl r2) fun v78 r78=>?_
  have ⟨g79a,g79b⟩:=Brh r78
  refine Aa (gY rfl b77) (Bc ty3 rfl r78) (Ak (gY rfl b77) (Ay Ditch.f_restLong Bna rfl rfl ty3 (by decide) rfl r2) fun v80 r80=>?_)
  have ⟨g81a,g81b⟩:=Brh r80
  refine Aa (gY rfl b77) (Bc ty3 rfl r80) (Aa (gY rfl b77) (Br rfl rfl (z:=(d.restFrom + d.restLong)) (Bo (by rfl) (by omega) (by omega))) (Aa (gY rfl b77) (Gl rfl rfl) (l_v (Bt rfl b77 (v:=(.bool (decide ((d.restFrom + d.restLong) > 0)))) rfl) (Bmb (.bool (decide ((d.restFrom + d.restLong) > 0))) (Cn (decide ((d.restFrom + d.restLong) > 0)) (fun b82=>?_) (fun b82=>?_))))))
  ·have q82:=of_decide_eq_true b82
   refine Ap (gN rfl b82) (Ap (gN rfl b82) (Ap (gN rfl b82) (Ap (gN rfl b82) (Ap (Jf rfl rfl rfl) (Ap (Jf rfl rfl rfl) (Ap (Jf rfl rfl rfl) (Ap (Jf rfl rfl rfl) (Ap (Jf rfl rfl rfl) (Ap (Jf rfl rfl rfl) (Ap (Jf rfl rfl rfl) (Ap (Jf rfl rfl rfl) (Ap (Jf rfl rfl rfl) (Ap (Jf rfl rfl rfl) (Ap (Jf rfl rfl rfl) (Ap (Jf rfl rfl rfl) (Ap (Jf rfl rfl rfl) (Ap (Jf rfl rfl rfl) (Ap (Jf rfl rfl rfl) (Ap (gN rfl b82) (l_v (Bt rfl b82 (v:=(.bool (true))) rfl) (l_k k74 (Co rfl rfl (w_q rfl rfl fun K83 k83=>Bma (iV (8)) (l_k k83 (Aj (Brj l2) (Aq (hret _ _ _ (⟨rfl,rfl,_,rfl,fun h=>absurd h (by decide)⟩))))))))))))))))))))))))))))
  have q82:=of_decide_eq_false b82
  refine Ak (gY rfl b82) (Ay Ditch.f_week Bna rfl rfl ty3 (by decide) rfl r2) fun v84 r84=>?_
  have ⟨g85a,g85b⟩:=Brh r84
  refine Aa (gY rfl b82) (Bc ty3 rfl r84) (Aa (gY rfl b82) (Gl rfl rfl) (l_M (.bool (decide (d.week > 0))) (gY rfl b82) rfl (Cn (decide (d.week > 0)) (fun b86=>?_) (fun b86=>?_))))
  ·have q86:=of_decide_eq_true b86
   refine Ak (gY rfl b86) (Ay Ditch.f_restFrom Bna rfl rfl ty3 (by decide) rfl r2) fun v87 r87=>?_
   have ⟨g88a,g88b⟩:=Brh r87
   refine Aa (gY rfl b86) (Bc ty3 rfl r87) (Ak (gY rfl b86) (Ay Ditch.f_restLong Bna rfl rfl ty3 (by decide) rfl r2) fun v89 r89=>?_)
   have ⟨g90a,g90b⟩:=Brh r89
   refine Aa (gY rfl b86) (Bc ty3 rfl r89) (Aa (gY rfl b86) (Br rfl rfl (z:=(d.restFrom + d.restLong)) (Bo (by rfl) (by omega) (by omega))) (Ak (gY rfl b86) (Ay Ditch.f_week Bna rfl rfl ty3 (by decide) rfl r2) fun v91 r91=>?_))
   have ⟨g92a,g92b⟩:=Brh r91
   refine Aa (gY rfl b86) (Bc ty3 rfl r91) (Aa (gY rfl b86) (Gl rfl rfl) (l_M (.bool (decide ((d.restFrom + d.restLong) > d.week))) (gY rfl b86) rfl (Cn (decide ((d.restFrom + d.restLong) > d.week)) (fun b93=>?_) (fun b93=>?_))))
   ·have q93:=of_decide_eq_true b93
    refine Ap (gN rfl b93) (Ap (gN rfl b93) (Ap (gN rfl b93) (Ap (gN rfl b93) (Ap (gN rfl b93) (Aa (gY rfl b86) (Bt rfl b93 (v:=(.bool (true))) rfl) (Aa (gY rfl b82) (Bt rfl b86 (v:=(.bool (true))) rfl) (l_v (Bn rfl b82 (v:=(.bool (true))) rfl) (l_k k74 (Co rfl rfl (w_q rfl rfl fun K94 k94=>Bma (iV (8)) (l_k k94 (Aj (Brj l2) (Aq (hret _ _ _ (⟨rfl,rfl,_,rfl,fun h=>absurd h (by decide)⟩)))))))))))))))
   have q93:=of_decide_eq_false b93
   refine Ak (gY rfl b93) (Ay Ditch.f_restLong Bna rfl rfl ty3 (by decide) rfl r2) fun v95 r95=>?_
   have ⟨g96a,g96b⟩:=Brh r95
   refine Aa (gY rfl b93) (Bc ty3 rfl r95) (Ak (gY rfl b93) (Ay Ditch.f_week Bna rfl rfl ty3 (by decide) rfl r2) fun v97 r97=>?_)
   have ⟨g98a,g98b⟩:=Brh r97
   refine Aa (gY rfl b93) (Bc ty3 rfl r97) (Aa (gY rfl b93) (Ek rfl rfl) (Aa (gY rfl b86) (Bn rfl b93 (v:=(.bool (d.restLong == d.week))) rfl) (Aa (gY rfl b82) (Bt rfl b86 (v:=(.bool (d.restLong == d.week))) rfl) (l_v (Bn rfl b82 (v:=(.bool (d.restLong == d.week))) rfl) (l_k k74 (Up (t:=d.restLong == d.week) rfl (fun b99=>?_) (fun b99=>?_)))))))
   ·have q99:=Jr b99
    refine w_q rfl rfl fun K100 k100=>Bma (iV (8)) (l_k k100 (Aj (Brj l2) (Aq (hret _ _ _ (⟨rfl,rfl,_,rfl,fun h=>absurd h (by decide)⟩)))))
   have q99:=Jq b99
   refine Al (kj29 _ (⟨rfl,(by omega),(by omega),(by omega),trivial⟩))
  have q86:=of_decide_eq_false b86
  refine Ap (gN rfl b86) (Ap (gN rfl b86) (Ap (gN rfl b86) (Ap (gN rfl b86) (Ap (gN rfl b86) (Ap (gN rfl b86) (Ap (gN rfl b86) (Ap (gN rfl b86) (Ap (gN rfl b86) (Ap (Jf rfl rfl rfl) (Ap (Jf rfl rfl rfl) (Ap (Jf rfl rfl rfl) (Ap (Jf rfl rfl rfl) (Ap (Jf rfl rfl rfl) (Ap (gN rfl b86) (Aa (gY rfl b82) (Bn rfl b86 (v:=(.bool (false))) rfl) (l_v (Bn rfl b82 (v:=(.bool (false))) rfl) (l_k k74 (Cg rfl rfl (Al (kj29 _ (⟨rfl,(by omega),(by omega),(by omega),trivial⟩)))))))))))))))))))))
 have q77:=Jq b77
 refine Ap (gN rfl b77) (Ap (gN rfl b77) (Ap (gN rfl b77) (Ap (gN rfl b77) (Ap (gN rfl b77) (Ap (gN rfl b77) (l_v (Bn rfl b77 (v:=(.bool (false))) rfl) (Bmb (.bool (false)) (Ak (gY rfl rfl) (Ay Ditch.f_week Bna rfl rfl ty3 (by decide) rfl r2) fun v101 r101=>?_))))))))
 have ⟨g102a,g102b⟩:=Brh r101
 refine Aa (gY rfl rfl) (Bc ty3 rfl r101) (Aa (gY rfl rfl) (Gl rfl rfl) (l_M (.bool (decide (d.week > 0))) (gY rfl rfl) rfl (Cn (decide (d.week > 0)) (fun b103=>?_) (fun b103=>?_))))
 ·have q103:=of_decide_eq_true b103
  refine Ak (gY rfl b103) (Ay Ditch.f_restFrom Bna rfl rfl ty3 (by decide) rfl r2) fun v104 r104=>?_
  have ⟨g105a,g105b⟩:=Brh r104
  refine Aa (gY rfl b103) (Bc ty3 rfl r104) (Ak (gY rfl b103) (Ay Ditch.f_restLong Bna rfl rfl ty3 (by decide) rfl r2) fun v106 r106=>?_)
  have ⟨g107a,g107b⟩:=Brh r106
  refine Aa (gY rfl b103) (Bc ty3 rfl r106) (Aa (gY rfl b103) (Br rfl rfl (z:=(d.restFrom + d.restLong)) (Bo (by rfl) (by omega) (by omega))) (Ak (gY rfl b103) (Ay Ditch.f_week Bna rfl rfl ty3 (by decide) rfl r2) fun v108 r108=>?_))
  have ⟨g109a,g109b⟩:=Brh r108
  refine Aa (gY rfl b103) (Bc ty3 rfl r108) (Aa (gY rfl b103) (Gl rfl rfl) (l_M (.bool (decide ((d.restFrom + d.restLong) > d.week))) (gY rfl b103) rfl (Cn (decide ((d.restFrom + d.restLong) > d.week)) (fun b110=>?_) (fun b110=>?_))))
  ·have q110:=of_decide_eq_true b110
   refine Ap (gN rfl b110) (Ap (gN rfl b110) (Ap (gN rfl b110) (Ap (gN rfl b110) (Ap (gN rfl b110) (Aa (gY rfl b103) (Bt rfl b110 (v:=(.bool (true))) rfl) (Aa (gY rfl rfl) (Bt rfl b103 (v:=(.bool (true))) rfl) (l_v (Bn rfl rfl (v:=(.bool (true))) rfl) (l_k k74 (Co rfl rfl (w_q rfl rfl fun K111 k111=>Bma (iV (8)) (l_k k111 (Aj (Brj l2) (Aq (hret _ _ _ (⟨rfl,rfl,_,rfl,fun h=>absurd h (by decide)⟩)))))))))))))))
  have q110:=of_decide_eq_false b110
  refine Ak (gY rfl b110) (Ay Ditch.f_restLong Bna rfl rfl ty3 (by decide) rfl r2) fun v112 r112=>?_
  have ⟨g113a,g113b⟩:=Brh r112
  refine Aa (gY rfl b110) (Bc ty3 rfl r112) (Ak (gY rfl b110) (Ay Ditch.f_week Bna rfl rfl ty3 (by decide) rfl r2) fun v114 r114=>?_)
  have ⟨g115a,g115b⟩:=Brh r114
  refine Aa (gY rfl b110) (Bc ty3 rfl r114) (Aa (gY rfl b110) (Ek rfl rfl) (Aa (gY rfl b103) (Bn rfl b110 (v:=(.bool (d.restLong == d.week))) rfl) (Aa (gY rfl rfl) (Bt rfl b103 (v:=(.bool (d.restLong == d.week))) rfl) (l_v (Bn rfl rfl (v:=(.bool (d.restLong == d.week))) rfl) (l_k k74 (Up (t:=d.restLong == d.week) rfl (fun b116=>?_) (fun b116=>?_)))))))
  ·have q116:=Jr b116
   refine w_q rfl rfl fun K117 k117=>Bma (iV (8)) (l_k k117 (Aj (Brj l2) (Aq (hret _ _ _ (⟨rfl,rfl,_,rfl,fun h=>absurd h (by decide)⟩)))))
  have q116:=Jq b116
  refine Al (kj29 _ (⟨rfl,(by omega),(by omega),(by omega),trivial⟩))
 have q103:=of_decide_eq_false b103
 refine Ap (gN rfl b103) (Ap (gN rfl b103) (Ap (gN rfl b103) (Ap (gN rfl b103) (Ap (gN rfl b103) (Ap (gN rfl b103) (Ap (gN rfl b103) (Ap (gN rfl b103) (Ap (gN rfl b103) (Ap (Jf rfl rfl rfl) (Ap (Jf rfl rfl rfl) (Ap (Jf rfl rfl rfl) (Ap (Jf rfl rfl rfl) (Ap (Jf rfl rfl rfl) (Ap (gN rfl b103) (Aa (gY rfl rfl) (Bn rfl b103 (v:=(.bool (false))) rfl) (l_v (Bn rfl rfl (v:=(.bool (false))) rfl) (l_k k74 (Cg rfl rfl (Al (kj29 _ (⟨rfl,(by omega),(by omega),(by omega),trivial⟩)))))))))))))))))))))
theorem Azn {d:Ditch} {vd:Value} (rd:Val ρ vd d):CallsH (CX mn X) 75 #[vd] ρ σ (fun w ρ' σ'=>ρ' = ρ∧σ' = σ∧∃ f:Int,w = .int .i64 f∧(f = 0→Ayg d)):=by
 refine Bh (n:=91) (args:=[vd]) [2] Tryz.func75 rfl rfl rfl rfl fun Q hret hnor=>w_q rfl rfl fun K1 k1=>Arv (Eb (v:=vd) rfl fun k2=>?_)
 refine Bb (a:=d) rd fun ρ2 l2 r2=>Bma (iV (0)) (Ary rfl rfl k1 fun K3 K4 k3 k4=>Arw (Ay Ditch.f_swaps Bna rfl rfl Atq (by decide) rfl r2) fun v5 r5=>Arw (Ax Atq rfl r5) fun v6 r6=>?_)
 have g7:=Bro r6
 refine l_v (Ci (el:=243) Boi rfl r6) (l_v (Gl rfl rfl) (l_k k4 (Up (t:=decide (((d.swaps.length:Nat):Int) > 8)) rfl (fun b8=>?_) (fun b8=>?_))))
 ·have q8:=of_decide_eq_true b8
  refine w_q rfl rfl fun K9 k9=>Bma (iV (2)) (l_k k9 (Aj (Brj l2) (Aq (hret _ _ _ (⟨rfl,rfl,_,rfl,fun h=>absurd h (by decide)⟩)))))
 have q8:=of_decide_eq_false b8
 refine Al (k3 _ _ _ _ ?_)
 refine w_q rfl rfl fun K10 k10=>Arw (Ay Ditch.f_turns Bna rfl rfl Atj (by decide) rfl r2) fun v11 r11=>Arw (Ax Atj rfl r11) fun v12 r12=>?_
 have g13:=Bro r12
 refine l_v (Ci (el:=241) Bod rfl r12) (l_v (Ou rfl rfl (z:=(((d.turns.length:Nat):Int) - 1)) wrE) (Bma (iV ((((d.turns.length:Nat):Int) - 1))) (Ary rfl rfl k10 fun K14 K15 k14 k15=>Bma (iV (0)) (l_k k15 (Ao (Cc (fun mm ee dd ρ' σ'=>∃ (i:Nat),(d.swaps.length - i) = mm∧[] = dd∧ρ2 = ρ'∧σ = σ'∧ee 1 = (.pointer (some ⟨k2,0,none⟩))∧ee 3 = (iV ((((d.turns.length:Nat):Int) - 1)))∧ee 4 = (iV ((i:Int)))∧(i ≤ d.swaps.length)∧(∀ j,j < i→Ben d j)∧True) (m:=_) ⟨0,rfl,rfl,rfl,rfl,rfl,rfl,rfl,(Nat.zero_le _),(fun j h=>absurd h (Nat.not_lt_zero _)),trivial⟩ ?_))))))
 rintro m16 e16 _ _ _ ⟨i,rfl,rfl,rfl,rfl,h16_1,h16_3,h16_4,p16_0,p16_1,_⟩
 refine Asb rfl rfl fun K17 K18 k17 k18=>l_v (Ah (v:=(iV ((i:Int)))) h16_4) (Arw (Ay Ditch.f_swaps Bna rfl rfl Atq (by decide) h16_1 r2) fun v19 r19=>Arw (Ax Atq rfl r19) fun v20 r20=>?_)
 have g21:=Bro r20
 refine l_v (Ci (el:=243) Boi rfl r20) (l_v (Da rfl rfl) (l_k k18 (Up (t:=decide ((i:Int) < ((d.swaps.length:Nat):Int))) rfl (fun b22=>?_) (fun b22=>?_))))
 ·have q22:=of_decide_eq_true b22
  refine Al (k17 _ _ _ _ ?_)
  refine Ai fun K23 k23=>Ao (Asb rfl rfl fun K24 K25 k24 k25=>Arw (Ay Ditch.f_swaps Bna rfl rfl Atq (by decide) h16_1 r2) fun v26 r26=>Arw (Ax Atq rfl r26) fun v27 r27=>l_v (Ah (v:=(iV ((i:Int)))) h16_4) ?_)
  obtain ⟨a29,ha29⟩:=Ed (xs:=d.swaps) (i:=i) (by omega)
  refine Arw (Ch i Boi Avc rfl r27 (q:=(i:Int)) rfl rfl ha29) fun v28 r28=>Arw (Ay WSwap.f_cycle Bnx rfl rfl ty3 (by decide) rfl r28) fun v30 r30=>?_
  have ⟨g31a,g31b⟩:=Brh r30
  refine l_v (Bc ty3 rfl r30) (Arv (Bm (Aul) Bog rfl rfl ⟨rfl,rfl,rfl,trivial⟩ ?_))
  refine l_v (Iy rfl) (l_k k25 (Up (t:=!(inR a29.cycle 0 999999999)) rfl (fun b32=>?_) (fun b32=>?_)))
  ·have b33:=not_eq_t b32
   have q33:=Tr.1 b33
   refine w_q rfl rfl fun K34 k34=>Bma (iV (1)) (l_k k34 (Aj (Brj l2) (Aq (hret _ _ _ (⟨rfl,rfl,_,rfl,fun h=>absurd h (by decide)⟩)))))
  have b35:=not_eq_f b32
  have q35:=Fz.1 b35
  refine Al (k24 _ _ _ _ ?_)
  refine w_q rfl rfl fun K36 k36=>Arw (Ay Ditch.f_swaps Bna rfl rfl Atq (by decide) h16_1 r2) fun v37 r37=>Arw (Ax Atq rfl r37) fun v38 r38=>l_v (Ah (v:=(iV ((i:Int)))) h16_4) (Arw (Ch i Boi Avc rfl r38 (q:=(i:Int)) rfl rfl ha29) fun v39 r39=>Arw (Ay WSwap.f_a Bnx rfl rfl ty3 (by decide) rfl r39) fun v40 r40=>?_)
  have ⟨g41a,g41b⟩:=Brh r40
  refine l_v (Bc ty3 rfl r40) (l_v (Ah (v:=(iV ((((d.turns.length:Nat):Int) - 1)))) h16_3) (Arv (Bm (Aul) Bog rfl rfl ⟨rfl,rfl,rfl,trivial⟩ ?_)))
  refine l_v (Iy rfl) (Bmb (.bool (!(inR a29.a 0 ((((d.turns.length:Nat):Int) - 1))))) (Cn (!(inR a29.a 0 ((((d.turns.length:Nat):Int) - 1)))) (fun b42=>?_) (fun b42=>?_)))
  ·have b43:=not_eq_t b42
   have q43:=Tr.1 b43
   refine Ap (gN rfl b42) (Ap (gN rfl b42) (Ap (gN rfl b42) (Ap (gN rfl b42) (Ap (gN rfl b42) (Ap (gN rfl b42) (Ap (gN rfl b42) (Ap (gN rfl b42) (Ap (gN rfl b42) (l_v (Bt rfl b42 (v:=(.bool (true))) rfl) (l_k k36 (Co rfl rfl (w_q rfl rfl fun K44 k44=>Bma (iV (6)) (l_k k44 (Aj (Brj l2) (Aq (hret _ _ _ (⟨rfl,rfl,_,rfl,fun h=>absurd h (by decide)⟩)))))))))))))))))
  have b45:=not_eq_f b42
  have q45:=Fz.1 b45
  refine Ak (gY rfl b42) (Ay Ditch.f_swaps Bna rfl rfl Atq (by decide) h16_1 r2) fun v46 r46=>Ak (gY rfl b42) (Ax Atq rfl r46) fun v47 r47=>Aa (gY rfl b42) (Ah (v:=(iV ((i:Int)))) h16_4) (Ak (gY rfl b42) (Ch i Boi Avc rfl r47 (q:=(i:Int)) rfl rfl ha29) fun v48 r48=>Ak (gY rfl b42) (Ay WSwap.f_b Bnx rfl rfl ty3 (by decide) rfl r48) fun v49 r49=>?_)
  have ⟨g50a,g50b⟩:=Brh r49
  refine Aa (gY rfl b42) (Bc ty3 rfl r49) (Aa (gY rfl b42) (Ah (v:=(iV ((((d.turns.length:Nat):Int) - 1)))) h16_3) (Ae (gY rfl b42) (Bm (Aul) Bog rfl rfl ⟨rfl,rfl,rfl,trivial⟩ ?_)))
  refine Aa (gY rfl b42) (Iy rfl) (l_v (Bn rfl b42 (v:=(.bool (!(inR a29.b 0 ((((d.turns.length:Nat):Int) - 1)))))) rfl) (l_k k36 (Up (t:=!(inR a29.b 0 ((((d.turns.length:Nat):Int) - 1)))) rfl (fun b51=>?_) (fun b51=>?_))))
  ·have b52:=not_eq_t b51
   have q52:=Tr.1 b52
   refine w_q rfl rfl fun K53 k53=>Bma (iV (6)) (l_k k53 (Aj (Brj l2) (Aq (hret _ _ _ (⟨rfl,rfl,_,rfl,fun h=>absurd h (by decide)⟩)))))
  have b54:=not_eq_f b51
  have q54:=Fz.1 b54
  refine Al (k23 _ _ _ _ ?_)
  refine Ag rfl rfl (l_v (Ah (v:=(iV ((i:Int)))) h16_4) (l_v (Br rfl rfl (z:=(((i + 1):Nat):Int)) wrE) (Bma (iV ((((i + 1):Nat):Int))) (Ac ?_))))
  refine ⟨_,?_,((i + 1)),rfl,rfl,rfl,rfl,h16_1,h16_3,rfl,(by omega),(Eg p16_1 (fun x hx=>by rw [ha29] at hx; cases hx; exact ⟨by omega,by omega,by omega⟩)),trivial⟩
  omega
 have q22:=of_decide_eq_false b22
 refine Bx (k14 _ _ _ _ ?_)
 refine Asb rfl rfl fun K55 K56 k55 k56=>Arw (Ay Ditch.f_loans Bna rfl rfl Atk (by decide) h16_1 r2) fun v57 r57=>Arw (Ax Atk rfl r57) fun v58 r58=>?_
 have g59:=Bro r58
 refine l_v (Ci (el:=90) Bnk rfl r58) (l_v (Gl rfl rfl) (l_k k56 (Up (t:=decide (((d.loans.length:Nat):Int) > 8)) rfl (fun b60=>?_) (fun b60=>?_))))
 ·have q60:=of_decide_eq_true b60
  refine w_q rfl rfl fun K61 k61=>Bma (iV (2)) (l_k k61 (Aj (Brj l2) (Aq (hret _ _ _ (⟨rfl,rfl,_,rfl,fun h=>absurd h (by decide)⟩)))))
 have q60:=of_decide_eq_false b60
 refine Al (k55 _ _ _ _ ?_)
 refine Asb rfl rfl fun K62 K63 k62 k63=>Bma (iV (0)) (l_k k63 (Ao (Cc (fun mm ee dd ρ' σ'=>∃ (k:Nat),(d.loans.length - k) = mm∧[] = dd∧ρ2 = ρ'∧σ = σ'∧ee 1 = (.pointer (some ⟨k2,0,none⟩))∧ee 3 = (iV ((((d.turns.length:Nat):Int) - 1)))∧ee 5 = (iV ((k:Int)))∧(k ≤ d.loans.length)∧(∀ j,j < k→Bek d j)∧True) (m:=_) ⟨0,rfl,rfl,rfl,rfl,h16_1,h16_3,rfl,(Nat.zero_le _),(fun j h=>absurd h (Nat.not_lt_zero _)),trivial⟩ ?_)))
 rintro m64 e64 _ _ _ ⟨k,rfl,rfl,rfl,rfl,h64_1,h64_3,h64_5,p64_0,p64_1,_⟩
 refine Asb rfl rfl fun K65 K66 k65 k66=>l_v (Ah (v:=(iV ((k:Int)))) h64_5) (Arw (Ay Ditch.f_loans Bna rfl rfl Atk (by decide) h64_1 r2) fun v67 r67=>Arw (Ax Atk rfl r67) fun v68 r68=>?_)
 have g69:=Bro r68
 refine l_v (Ci (el:=90) Bnk rfl r68) (l_v (Da rfl rfl) (l_k k66 (Up (t:=decide ((k:Int) < ((d.loans.length:Nat):Int))) rfl (fun b70=>?_) (fun b70=>?_))))
 ·have q70:=of_decide_eq_true b70
  refine Al (k65 _ _ _ _ ?_)
  refine Ai fun K71 k71=>Ao (Asb rfl rfl fun K72 K73 k72 k73=>Arw (Ay Ditch.f_loans Bna rfl rfl Atk (by decide) h64_1 r2) fun v74 r74=>Arw (Ax Atk rfl r74) fun v75 r75=>l_v (Ah (v:=(iV ((k:Int)))) h64_5) ?_)
  obtain ⟨a77,ha77⟩:=Ed (xs:=d.loans) (i:=k) (by omega)
  refine Arw (Ch k Bnk Atx rfl r75 (q:=(k:Int)) rfl rfl ha77) fun v76 r76=>Arw (Ay WLoan.f_cycle Boc rfl rfl ty3 (by decide) rfl r76) fun v78 r78=>?_
  have ⟨g79a,g79b⟩:=Brh r78
  refine l_v (Bc ty3 rfl r78) (Arv (Bm (Aul) Bog rfl rfl ⟨rfl,rfl,rfl,trivial⟩ ?_))
  refine l_v (Iy rfl) (l_k k73 (Up (t:=!(inR a77.cycle 0 999999999)) rfl (fun b80=>?_) (fun b80=>?_)))
  ·have b81:=not_eq_t b80
   have q81:=Tr.1 b81
   refine w_q rfl rfl fun K82 k82=>Bma (iV (1)) (l_k k82 (Aj (Brj l2) (Aq (hret _ _ _ (⟨rfl,rfl,_,rfl,fun h=>absurd h (by decide)⟩)))))
  have b83:=not_eq_f b80
  have q83:=Fz.1 b83
  refine Al (k72 _ _ _ _ ?_)
  refine Ai fun K84 k84=>Bmw (Bms 0 [o1,o0,o0,o0,o0,o0,o0,o0,o0,o0,o0,o0,o0,o0,o0,o0,o0,o0,o0,o0,o0,o0,o0] rfl (Ay Ditch.f_loans Bna rfl rfl Atk (by decide) h64_1 r2) fun v85 r85=>Bms 1 [o1,o1,o0,o0,o0,o0,o0,o0,o0,o0,o0,o0,o0,o0,o0,o0,o0,o0,o0,o0,o0,o0,o0] rfl (Ax Atk rfl r85) fun v86 r86=>Bmq 2 [o1,o1,o1,o0,o0,o0,o0,o0,o0,o0,o0,o0,o0,o0,o0,o0,o0,o0,o0,o0,o0,o0,o0] rfl (Ah (v:=(iV ((k:Int)))) h64_5) (Bms 3 [o1,o1,o1,o1,o0,o0,o0,o0,o0,o0,o0,o0,o0,o0,o0,o0,o0,o0,o0,o0,o0,o0,o0] rfl (Ch k Bnk Atx rfl r86 (q:=(k:Int)) rfl rfl ha77) fun v87 r87=>Bms 4 [o1,o1,o1,o1,o1,o0,o0,o0,o0,o0,o0,o0,o0,o0,o0,o0,o0,o0,o0,o0,o0,o0,o0] rfl (Ay WLoan.f_turn Boc rfl rfl ty3 (by decide) rfl r87) fun v88 r88=>?_))
  have ⟨g89a,g89b⟩:=Brh r88
  refine Bmq 5 [o1,o1,o1,o1,o1,o1,o0,o0,o0,o0,o0,o0,o0,o0,o0,o0,o0,o0,o0,o0,o0,o0,o0] rfl (Bc ty3 rfl r88) (Bmr 6 [o1,o1,o1,o1,o1,o1,o1,o0,o0,o0,o0,o0,o0,o0,o0,o0,o0,o0,o0,o0,o0,o0,o0] rfl (Ah (v:=(iV ((((d.turns.length:Nat):Int) - 1)))) h64_3) (Bmt 7 [o1,o1,o1,o1,o1,o1,o1,o1,o0,o0,o0,o0,o0,o0,o0,o0,o0,o0,o0,o0,o0,o0,o0] rfl (Bm (Aul) Bog rfl rfl ⟨rfl,rfl,rfl,trivial⟩ ⟨Brm,?_⟩)))
  refine Bmr 8 [o1,o1,o1,o1,o1,o1,o1,o1,o1,o0,o0,o0,o0,o0,o0,o0,o0,o0,o0,o0,o0,o0,o0] rfl (Iy rfl) (Bmr 9 [o1,o1,o1,o1,o1,o1,o1,o1,o1,o1,o0,o0,o0,o0,o0,o0,o0,o0,o0,o0,o0,o0,o0] rfl (Ah (v:=(.bool (!(inR a77.turn 0 ((((d.turns.length:Nat):Int) - 1)))))) rfl) (Akk (!(inR a77.turn 0 ((((d.turns.length:Nat):Int) - 1)))) (fun b90=>?_) (fun b90=>?_)))
  ·have b91:=not_eq_t b90
   have q91:=Tr.1 b91
   refine Bmh 10 Bil rfl Brm (gN rfl b90) (Bmh 11 Bim rfl Brm (gN rfl b90) (Bmh 12 Bin rfl Brm (gN rfl b90) (Bmh 13 Bio rfl Brm (gN rfl b90) (Bmh 14 Bip rfl Brm (gN rfl b90) (Bmh 15 Biq rfl Brm (gN rfl b90) (Bmi 16 Bir rfl Brm (gN rfl b90) (Bmi 17 Bis rfl Brm (gN rfl b90) (Bmi 18 Bit rfl Brm (gN rfl b90) (Bmi 19 Biu rfl Brm (gN rfl b90) (Bmi 20 Biv rfl Brm (gN rfl b90) (Bmi 21 Biw rfl Brm (gN rfl b90) (Bmr 22 Bix rfl (Bt rfl b90 (v:=(.bool (true))) rfl) (Ec rfl (k84 _ _ _ _ ?_))))))))))))))
   refine Co rfl rfl (w_q rfl rfl fun K92 k92=>Bma (iV (6)) (l_k k92 (Aj (Brj l2) (Aq (hret _ _ _ (⟨rfl,rfl,_,rfl,fun h=>absurd h (by decide)⟩))))))
  have b93:=not_eq_f b90
  have q93:=Fz.1 b93
  refine Bme 10 Bil rfl Brm (gY rfl b90) (Ay Ditch.f_loans Bna rfl rfl Atk (by decide) h64_1 r2) fun v94 r94=>Bme 11 Bim rfl Brm (gY rfl b90) (Ax Atk rfl r94) fun v95 r95=>Bmc 12 Bin rfl Brm (gY rfl b90) (Ah (v:=(iV ((k:Int)))) h64_5) (Bme 13 Bio rfl Brm (gY rfl b90) (Ch k Bnk Atx rfl r95 (q:=(k:Int)) rfl rfl ha77) fun v96 r96=>Bme 14 Bip rfl Brm (gY rfl b90) (Ay WLoan.f_to Boc rfl rfl ty3 (by decide) rfl r96) fun v97 r97=>?_)
  have ⟨g98a,g98b⟩:=Brh r97
  refine Bmc 15 Biq rfl Brm (gY rfl b90) (Bc ty3 rfl r97) (Bmg 16 Bir rfl Brm (gY rfl b90) (Ay Ditch.f_holders Bna rfl rfl Hw (by decide) h64_1 r2) fun v99 r99=>Bmg 17 Bis rfl Brm (gY rfl b90) (Ax Hw rfl r99) fun v100 r100=>?_)
  have g101:=Bro r100
  refine Bmd 18 Bit rfl Brm (gY rfl b90) (Ci (el:=9) Bnd rfl r100) (Bmd 19 Biu rfl Brm (gY rfl b90) (Ou rfl rfl (z:=(((d.holders.length:Nat):Int) - 1)) wrE) (Bmf 20 Biv rfl (gY rfl b90) (Bm (Aul) Bog rfl rfl ⟨rfl,rfl,rfl,trivial⟩ ⟨Brm,?_⟩)))
  refine Bmd 21 Biw rfl Brm (gY rfl b90) (Iy rfl) (Bmr 22 Bix rfl (Bn rfl b90 (v:=(.bool (!(inR a77.to 0 ((((d.holders.length:Nat):Int) - 1)))))) rfl) (Ec rfl (k84 _ _ _ _ ?_)))
  refine Up (t:=!(inR a77.to 0 ((((d.holders.length:Nat):Int) - 1)))) rfl (fun b102=>?_) (fun b102=>?_)
  ·have b103:=not_eq_t b102
   have q103:=Tr.1 b103
   refine w_q rfl rfl fun K104 k104=>Bma (iV (6)) (l_k k104 (Aj (Brj l2) (Aq (hret _ _ _ (⟨rfl,rfl,_,rfl,fun h=>absurd h (by decide)⟩)))))
  have b105:=not_eq_f b102
  have q105:=Fz.1 b105
  refine Al (k71 _ _ _ _ ?_)
  refine Ag rfl rfl (l_v (Ah (v:=(iV ((k:Int)))) h64_5) (l_v (Br rfl rfl (z:=(((k + 1):Nat):Int)) wrE) (Bma (iV ((((k + 1):Nat):Int))) (Ac ?_))))
  refine ⟨_,?_,((k + 1)),rfl,rfl,rfl,rfl,h64_1,h64_3,rfl,(by omega),(Eg p64_1 (fun x hx=>by rw [ha77] at hx; cases hx; exact ⟨by omega,by omega,by omega⟩)),trivial⟩
  omega
 have q70:=of_decide_eq_false b70
 refine Bx (k62 _ _ _ _ ?_)
 refine w_q rfl rfl fun K106 k106=>Bma (iV (0)) (l_k k106 (Aj (Brj l2) (Aq (hret _ _ _ (⟨rfl,rfl,_,rfl,fun _=>⟨by omega,fun j hj=>p16_1 j (by omega),by omega,fun j hj=>p64_1 j (by omega)⟩⟩)))))
theorem Bbo {d:Ditch} {vd:Value} (rd:Val ρ vd d):CallsH (CX mn X) 76 #[vd] ρ σ (fun w ρ' σ'=>ρ' = ρ∧σ' = σ∧∃ f:Int,w = .int .i64 f∧(f = 0→Bcl d)):=by
 refine Bh (n:=74) (args:=[vd]) [2] Tryz.func76 rfl rfl rfl rfl fun Q hret hnor=>w_q rfl rfl fun K1 k1=>Arv (Eb (v:=vd) rfl fun k2=>?_)
 refine Bb (a:=d) rd fun ρ2 l2 r2=>Bma (iV (0)) (Ary rfl rfl k1 fun K3 K4 k3 k4=>Arw (Ay Ditch.f_flow Bna rfl rfl Mx (by decide) rfl r2) fun v5 r5=>Arw (Ax Mx rfl r5) fun v6 r6=>Arv (Bm (Aum r6) Bpw rfl rfl ⟨rfl,rfl,rfl,trivial⟩ ?_))
 refine l_v (Iy rfl) (Bmb (.bool (!(Ef d.flow 0 100000))) (Cn (!(Ef d.flow 0 100000)) (fun b7=>?_) (fun b7=>?_)))
 ·have b8:=not_eq_t b7
  have q8:=trivial
  refine Ap (gN rfl b7) (Ap (gN rfl b7) (Ap (gN rfl b7) (Ap (gN rfl b7) (l_v (Bt rfl b7 (v:=(.bool (true))) rfl) (l_k k4 (Co rfl rfl (w_q rfl rfl fun K9 k9=>Bma (iV (1)) (l_k k9 (Aj (Brj l2) (Aq (hret _ _ _ (⟨rfl,rfl,_,rfl,fun h=>absurd h (by decide)⟩))))))))))))
 have b10:=not_eq_f b7
 have q10:=Re.1 b10
 refine Ak (gY rfl b7) (Ay Ditch.f_loss Bna rfl rfl Mx (by decide) rfl r2) fun v11 r11=>Ak (gY rfl b7) (Ax Mx rfl r11) fun v12 r12=>Ae (gY rfl b7) (Bm (Aum r12) Bpw rfl rfl ⟨rfl,rfl,rfl,trivial⟩ ?_)
 refine Aa (gY rfl b7) (Iy rfl) (l_v (Bn rfl b7 (v:=(.bool (!(Ef d.loss 0 1000)))) rfl) (l_k k4 (Up (t:=!(Ef d.loss 0 1000)) rfl (fun b13=>?_) (fun b13=>?_))))
 ·have b14:=not_eq_t b13
  have q14:=trivial
  refine w_q rfl rfl fun K15 k15=>Bma (iV (1)) (l_k k15 (Aj (Brj l2) (Aq (hret _ _ _ (⟨rfl,rfl,_,rfl,fun h=>absurd h (by decide)⟩)))))
 have b16:=not_eq_f b13
 have q16:=Re.1 b16
 refine Al (k3 _ _ _ _ ?_)
 refine Asb rfl rfl fun K17 K18 k17 k18=>Arw (Ay Ditch.f_plots Bna rfl rfl Atl (by decide) rfl r2) fun v19 r19=>Arw (Ax Atl rfl r19) fun v20 r20=>?_
 have g21:=Bro r20
 refine l_v (Ci (el:=184) Bob rfl r20) (l_v (Gl rfl rfl) (l_k k18 (Up (t:=decide (((d.plots.length:Nat):Int) > 8)) rfl (fun b22=>?_) (fun b22=>?_))))
 ·have q22:=of_decide_eq_true b22
  refine w_q rfl rfl fun K23 k23=>Bma (iV (2)) (l_k k23 (Aj (Brj l2) (Aq (hret _ _ _ (⟨rfl,rfl,_,rfl,fun h=>absurd h (by decide)⟩)))))
 have q22:=of_decide_eq_false b22
 refine Al (k17 _ _ _ _ ?_)
 refine Asb rfl rfl fun K24 K25 k24 k25=>Bma (iV (0)) (l_k k25 (Ao (Cc (fun mm ee dd ρ' σ'=>∃ (i:Nat),(d.plots.length - i) = mm∧[] = dd∧ρ2 = ρ'∧σ = σ'∧ee 1 = (.pointer (some ⟨k2,0,none⟩))∧ee 3 = (iV ((i:Int)))∧(i ≤ d.plots.length)∧(∀ j,j < i→Bel d j)∧True) (m:=_) ⟨0,rfl,rfl,rfl,rfl,rfl,rfl,(Nat.zero_le _),(fun j h=>absurd h (Nat.not_lt_zero _)),trivial⟩ ?_)))
 rintro m26 e26 _ _ _ ⟨i,rfl,rfl,rfl,rfl,h26_1,h26_3,p26_0,p26_1,_⟩
 refine Asb rfl rfl fun K27 K28 k27 k28=>l_v (Ah (v:=(iV ((i:Int)))) h26_3) (Arw (Ay Ditch.f_plots Bna rfl rfl Atl (by decide) h26_1 r2) fun v29 r29=>Arw (Ax Atl rfl r29) fun v30 r30=>?_)
 have g31:=Bro r30
 refine l_v (Ci (el:=184) Bob rfl r30) (l_v (Da rfl rfl) (l_k k28 (Up (t:=decide ((i:Int) < ((d.plots.length:Nat):Int))) rfl (fun b32=>?_) (fun b32=>?_))))
 ·have q32:=of_decide_eq_true b32
  refine Al (k27 _ _ _ _ ?_)
  refine Ai fun K33 k33=>Ao (w_q rfl rfl fun K34 k34=>Arw (Ay Ditch.f_plots Bna rfl rfl Atl (by decide) h26_1 r2) fun v35 r35=>Arw (Ax Atl rfl r35) fun v36 r36=>l_v (Ah (v:=(iV ((i:Int)))) h26_3) ?_)
  obtain ⟨a38,ha38⟩:=Ed (xs:=d.plots) (i:=i) (by omega)
  refine Arw (Ch i Bob Auh rfl r36 (q:=(i:Int)) rfl rfl ha38) fun v37 r37=>Arw (Ax Auh rfl r37) fun v39 r39=>Arv (Ct Bhg fun k40=>?_)
  refine Cx rfl (Dv (v:=v39) (a:=a38) (c:=Bhd) Auh rfl rfl r39 rfl ?_)
  refine Bb (a:=a38) r39 fun ρ41 l41 r41=>?_
  replace r2:=At.mono l41 r2
  refine Ary rfl rfl k34 fun K42 K43 k42 k43=>Arw (Ay WPlot.f_name Bno rfl rfl ty9 (by decide) rfl r41) fun v44 r44=>?_
  have g45:=At.slen r44
  refine l_v (Pk ty9 rfl r44) (Arv (Bm (Azk) Bqn rfl rfl ⟨rfl,trivial⟩ ?_))
  refine l_v (Iy rfl) (l_k k43 (Up (t:=!(Hg a38.name)) rfl (fun b46=>?_) (fun b46=>?_)))
  ·have b47:=not_eq_t b46
   refine w_q rfl rfl fun K48 k48=>Bma (iV (4)) (l_k k48 (Aj (Brj (Brn l2 l41)) (Aq (hret _ _ _ (⟨rfl,rfl,_,rfl,fun h=>absurd h (by decide)⟩)))))
  have b49:=not_eq_f b46
  refine Al (k42 _ _ _ _ ?_)
  refine Asb rfl rfl fun K50 K51 k50 k51=>Bma (iV (0)) (l_k k51 (Ao (Cc (fun mm ee dd ρ' σ'=>∃ (k:Nat),(i - k) = mm∧[] = dd∧ρ41 = ρ'∧σ = σ'∧ee 1 = (.pointer (some ⟨k2,0,none⟩))∧ee 3 = (iV ((i:Int)))∧ee 4 = (.pointer (some ⟨k40,0,none⟩))∧ee 5 = (iV ((k:Int)))∧(k ≤ i)∧(∀ j,j < k→∀ y,d.plots[j]? = some y→y.name.toList ≠ a38.name.toList)∧True) (m:=_) ⟨0,rfl,rfl,rfl,rfl,h26_1,h26_3,rfl,rfl,(Nat.zero_le _),(fun j h=>absurd h (Nat.not_lt_zero _)),trivial⟩ ?_)))
  rintro m52 e52 _ _ _ ⟨k,rfl,rfl,rfl,rfl,h52_1,h52_3,h52_4,h52_5,p52_0,p52_1,_⟩
  refine Asb rfl rfl fun K53 K54 k53 k54=>l_v (Ah (v:=(iV ((k:Int)))) h52_5) (l_v (Ah (v:=(iV ((i:Int)))) h52_3) (l_v (Da rfl rfl) (l_k k54 (Up (t:=decide ((k:Int) < (i:Int))) rfl (fun b55=>?_) (fun b55=>?_)))))
  ·have q55:=of_decide_eq_true b55
   refine Al (k53 _ _ _ _ ?_)
   refine Ai fun K56 k56=>Ao (Ai fun K57 k57=>Bmw (Bms 0 Azf rfl (Ay Ditch.f_plots Bna rfl rfl Atl (by decide) h52_1 r2) fun v58 r58=>Bms 1 Azg rfl (Ax Atl rfl r58) fun v59 r59=>Bmq 2 Azh rfl (Ah (v:=(iV ((k:Int)))) h52_5) ?_))
   obtain ⟨a61,ha61⟩:=Ed (xs:=d.plots) (i:=k) (by omega)
   refine Bms 3 Azi rfl (Ch k Bob Auh rfl r59 (q:=(k:Int)) rfl rfl ha61) fun v60 r60=>Bms 4 Aor rfl (Ay WPlot.f_name Bno rfl rfl ty9 (by decide) rfl r60) fun v62 r62=>?_
   have g63:=At.slen r62
   refine Bmq 5 zZ7 rfl (Pk ty9 rfl r62) (Bmu 6 zZ8 rfl (Ay WPlot.f_name Bno rfl rfl ty9 (by decide) h52_4 r41) fun v64 r64=>?_)
   have g65:=At.slen r64
   refine Bmr 7 zZ9 rfl (Pk ty9 rfl r64) (Bmr 8 Ajy rfl (Bbe (p:=a61.name) (q:=a38.name) rfl rfl) (Ec rfl (k57 _ _ _ _ ?_)))
   refine Up (t:=(a61.name).toList == (a38.name).toList) rfl (fun b66=>?_) (fun b66=>?_)
   ·have q66:=Jr b66
    refine w_q rfl rfl fun K67 k67=>Bma (iV (5)) (l_k k67 (Aj (Brj (Brn l2 l41)) (Aq (hret _ _ _ (⟨rfl,rfl,_,rfl,fun h=>absurd h (by decide)⟩)))))
   have q66:=Jq b66
   refine Al (k56 _ _ _ _ ?_)
   refine Ag rfl rfl (l_v (Ah (v:=(iV ((k:Int)))) h52_5) (l_v (Br rfl rfl (z:=(((k + 1):Nat):Int)) wrE) (Bma (iV ((((k + 1):Nat):Int))) (Ac ?_))))
   refine ⟨_,?_,((k + 1)),rfl,rfl,rfl,rfl,h52_1,h52_3,h52_4,rfl,(by omega),(Eg p52_1 (fun y hy=>by rw [ha61] at hy; cases hy; simpa using b66)),trivial⟩
   omega
  have q55:=of_decide_eq_false b55
  refine Bx (k50 _ _ _ _ ?_)
  refine Asb rfl rfl fun K68 K69 k68 k69=>Arw (Ay WPlot.f_holder Bno rfl rfl ty3 (by decide) h52_4 r41) fun v70 r70=>?_
  have ⟨g71a,g71b⟩:=Brh r70
  refine l_v (Bc ty3 rfl r70) (Arw (Ay Ditch.f_holders Bna rfl rfl Hw (by decide) h52_1 r2) fun v72 r72=>Arw (Ax Hw rfl r72) fun v73 r73=>?_)
  have g74:=Bro r73
  refine l_v (Ci (el:=9) Bnd rfl r73) (l_v (Ou rfl rfl (z:=(((d.holders.length:Nat):Int) - 1)) wrE) (Arv (Bm (Aul) Bog rfl rfl ⟨rfl,rfl,rfl,trivial⟩ ?_)))
  refine l_v (Iy rfl) (l_k k69 (Up (t:=!(inR a38.holder 0 ((((d.holders.length:Nat):Int) - 1)))) rfl (fun b75=>?_) (fun b75=>?_)))
  ·have b76:=not_eq_t b75
   have q76:=Tr.1 b76
   refine w_q rfl rfl fun K77 k77=>Bma (iV (6)) (l_k k77 (Aj (Brj (Brn l2 l41)) (Aq (hret _ _ _ (⟨rfl,rfl,_,rfl,fun h=>absurd h (by decide)⟩)))))
  have b78:=not_eq_f b75
  have q78:=Fz.1 b78
  refine Al (k68 _ _ _ _ ?_)
  refine w_q rfl rfl fun K79 k79=>Arw (Ay WPlot.f_far Bno rfl rfl ty3 (by decide) h52_4 r41) fun v80 r80=>?_
  have ⟨g81a,g81b⟩:=Brh r80
  refine l_v (Bc ty3 rfl r80) (Arv (Bm (Aul) Bog rfl rfl ⟨rfl,rfl,rfl,trivial⟩ ?_))
  refine l_v (Iy rfl) (Bmb (.bool (!(inR a38.far 0 20))) (Cn (!(inR a38.far 0 20)) (fun b82=>?_) (fun b82=>?_)))
  ·have b83:=not_eq_t b82
   have q83:=Tr.1 b83
   refine Ap (gN rfl b82) (Ap (gN rfl b82) (Ap (gN rfl b82) (Ap (gN rfl b82) (l_v (Bt rfl b82 (v:=(.bool (true))) rfl) (Bmb (.bool (true)) (Ap (gN rfl rfl) (Ap (gN rfl rfl) (Ap (gN rfl rfl) (Ap (gN rfl rfl) (l_v (Bt rfl rfl (v:=(.bool (true))) rfl) (l_k k79 (Co rfl rfl (w_q rfl rfl fun K84 k84=>Bma (iV (1)) (l_k k84 (Aj (Brj (Brn l2 l41)) (Aq (hret _ _ _ (⟨rfl,rfl,_,rfl,fun h=>absurd h (by decide)⟩))))))))))))))))))
  have b85:=not_eq_f b82
  have q85:=Fz.1 b85
  refine Ak (gY rfl b82) (Ay WPlot.f_needs Bno rfl rfl Mx (by decide) h52_4 r41) fun v86 r86=>Ak (gY rfl b82) (Ax Mx rfl r86) fun v87 r87=>Ae (gY rfl b82) (Bm (Aum r87) Bpw rfl rfl ⟨rfl,rfl,rfl,trivial⟩ ?_)
  refine Aa (gY rfl b82) (Iy rfl) (l_v (Bn rfl b82 (v:=(.bool (!(Ef a38.needs 0 999999999)))) rfl) (Bmb (.bool (!(Ef a38.needs 0 999999999))) (Cn (!(Ef a38.needs 0 999999999)) (fun b88=>?_) (fun b88=>?_))))
  ·have b89:=not_eq_t b88
   have q89:=trivial
   refine Ap (gN rfl b88) (Ap (gN rfl b88) (Ap (gN rfl b88) (Ap (gN rfl b88) (l_v (Bt rfl b88 (v:=(.bool (true))) rfl) (l_k k79 (Co rfl rfl (w_q rfl rfl fun K90 k90=>Bma (iV (1)) (l_k k90 (Aj (Brj (Brn l2 l41)) (Aq (hret _ _ _ (⟨rfl,rfl,_,rfl,fun h=>absurd h (by decide)⟩))))))))))))
  have b91:=not_eq_f b88
  have q91:=Re.1 b91
  refine Ak (gY rfl b88) (Ay WPlot.f_worth Bno rfl rfl ty3 (by decide) h52_4 r41) fun v92 r92=>?_
  have ⟨g93a,g93b⟩:=Brh r92
  refine Aa (gY rfl b88) (Bc ty3 rfl r92) (Ae (gY rfl b88) (Bm (Aul) Bog rfl rfl ⟨rfl,rfl,rfl,trivial⟩ ?_))
  refine Aa (gY rfl b88) (Iy rfl) (l_v (Bn rfl b88 (v:=(.bool (!(inR a38.worth 0 10000)))) rfl) (l_k k79 (Up (t:=!(inR a38.worth 0 10000)) rfl (fun b94=>?_) (fun b94=>?_))))
  ·have b95:=not_eq_t b94
   have q95:=Tr.1 b95
   refine w_q rfl rfl fun K96 k96=>Bma (iV (1)) (l_k k96 (Aj (Brj (Brn l2 l41)) (Aq (hret _ _ _ (⟨rfl,rfl,_,rfl,fun h=>absurd h (by decide)⟩)))))
  have b97:=not_eq_f b94
  have q97:=Fz.1 b97
  refine Al (k33 _ _ _ _ ?_)
  refine Ag rfl rfl (l_v (Ah (v:=(iV ((i:Int)))) h52_3) (l_v (Br rfl rfl (z:=(((i + 1):Nat):Int)) wrE) (Bma (iV ((((i + 1):Nat):Int))) (Bj (Brj l41) (Ac ?_)))))
  refine ⟨_,?_,((i + 1)),rfl,rfl,rfl,rfl,h52_1,rfl,(by omega),(Eg p26_1 (fun x hx=>by rw [ha38] at hx; cases hx; exact ⟨by simp [b7,b10,b13,b16,b22,b32,b46,b49,b55,b75,b78,b82,b85,b88,b91,b94,b97],fun k y hk hy=>p52_1 k (by omega) y hy,by omega,by omega,q91,by omega⟩)),trivial⟩
  omega
 have q32:=of_decide_eq_false b32
 refine Bx (k24 _ _ _ _ ?_)
 refine w_q rfl rfl fun K98 k98=>Bma (iV (0)) (l_k k98 (Aj (Brj l2) (Aq (hret _ _ _ (⟨rfl,rfl,_,rfl,fun _=>⟨q10,q16,by omega,fun j hj=>p26_1 j (by omega)⟩⟩)))))
theorem Auu {d:Ditch} {vd:Value} (rd:Val ρ vd d):CallsH (CX mn X) 30 #[vd] ρ σ (fun w ρ' σ'=>ρ' = ρ∧σ' = σ∧∃ f:Int,w = .int .i64 f∧(f = 0→DitchOk d)):=by
 refine Bh (n:=23) (args:=[vd]) [2] Bql rfl rfl rfl rfl fun Q hret hnor=>w_q rfl rfl fun K1 k1=>Arv (Eb (v:=vd) rfl fun k2=>?_)
 refine Bb (a:=d) rd fun ρ2 l2 r2=>Bma (iV (0)) (Ary rfl rfl k1 fun K3 K4 k3 k4=>Arw (Ax Asi rfl r2) fun v5 r5=>Arv (Cm (vs:=[v5]) (Azo r5) Tryz.func73 rfl rfl ⟨rfl,trivial⟩ fun w6 ρ6 σ6 hc6=>?_))
 obtain ⟨hr6,hs6,f6_,hw6,hz6⟩:=hc6
 replace hr6:=hr6.symm; replace hs6:=hs6.symm; subst hr6 hs6 hw6
 refine Bma (iV (f6_)) (Arx rfl rfl k4 fun K7 k7=>Bmb (iV (f6_)) (l_v (Dg rfl rfl) (l_k k7 (Up (t:=f6_ != 0) rfl (fun b8=>?_) (fun b8=>?_)))))
 ·have q8:=Ls b8
  refine w_q rfl rfl fun K9 k9=>Bmb (iV (f6_)) (Bma (iV (f6_)) (l_k k9 (Aj (Brj l2) (Aq (hret _ _ _ (⟨rfl,rfl,_,rfl,fun h=>absurd h q8⟩))))))
 have q8:=Jh b8
 refine Al (k3 _ _ _ _ ?_)
 refine Asb rfl rfl fun K10 K11 k10 k11=>Arw (Ax Asi rfl r2) fun v12 r12=>Arv (Cm (vs:=[v12]) (Bbp r12) Tryz.func74 rfl rfl ⟨rfl,trivial⟩ fun w13 ρ13 σ13 hc13=>?_)
 obtain ⟨hr13,hs13,f13_,hw13,hz13⟩:=hc13
 replace hr13:=hr13.symm; replace hs13:=hs13.symm; subst hr13 hs13 hw13
 refine Bma (iV (f13_)) (Arx rfl rfl k11 fun K14 k14=>Bmb (iV (f13_)) (l_v (Dg rfl rfl) (l_k k14 (Up (t:=f13_ != 0) rfl (fun b15=>?_) (fun b15=>?_)))))
 ·have q15:=Ls b15
  refine w_q rfl rfl fun K16 k16=>Bmb (iV (f13_)) (Bma (iV (f13_)) (l_k k16 (Aj (Brj l2) (Aq (hret _ _ _ (⟨rfl,rfl,_,rfl,fun h=>absurd h q15⟩))))))
 have q15:=Jh b15
 refine Al (k10 _ _ _ _ ?_)
 refine Asb rfl rfl fun K17 K18 k17 k18=>Arw (Ax Asi rfl r2) fun v19 r19=>Arv (Cm (vs:=[v19]) (Azn r19) Tryz.func75 rfl rfl ⟨rfl,trivial⟩ fun w20 ρ20 σ20 hc20=>?_)
 obtain ⟨hr20,hs20,f20_,hw20,hz20⟩:=hc20
 replace hr20:=hr20.symm; replace hs20:=hs20.symm; subst hr20 hs20 hw20
 refine Bma (iV (f20_)) (Arx rfl rfl k18 fun K21 k21=>Bmb (iV (f20_)) (l_v (Dg rfl rfl) (l_k k21 (Up (t:=f20_ != 0) rfl (fun b22=>?_) (fun b22=>?_)))))
 ·have q22:=Ls b22
  refine w_q rfl rfl fun K23 k23=>Bmb (iV (f20_)) (Bma (iV (f20_)) (l_k k23 (Aj (Brj l2) (Aq (hret _ _ _ (⟨rfl,rfl,_,rfl,fun h=>absurd h q22⟩))))))
 have q22:=Jh b22
 refine Al (k17 _ _ _ _ ?_)
 refine w_q rfl rfl fun K24 k24=>Arw (Ax Asi rfl r2) fun v25 r25=>Arv (Cm (vs:=[v25]) (Bbo r25) Tryz.func76 rfl rfl ⟨rfl,trivial⟩ fun w26 ρ26 σ26 hc26=>?_)
 obtain ⟨hr26,hs26,f26_,hw26,hz26⟩:=hc26
 replace hr26:=hr26.symm; replace hs26:=hs26.symm; subst hr26 hs26 hw26
 refine Bma (iV (f26_)) (l_k k24 (Aj (Brj l2) (Aq (hret _ _ _ (⟨rfl,rfl,_,rfl,fun h=>Bbq (hz6 q8) (hz13 q15) (hz20 q22) (hz26 h)⟩)))))
end
section
open Go
theorem Baa {f:Nat→Int}:∀ {n:Nat},Ata f n = Df n f
 | 0=>rfl
 | n + 1=>by unfold Ata Df; rw [Baa]
theorem Ayz {f:Nat→Int} {j:Nat}:∀ {n:Nat},Ata (fun i=>if i = j then f i else 0) n = if j < n then f j else 0
 | 0=>rfl
 | n + 1=>by
  unfold Ata
  rw [Ayz (n:=n)]
  by_cases h1:n = j
  ·subst h1; rw [if_pos rfl,if_neg (by omega),if_pos (by omega),Int.zero_add]
  ·rw [if_neg h1,Int.add_zero]
   by_cases h2:j < n
   ·rw [if_pos h2,if_pos (by omega)]
   ·rw [if_neg h2,if_neg (by omega)]
def Atu (d:Ditch) (a b:Int) (h:Nat):FField:=⟨d.holders.getD h (ByteArray.mk #[]),(h:Int),⟨0,Asm d (h:Int) a b⟩,[]⟩
def Ast (d:Ditch) (a b:Int) (n:Nat):List FField:=(List.range n).map (Atu d a b)
def Ath (n:Nat):List Int:=(List.range n).map fun h:Nat=>(h:Int)
def Atb (d:Ditch) (a b:Int) (g:Int):Market:=⟨d.holders,[],Ast d a b d.holders.length,[⟨g,Ath d.holders.length⟩]⟩
theorem Axu {d:Ditch} {a b:Int} {n i:Nat}:(Ast d a b n)[i]? = if i < n then some (Atu d a b i) else none:=by
 unfold Ast
 rw [List.getElem?_map]
 by_cases h:i < n
 ·rw [List.getElem?_range h,if_pos h]; rfl
 ·rw [if_neg h,List.getElem?_eq_none (by simp; omega)]; rfl
theorem Bdh {n i:Nat}:(Ath n)[i]? = if i < n then some (i:Int) else none:=by
 unfold Ath
 rw [List.getElem?_map]
 by_cases h:i < n
 ·rw [List.getElem?_range h,if_pos h]; rfl
 ·rw [if_neg h,List.getElem?_eq_none (by simp; omega)]; rfl
theorem Aup {l:List ByteArray} {m:Int} (h:Dd l m = 0):(∀ (i:Nat) (x:ByteArray),l[i]? = some x→Hg x = true)∧∀ (i k:Nat) (x y:ByteArray),l[i]? = some x→k < i→l[k]? = some y→y.toList ≠ x.toList:=by
 unfold Dd at h
 split at h
 ·cases h
 ·rw [Fx] at h
  refine ⟨fun i x hx=>?_,fun i k x y hx hk hy e=>?_⟩
  ·have h1:=h i (List.getElem?_eq_some_iff.1 hx).1
   simp only [Nh,hx] at h1
   split at h1
   ·assumption
   ·cases h1
  ·have hi:=(List.getElem?_eq_some_iff.1 hx).1
   have h1:=h i hi
   simp only [Nh,hx] at h1
   split at h1
   ·split at h1
    ·cases h1
    ·rename_i h2
     unfold Aht at h2
     rcases Ft (n:=(l.take i).length) (p:=Xi (l.take i) x) with ⟨j,hj,_,_,he⟩ | ⟨h3,he⟩
     ·rw [he] at h2; simp only at h2; omega
     ·have h4:=h3 k (by rw [List.length_take]; omega)
      have h5:(l.take i)[k]? = some y:=by rw [List.getElem?_take,if_pos hk]; exact hy
      simp only [Xi,h5] at h4
      rw [e] at h4
      simp at h4
   ·cases h1
theorem Ave {d:Ditch} (ok:DitchOk d) (h5:1 ≤ d.holders.length∧d.holders.length ≤ 5) {a b g:Int} (ha:0 ≤ a) (hab:a ≤ b) (hb:b - a ≤ 100000) (hg:0 ≤ g∧g ≤ 1000000):Cf (Atb d a b g) = 0:=by
 obtain ⟨hn1,hn2⟩:=Aup ok.names
 have h1:Dd d.holders 5 = 0:=by
  have:=ok.names
  unfold Dd at this ⊢
  rw [if_neg (by omega)] at this
  rw [if_neg (by omega)]; exact this
 have hle:∀ h:Nat,h < d.holders.length→0 ≤ Asm d (h:Int) a b∧Asm d (h:Int) a b ≤ 1000000:=fun h hh=>by
  refine ⟨Auy ok ha hab,?_⟩
  have s:=Ayl ok ha hab
  have m:=Avn ok ha hab
  rw [Baa] at s
  have:=Alw (n:=d.holders.length) (k:=h) (f:=fun h=>Asm d (h:Int) a b) (fun i _=>Auy ok ha hab) hh
  omega
 have h3:Ew (Atb d a b g) = 0:=by
  unfold Ew
  have hl:(Atb d a b g).fields.length = d.holders.length:=by simp [Atb,Ast]
  rw [if_neg (by omega),Fx]
  intro i hi
  rw [hl] at hi
  have hx:(Atb d a b g).fields[i]? = some (Atu d a b i):=by show (Ast d a b _)[i]? = _; rw [Axu,if_pos hi]
  have hnm:∀ k,k < d.holders.length→d.holders[k]? = some (Atu d a b k).name:=fun k hk=>by
   show _ = some (d.holders.getD k _)
   rw [List.getD_eq_getElem?_getD,List.getElem?_eq_getElem hk]; rfl
  have e1:Hg (Atu d a b i).name = true:=hn1 i _ (hnm i hi)
  have e2:(Cl i (Mk (Atb d a b g) (Atu d a b i).name)).isSome = false:=Fs.2 fun j hj=>by
   have hy:(Atb d a b g).fields[j]? = some (Atu d a b j):=by show (Ast d a b _)[j]? = _; rw [Axu,if_pos (by omega)]
   simp only [Mk,hy]
   exact beq_eq_false_iff_ne.2 (hn2 i j _ _ (hnm i hi) hj (hnm j (by omega)))
  have e3:inR (Atu d a b i).house 0 (((Atb d a b g).houses.length:Int) - 1) = true:=Fz.2 (by show 0 ≤ (i:Int)∧(i:Int) ≤ (d.holders.length:Int) - 1; omega)
  have e4:Ef (Atu d a b i).grows 0 1000000 = true:=Re.2 (by have:=hle i hi; exact ⟨Int.le_refl _,this.1,this.2⟩)
  have e5:Fm (Atu d a b i).marks (((Atb d a b g).marks.length:Nat):Int) = 0:=rfl
  simp only [fieldAt,hx]
  rw [e1,e2,e3,e4,e5]; rfl
 have h4:Jc (Atb d a b g) = 0:=by
  unfold Jc
  have hl:(Atb d a b g).sales.length = 1:=rfl
  rw [if_neg (by omega),Fx]
  intro i hi
  have:i = 0:=by omega
  subst this
  have hs:(Atb d a b g).sales[0]? = some ⟨g,Ath d.holders.length⟩:=rfl
  have hw:(Ath d.holders.length).length = d.holders.length:=by simp [Ath]
  simp only [Jb,hs]
  rw [if_pos (Fz.2 hg),if_neg (by rw [hw]; omega),Fx]
  intro k hk
  rw [hw] at hk
  have hx:(Ath d.holders.length)[k]? = some (k:Int):=by rw [Bdh,if_pos hk]
  simp only [Gt,hx]
  rw [if_pos (Fz.2 (by show 0 ≤ (k:Int)∧(k:Int) ≤ (d.holders.length:Int) - 1; omega))]
  by_cases h0:0 < k
  ·rw [if_pos h0,Bdh,if_pos (by omega)]
   show (if (k:Int) ≤ ((k - 1:Nat):Int) then (7:Int) else 0) = 0
   rw [if_neg (by omega)]
  ·rw [if_neg h0]
 unfold Cf
 show orF (Dd d.holders 5) (orF (Dd [] 4) _) = 0
 rw [h1,h3,h4]; decide
theorem Bkm {d:Ditch} {a b g:Int} {h:Nat} (hh:h < d.holders.length):Em (Atb d a b g) (h:Int) = Asm d (h:Int) a b:=by
 unfold Em
 show ((Ast d a b d.holders.length).map (Es (h:Int))).sum = _
 unfold Ast
 rw [List.map_map,Beg,← Baa]
 have e:∀ i:Nat,(Es (h:Int) ∘ Atu d a b) i = if i = h then Asm d (i:Int) a b else 0:=fun i=>by
  show (if (i:Int) = (h:Int) then Asm d (i:Int) a b else 0) = _
  by_cases e:i = h
  ·rw [if_pos e,if_pos (by omega)]
  ·rw [if_neg e,if_neg (by omega)]
 rw [Ats (fun i _=>e i),Ayz,if_pos hh]
theorem Bij {d:Ditch} (ok:DitchOk d) (h5:d.holders.length ≤ 5) {a b g:Int} (ha:0 ≤ a) (hab:a ≤ b):Ue (Atb d a b g) [⟨g,Ath d.holders.length⟩] = g - (Ash d b - Ash d a):=by
 unfold Ue
 have e:∀ h:Nat,(if ([⟨g,Ath d.holders.length⟩]:List Sale).any (Gn · h) then Em (Atb d a b g) h else 0) = if h < d.holders.length then Asm d (h:Int) a b else 0:=fun h=>by
  have hs:([⟨g,Ath d.holders.length⟩]:List Sale).any (Gn · h) = decide (h < d.holders.length):=by
   rw [List.any_cons,List.any_nil,Bool.or_false]
   unfold Gn Ath
   by_cases hh:h < d.holders.length
   ·rw [decide_eq_true hh,List.any_eq_true]
    exact ⟨(h:Int),List.mem_map.2 ⟨h,List.mem_range.2 hh,rfl⟩,by simp⟩
   ·rw [decide_eq_false hh,List.any_eq_false]
    intro x hx
    obtain ⟨j,hj,rfl⟩:=List.mem_map.1 hx
    have:=List.mem_range.1 hj
    simp only [beq_iff_eq]; omega
  rw [hs]
  by_cases hh:h < d.holders.length
  ·rw [decide_eq_true hh,if_pos rfl,if_pos hh,Bkm hh]
  ·rw [decide_eq_false hh,if_neg (by simp),if_neg hh]
 rw [Et (fun h _=>e h),Ajg h5 (fun i h1 _=>if_neg (by omega)),Et (g:=fun h=>Asm d (h:Int) a b) (fun h hh=>if_pos hh),← Baa,Ayl ok ha hab]
 simp
/-- What they sell beyond the hours of the water is the excess. -/
theorem Blv {d:Ditch} (ok:DitchOk d) (h5:1 ≤ d.holders.length∧d.holders.length ≤ 5) {a b g:Int} (ha:0 ≤ a) (hab:a ≤ b) (hb:b - a ≤ 100000) (hg:0 ≤ g∧g ≤ 1000000):Ahr (Atb d a b g) = max 0 (g - (Ash d b - Ash d a)):=by
 have hm:=Ave ok h5 ha hab hb hg
 unfold Ahr
 rw [if_pos hm]
 have h0:=Avy (Rg hm)
 have h1:=Bbv (m:=Atb d a b g) (ss:=[⟨g,Ath d.holders.length⟩]) (List.Sublist.refl _)
 rw [Bij ok h5.2 ha hab] at h1
 obtain ⟨ss,h2,h3⟩:=Bfc (m:=Atb d a b g)
 have h4:ss = []∨ss = [⟨g,Ath d.holders.length⟩]:=by
  have:ss.Sublist [⟨g,Ath d.holders.length⟩]:=h2
  rcases List.sublist_cons_iff.1 this with h | ⟨r,rfl,h⟩
  ·left; exact List.sublist_nil.1 h
  ·right; rw [List.sublist_nil.1 h]
 rcases h4 with rfl | rfl
 ·have:Ue (Atb d a b g) [] = 0:=by unfold Ue; simp [Df]
  omega
 ·rw [Bij ok h5.2 ha hab] at h3; omega
end
section
open Go
theorem Axb {α:Type} {l:List α} {i:Nat} {p:α→Bool} (h:∀ k y,k < i→l[k]? = some y→p y = false):(l.take i).any p = false:=by
 rw [Bool.eq_false_iff]
 intro hc
 obtain ⟨y,hy,hp⟩:=List.any_eq_true.1 hc
 obtain ⟨k,hk⟩:=List.mem_iff_getElem?.1 hy
 rw [List.getElem?_take] at hk
 split at hk
 ·rename_i hki
  rw [h k y hki hk] at hp; cases hp
 ·cases hk
theorem DitchOk.len6 {d:Ditch} (ok:DitchOk d):d.holders.length ≤ 6:=by
 have h:=ok.names
 unfold Dd at h
 split at h
 ·omega
 ·omega
theorem DitchOk.plotName {d:Ditch} (ok:DitchOk d) {i:Nat} {x:WPlot} (hx:d.plots[i]? = some x):(d.plots.take i).any (fun y=>y.name.toList == x.name.toList) = false :=
 Axb fun k y hk hy=>beq_eq_false_iff_ne.2 ((ok.plot i x hx).2.1 k y hk hy)
/-- The last hour of the feasts before. -/
def Aym (d:Ditch) (i:Nat):Int:=if i = 0 then -1 else match d.feasts[i - 1]? with | some x=>x.high | none=>-1
theorem Baq {d:Ditch} (ok:DitchOk d) {i:Nat} {x:Span} (hx:d.feasts[i]? = some x):Aym d i < x.low:=by
 unfold Aym
 have h1:=(ok.feast i x hx).1
 split
 ·omega
 ·split
  ·rename_i h0 y hy; exact (ok.feast i x hx).2 y (by omega) hy
  ·omega
theorem Axk {d:Ditch} {i:Nat} {x:Span} (hx:d.feasts[i]? = some x):Aym d (i + 1) = x.high:=by
 unfold Aym
 rw [if_neg (by omega),Nat.add_sub_cancel,hx]
section
variable {P:Program} {ρ:Ro} {e:Env} {ty t t' el:TypeId} {x y:Operand}
/-- An array of elements of one cell. -/
theorem Bcj {len:Nat} {z:Value} {zc cs:List Value} {ps:List (Nat × Operand)} {vs:List (Nat × Value)} (hT:P.underlying t = some (.array len el)) (hz:Fw P t z) (hzc:z.cells = zc.toArray) (hE:∃ i,P.info? el = some i∧i.size = 1)
  (hp:ps.map (fun p=>(p.1,Af e p.2)) = vs) (hf:Instr.fill (fun i=>some (i * 1,1)) zc.toArray vs = some cs.toArray):Yld P ρ e (.build t ps.toArray) ty (.agg cs.toArray) :=
 Mt (s:=Instr.build t (ps.toArray.map fun (p:Nat × Operand)=>(p.1,Af e p.2))) (fun _ _ _ _=>rfl) fun ρ' σ _=>by
  have hps:(ps.toArray.map fun (p:Nat × Operand)=>(p.1,Af e p.2)) = vs.toArray:=by rw [← hp]; simp
  rw [hps]
  unfold Instr.build
  show wpS P ρ' ((zeroValue t).bind _) σ _
  rw [Ad]
  refine Jz hz ?_
  show wpS P ρ' ((underlying t).bind _) σ _
  rw [Ad]
  refine Az hT ?_
  dsimp only
  show wpS P ρ' ((sizeOf el).bind _) σ _
  rw [Ad]
  refine Dx hE ?_
  simp only [hzc]
  rw [hf]
  exact ⟨rfl,rfl⟩
theorem Att {len:Nat} {cs:List Value} {k:IntKind} {q:Int} {v:Value} (i:Nat) (hT:P.underlying t = some (.array len el)) (hE:∃ d,P.underlying el = some d∧Qv d = false) (hz:∃ i,P.info? el = some i∧i.size = 1) (hx:Af e x = .agg cs.toArray) (hy:Af e y = .int k q) (hq:q = (i:Int)) (hi:i < len) (hc:cs[i]? = some v):Yld P ρ e (.index t x y) ty v :=
 Mt (s:=Instr.index t (Af e x) (Af e y)) (fun _ _ _ _=>rfl) fun ρ' σ _=>by
 rw [hx,hy,hq]
 show wpS P ρ' ((underlying t).bind _) σ _
 rw [Ad]
 refine Az hT ?_
 show wpS P ρ' (if 0 ≤ (i:Int)∧(i:Int) < (len:Nat) then _ else _) σ _
 rw [if_pos (by omega)]
 show wpS P ρ' ((sizeOf el).bind _) σ _
 rw [Ad]
 refine Dx hz ?_
 show wpS P ρ' ((isAgg el).bind _) σ _
 rw [Ad]
 refine Hi hE ?_
 have e1:(cs.toArray)[(i:Int).toNat * 1]? = some v:=by simp [hc]
 simp only [e1]
 exact ⟨rfl,rfl⟩
end
structure FTab where
 l:List Value
instance:Dat FTab where
 k:=4
 agg:=true
 rep _ cs a:=cs = a.l∧a.l.length = 4∧∀ c ∈ a.l,single c = true
 mono _ h:=h
 len h:=by rw [h.1]; exact h.2.1
 sgl h:=by rw [h.1]; exact h.2.2
 one h:=by cases h
theorem Awg {ρ:Ro} {v:Value} {a:FTab} (h:Val ρ v a):v = .agg a.l.toArray:=by
 obtain ⟨cs,⟨h1,_,_⟩,rfl⟩:=h
 rw [h1]; rfl
theorem Bkk:GoTy Tryz.prog 315 FTab:=⟨⟨_,Bpl,rfl⟩,⟨_,Ab Tryz.typeInfo315,rfl⟩⟩
def Blg:List Value:=[z0,z0,z0]
theorem Blm:Fw Tryz.prog 339 (.agg #[z0,z0,z0]):=⟨_,Ab Tryz.typeInfo339,rfl⟩
def gA (k:Nat):Value:=.pointer (some ⟨k,0,none⟩)
def checksT:FTab:=⟨[.func (.func 210) #[] #[],.func (.func 211) #[] #[],.func (.func 212) #[] #[],.func (.func 213) #[] #[]]⟩
/-- The table of the checks of a ditch,which nobody writes to. -/
structure GlobT (ρ:Ro):Prop where
 g:Glob ρ
 checks:At ρ (gA 2) checksT
theorem GlobT.mono {ρ ρ':Ro} (h:Ro.le ρ ρ') (hg:GlobT ρ):GlobT ρ':=⟨hg.g.mono h,hg.checks.mono h⟩
/-- A ditch in a struct of its own. -/
theorem Bab {ρ:Ro} {v:Value} {d:Ditch} (h:Val ρ v d):Val ρ v (⟨d⟩:DitchP):=h
theorem Aus {ρ:Ro} {e:Env} {ty:TypeId} {x:Operand} {v:Value} {d:Ditch} (hx:Af e x = v) (hv:Val ρ v d):Yld Tryz.prog ρ e (.build 290 [(0,x)].toArray) ty v:=by
 obtain ⟨cs,h1,rfl⟩:=hv
 have hl:cs.length = 14:=Dat.len h1
 have hm:Vu (Dat.agg Ditch) cs = .agg cs.toArray:=rfl
 rw [hm] at hx ⊢
 obtain ⟨a0,a1,a2,a3,a4,a5,a6,a7,a8,a9,a10,a11,a12,a13,rfl⟩:∃ a0 a1 a2 a3 a4 a5 a6 a7 a8 a9 a10 a11 a12 a13,cs = [a0,a1,a2,a3,a4,a5,a6,a7,a8,a9,a10,a11,a12,a13]:=by
  match cs,hl with
  | [a0,a1,a2,a3,a4,a5,a6,a7,a8,a9,a10,a11,a12,a13],_=>exact ⟨_,_,_,_,_,_,_,_,_,_,_,_,_,_,rfl⟩
 exact Dn (ns:=[14]) (vs:=[(0,.agg #[a0,a1,a2,a3,a4,a5,a6,a7,a8,a9,a10,a11,a12,a13])]) (zc:=Ble) (cs:=[a0,a1,a2,a3,a4,a5,a6,a7,a8,a9,a10,a11,a12,a13]) Bnf Blk rfl ⟨⟨_,Ab Box,rfl⟩,trivial⟩ (EvB.map ⟨⟨rfl,hx⟩,trivial⟩) ((Be (cs:=[a0,a1,a2,a3,a4,a5,a6,a7,a8,a9,a10,a11,a12,a13]) rfl rfl (Nat.le_of_ble_eq_true rfl)).trans rfl)
end
section
set_option maxHeartbeats 1000000
open Go
variable {mn:Bool} {X:Frame→List Frame→Ro→Own→Cy→Prop} {ρ:Ro} {σ:Own}
theorem Asu {n low high:Int} :CallsH (CX mn X) 166 #[(iV (n)),(iV (low)),(iV (high))] ρ σ (rP ρ σ (.bool (inR n low high))):=by
 refine Bh (n:=15) (args:=[(iV (n)),(iV (low)),(iV (high))]) [6] Boo rfl rfl rfl rfl fun Q hret hnor=>w_q rfl rfl fun K1 k1=>Bma (.bool (false)) (Arx rfl rfl k1 fun K2 k2=>Bmb (iV (low)) (Bmb (iV (n)) (l_v (Uz rfl rfl) (Bmb (.bool (decide (low ≤ n))) (Cn (decide (low ≤ n)) (fun b3=>?_) (fun b3=>?_))))))
 ·have q3:=of_decide_eq_true b3
  refine l_M (iV (n)) (gY rfl b3) rfl (l_M (iV (high)) (gY rfl b3) rfl (Aa (gY rfl b3) (Uz rfl rfl) (l_v (Bt rfl b3 (v:=(.bool (decide (n ≤ high)))) rfl) (Bma (.bool (decide (n ≤ high))) (l_k k2 (Aq (hret _ _ _ ⟨rfl,rfl,eT (.bool (decide (n ≤ high))) ?_⟩)))))))
  simp only [inR,b3,Bool.true_and,Bool.false_and,Bool.and_true,Bool.and_false,Bool.true_or,Bool.false_or,Bool.or_true,Bool.or_false,Bool.not_true,Bool.not_false]
 have q3:=of_decide_eq_false b3
 refine Ap (gN rfl b3) (Ap (gN rfl b3) (Ap (gN rfl b3) (l_v (Bn rfl b3 (v:=(.bool (false))) rfl) (Bma (.bool (false)) (l_k k2 (Aq (hret _ _ _ ⟨rfl,rfl,eT (.bool (false)) ?_⟩)))))))
 simp only [inR,b3,Bool.true_and,Bool.false_and,Bool.and_true,Bool.and_false,Bool.true_or,Bool.false_or,Bool.or_true,Bool.or_false,Bool.not_true,Bool.not_false]
theorem Aun {x:Span} {vx:Value} {low high:Int} (rx:Val ρ vx x):CallsH (CX mn X) 215 #[vx,(iV (low)),(iV (high))] ρ σ (rP ρ σ (.bool (Ef x low high))):=by
 refine Bh (n:=24) (args:=[vx,(iV (low)),(iV (high))]) [6] Bpy rfl rfl rfl rfl fun Q hret hnor=>w_q rfl rfl fun K1 k1=>Arv (Eb (v:=vx) rfl fun k2=>?_)
 refine Bb (a:=x) rx fun ρ2 l2 r2=>Bma (.bool (false)) (Arx rfl rfl k1 fun K3 k3=>Bmb (iV (low)) (Arw (Ay Span.f_low Bnj rfl rfl ty3 (by decide) rfl r2) fun v4 r4=>?_))
 have ⟨g5a,g5b⟩:=Brh r4
 refine l_v (Bc ty3 rfl r4) (l_v (Uz rfl rfl) (Bmb (.bool (decide (low ≤ x.low))) (Cn (decide (low ≤ x.low)) (fun b6=>?_) (fun b6=>?_))))
 ·have q6:=of_decide_eq_true b6
  refine Ak (gY rfl b6) (Ay Span.f_low Bnj rfl rfl ty3 (by decide) rfl r2) fun v7 r7=>?_
  have ⟨g8a,g8b⟩:=Brh r7
  refine Aa (gY rfl b6) (Bc ty3 rfl r7) (Ak (gY rfl b6) (Ay Span.f_high Bnj rfl rfl ty3 (by decide) rfl r2) fun v9 r9=>?_)
  have ⟨g10a,g10b⟩:=Brh r9
  refine Aa (gY rfl b6) (Bc ty3 rfl r9) (Aa (gY rfl b6) (Uz rfl rfl) (l_v (Bt rfl b6 (v:=(.bool (decide (x.low ≤ x.high)))) rfl) (Bmb (.bool (decide (x.low ≤ x.high))) (Cn (decide (x.low ≤ x.high)) (fun b11=>?_) (fun b11=>?_)))))
  ·have q11:=of_decide_eq_true b11
   refine Ak (gY rfl b11) (Ay Span.f_high Bnj rfl rfl ty3 (by decide) rfl r2) fun v12 r12=>?_
   have ⟨g13a,g13b⟩:=Brh r12
   refine Aa (gY rfl b11) (Bc ty3 rfl r12) (l_M (iV (high)) (gY rfl b11) rfl (Aa (gY rfl b11) (Uz rfl rfl) (l_v (Bt rfl b11 (v:=(.bool (decide (x.high ≤ high)))) rfl) (Bma (.bool (decide (x.high ≤ high))) (l_k k3 (Aj (Brj l2) (Aq (hret _ _ _ ⟨rfl,rfl,eT (.bool (decide (x.high ≤ high))) ?_⟩))))))))
   simp only [Ef,b6,b11,Bool.true_and,Bool.false_and,Bool.and_true,Bool.and_false,Bool.true_or,Bool.false_or,Bool.or_true,Bool.or_false,Bool.not_true,Bool.not_false]
  have q11:=of_decide_eq_false b11
  refine Ap (gN rfl b11) (Ap (gN rfl b11) (Ap (gN rfl b11) (Ap (gN rfl b11) (l_v (Bn rfl b11 (v:=(.bool (false))) rfl) (Bma (.bool (false)) (l_k k3 (Aj (Brj l2) (Aq (hret _ _ _ ⟨rfl,rfl,eT (.bool (false)) ?_⟩)))))))))
  simp only [Ef,b6,b11,Bool.true_and,Bool.false_and,Bool.and_true,Bool.and_false,Bool.true_or,Bool.false_or,Bool.or_true,Bool.or_false,Bool.not_true,Bool.not_false]
 have q6:=of_decide_eq_false b6
 refine Ap (gN rfl b6) (Ap (gN rfl b6) (Ap (gN rfl b6) (Ap (gN rfl b6) (Ap (gN rfl b6) (l_v (Bn rfl b6 (v:=(.bool (false))) rfl) (Bmb (.bool (false)) (Ap (gN rfl rfl) (Ap (gN rfl rfl) (Ap (gN rfl rfl) (Ap (gN rfl rfl) (l_v (Bn rfl rfl (v:=(.bool (false))) rfl) (Bma (.bool (false)) (l_k k3 (Aj (Brj l2) (Aq (hret _ _ _ ⟨rfl,rfl,eT (.bool (false)) ?_⟩))))))))))))))))
 simp only [Ef,b6,Bool.true_and,Bool.false_and,Bool.and_true,Bool.and_false,Bool.true_or,Bool.false_or,Bool.or_true,Bool.or_false,Bool.not_true,Bool.not_false]
theorem Aut {d:Ditch} {vp:Value} {n:Int} (rp:At ρ vp (⟨d⟩:DitchP)):CallsH (CX mn X) 161 #[vp,(iV (n))] ρ σ (rP ρ σ (.bool (inR n 0 ((d.holders.length:Int) - 1)))):=by
 refine Bh (n:=14) (args:=[vp,(iV (n))]) [4] Bqj rfl rfl rfl rfl fun Q hret hnor=>w_q rfl rfl fun K1 k1=>Bma (.bool (false)) (Arx rfl rfl k1 fun K2 k2=>Bmb (iV (n)) (Bmb vp (l_v (Hj rfl rp) (Arw (Ay DitchP.f_d Bnf rfl rfl Asi (by decide) rfl rp) fun v3 r3=>Arw (Ay Ditch.f_holders Bna rfl rfl Hw (by decide) rfl r3) fun v4 r4=>Arw (Ax Hw rfl r4) fun v5 r5=>?_))))
 have g6:d.holders.length < 2 ^ 60:=Bro r5
 refine l_v (Ci (el:=9) Bnd rfl r5) (l_v (Ou rfl rfl (z:=(((d.holders.length:Nat):Int) - 1)) wrE) (Arv (Bm (Asu) Boo rfl rfl ⟨rfl,rfl,rfl,trivial⟩ ?_)))
 refine Bma (.bool (inR n 0 ((((d.holders.length:Nat):Int) - 1)))) (l_k k2 (Aq (hret _ _ _ ⟨rfl,rfl,eT (.bool (inR n 0 ((((d.holders.length:Nat):Int) - 1)))) ?_⟩)))
 rfl
theorem Axh {d:Ditch} {vp:Value} {n:Int} (rp:At ρ vp (⟨d⟩:DitchP)):CallsH (CX mn X) 216 #[vp,(iV (n))] ρ σ (rP ρ σ (.bool (inR n 0 ((d.turns.length:Int) - 1)))):=by
 refine Bh (n:=14) (args:=[vp,(iV (n))]) [4] Bqy rfl rfl rfl rfl fun Q hret hnor=>w_q rfl rfl fun K1 k1=>Bma (.bool (false)) (Arx rfl rfl k1 fun K2 k2=>Bmb (iV (n)) (Bmb vp (l_v (Hj rfl rp) (Arw (Ay DitchP.f_d Bnf rfl rfl Asi (by decide) rfl rp) fun v3 r3=>Arw (Ay Ditch.f_turns Bna rfl rfl Atj (by decide) rfl r3) fun v4 r4=>Arw (Ax Atj rfl r4) fun v5 r5=>?_))))
 have g6:d.turns.length < 2 ^ 60:=Bro r5
 refine l_v (Ci (el:=241) Bod rfl r5) (l_v (Ou rfl rfl (z:=(((d.turns.length:Nat):Int) - 1)) wrE) (Arv (Bm (Asu) Boo rfl rfl ⟨rfl,rfl,rfl,trivial⟩ ?_)))
 refine Bma (.bool (inR n 0 ((((d.turns.length:Nat):Int) - 1)))) (l_k k2 (Aq (hret _ _ _ ⟨rfl,rfl,eT (.bool (inR n 0 ((((d.turns.length:Nat):Int) - 1)))) ?_⟩)))
 rfl
theorem Bdv {c:UInt8} :CallsH (CX mn X) 219 #[(.int .u8 (((c.toNat:Nat):Int)))] ρ σ (rP ρ σ (.bool (Ov ((c.toNat:Nat):Int)))):=by
 refine Bh (n:=21) (args:=[(.int .u8 (((c.toNat:Nat):Int)))]) [2] Tryz.func219 rfl rfl rfl rfl fun Q hret hnor=>w_q rfl rfl fun K1 k1=>Bma (.bool (false)) (Arx rfl rfl k1 fun K2 k2=>Bmb (.int .u8 (((c.toNat:Nat):Int))) (l_v (Da rfl rfl) (Bmb (.bool (decide (((c.toNat:Nat):Int) < 97))) (Cn (decide (((c.toNat:Nat):Int) < 97)) (fun b3=>?_) (fun b3=>?_)))))
 ·have q3:=of_decide_eq_true b3
  refine Ap (gN rfl b3) (Ap (gN rfl b3) (l_v (Bt rfl b3 (v:=(.bool (true))) rfl) (Bmb (.bool (true)) (l_M (.int .u8 (((c.toNat:Nat):Int))) (gY rfl rfl) rfl (Aa (gY rfl rfl) (Da rfl rfl) (l_M (.bool (decide (((c.toNat:Nat):Int) < 48))) (gY rfl rfl) rfl (Cn (decide (((c.toNat:Nat):Int) < 48)) (fun b4=>?_) (fun b4=>?_))))))))
  ·have q4:=of_decide_eq_true b4
   refine Ap (gN rfl b4) (Ap (gN rfl b4) (Aa (gY rfl rfl) (Bt rfl b4 (v:=(.bool (true))) rfl) (l_v (Bt rfl rfl (v:=(.bool (true))) rfl) (Bmb (.bool (true)) (l_M (.int .u8 (((c.toNat:Nat):Int))) (gY rfl rfl) rfl (Aa (gY rfl rfl) (Dg rfl rfl) (l_v (Bt rfl rfl (v:=(.bool (((c.toNat:Nat):Int) != 45))) rfl) (Bma (.bool (((c.toNat:Nat):Int) != 45)) (l_k k2 (Aq (hret _ _ _ ⟨rfl,rfl,eT (.bool (((c.toNat:Nat):Int) != 45)) ?_⟩)))))))))))
   simp only [Ov,b3,b4,Bool.true_and,Bool.false_and,Bool.and_true,Bool.and_false,Bool.true_or,Bool.false_or,Bool.or_true,Bool.or_false,Bool.not_true,Bool.not_false]
  have q4:=of_decide_eq_false b4
  refine l_M (.int .u8 (((c.toNat:Nat):Int))) (gY rfl b4) rfl (Aa (gY rfl b4) (Gl (p:=((c.toNat:Nat):Int)) (q:=57) rfl rfl) (Aa (gY rfl rfl) (Bn rfl b4 (v:=(.bool (decide (((c.toNat:Nat):Int) > 57)))) rfl) (l_v (Bt rfl rfl (v:=(.bool (decide (((c.toNat:Nat):Int) > 57)))) rfl) (Bmb (.bool (decide (((c.toNat:Nat):Int) > 57))) (Cn (decide (((c.toNat:Nat):Int) > 57)) (fun b5=>?_) (fun b5=>?_))))))
  ·have q5:=of_decide_eq_true b5
   refine l_M (.int .u8 (((c.toNat:Nat):Int))) (gY rfl b5) rfl (Aa (gY rfl b5) (Dg rfl rfl) (l_v (Bt rfl b5 (v:=(.bool (((c.toNat:Nat):Int) != 45))) rfl) (Bma (.bool (((c.toNat:Nat):Int) != 45)) (l_k k2 (Aq (hret _ _ _ ⟨rfl,rfl,eT (.bool (((c.toNat:Nat):Int) != 45)) ?_⟩))))))
   simp only [Ov,b3,b4,b5,Bool.true_and,Bool.false_and,Bool.and_true,Bool.and_false,Bool.true_or,Bool.false_or,Bool.or_true,Bool.or_false,Bool.not_true,Bool.not_false]
  have q5:=of_decide_eq_false b5
  refine Ap (gN rfl b5) (Ap (gN rfl b5) (l_v (Bn rfl b5 (v:=(.bool (false))) rfl) (Bma (.bool (false)) (l_k k2 (Aq (hret _ _ _ ⟨rfl,rfl,eT (.bool (false)) ?_⟩))))))
  simp only [Ov,b3,b4,b5,Bool.true_and,Bool.false_and,Bool.and_true,Bool.and_false,Bool.true_or,Bool.false_or,Bool.or_true,Bool.or_false,Bool.not_true,Bool.not_false]
 have q3:=of_decide_eq_false b3
 refine l_M (.int .u8 (((c.toNat:Nat):Int))) (gY rfl b3) rfl (Aa (gY rfl b3) (Gl (p:=((c.toNat:Nat):Int)) (q:=122) rfl rfl) (l_v (Bn rfl b3 (v:=(.bool (decide (((c.toNat:Nat):Int) > 122)))) rfl) (Bmb (.bool (decide (((c.toNat:Nat):Int) > 122))) (Cn (decide (((c.toNat:Nat):Int) > 122)) (fun b6=>?_) (fun b6=>?_)))))
 ·have q6:=of_decide_eq_true b6
  refine l_M (.int .u8 (((c.toNat:Nat):Int))) (gY rfl b6) rfl (Aa (gY rfl b6) (Da rfl rfl) (l_M (.bool (decide (((c.toNat:Nat):Int) < 48))) (gY rfl b6) rfl (Cn (decide (((c.toNat:Nat):Int) < 48)) (fun b7=>?_) (fun b7=>?_))))
  ·have q7:=of_decide_eq_true b7
   refine Ap (gN rfl b7) (Ap (gN rfl b7) (Aa (gY rfl b6) (Bt rfl b7 (v:=(.bool (true))) rfl) (l_v (Bt rfl b6 (v:=(.bool (true))) rfl) (Bmb (.bool (true)) (l_M (.int .u8 (((c.toNat:Nat):Int))) (gY rfl rfl) rfl (Aa (gY rfl rfl) (Dg rfl rfl) (l_v (Bt rfl rfl (v:=(.bool (((c.toNat:Nat):Int) != 45))) rfl) (Bma (.bool (((c.toNat:Nat):Int) != 45)) (l_k k2 (Aq (hret _ _ _ ⟨rfl,rfl,eT (.bool (((c.toNat:Nat):Int) != 45)) ?_⟩)))))))))))
   simp only [Ov,b3,b6,b7,Bool.true_and,Bool.false_and,Bool.and_true,Bool.and_false,Bool.true_or,Bool.false_or,Bool.or_true,Bool.or_false,Bool.not_true,Bool.not_false]
  have q7:=of_decide_eq_false b7
  refine l_M (.int .u8 (((c.toNat:Nat):Int))) (gY rfl b7) rfl (Aa (gY rfl b7) (Gl (p:=((c.toNat:Nat):Int)) (q:=57) rfl rfl) (Aa (gY rfl b6) (Bn rfl b7 (v:=(.bool (decide (((c.toNat:Nat):Int) > 57)))) rfl) (l_v (Bt rfl b6 (v:=(.bool (decide (((c.toNat:Nat):Int) > 57)))) rfl) (Bmb (.bool (decide (((c.toNat:Nat):Int) > 57))) (Cn (decide (((c.toNat:Nat):Int) > 57)) (fun b8=>?_) (fun b8=>?_))))))
  ·have q8:=of_decide_eq_true b8
   refine l_M (.int .u8 (((c.toNat:Nat):Int))) (gY rfl b8) rfl (Aa (gY rfl b8) (Dg rfl rfl) (l_v (Bt rfl b8 (v:=(.bool (((c.toNat:Nat):Int) != 45))) rfl) (Bma (.bool (((c.toNat:Nat):Int) != 45)) (l_k k2 (Aq (hret _ _ _ ⟨rfl,rfl,eT (.bool (((c.toNat:Nat):Int) != 45)) ?_⟩))))))
   simp only [Ov,b3,b6,b7,b8,Bool.true_and,Bool.false_and,Bool.and_true,Bool.and_false,Bool.true_or,Bool.false_or,Bool.or_true,Bool.or_false,Bool.not_true,Bool.not_false]
  have q8:=of_decide_eq_false b8
  refine Ap (gN rfl b8) (Ap (gN rfl b8) (l_v (Bn rfl b8 (v:=(.bool (false))) rfl) (Bma (.bool (false)) (l_k k2 (Aq (hret _ _ _ ⟨rfl,rfl,eT (.bool (false)) ?_⟩))))))
  simp only [Ov,b3,b6,b7,b8,Bool.true_and,Bool.false_and,Bool.and_true,Bool.and_false,Bool.true_or,Bool.false_or,Bool.or_true,Bool.or_false,Bool.not_true,Bool.not_false]
 have q6:=of_decide_eq_false b6
 refine Ap (gN rfl b6) (Ap (gN rfl b6) (Ap (gN rfl b6) (Ap (Jf rfl rfl rfl) (Ap (Jf rfl rfl rfl) (Ap (gN rfl b6) (l_v (Bn rfl b6 (v:=(.bool (false))) rfl) (Bmb (.bool (false)) (Ap (gN rfl rfl) (Ap (gN rfl rfl) (l_v (Bn rfl rfl (v:=(.bool (false))) rfl) (Bma (.bool (false)) (l_k k2 (Aq (hret _ _ _ ⟨rfl,rfl,eT (.bool (false)) ?_⟩))))))))))))))
 simp only [Ov,b3,b6,Bool.true_and,Bool.false_and,Bool.and_true,Bool.and_false,Bool.true_or,Bool.false_or,Bool.or_true,Bool.or_false,Bool.not_true,Bool.not_false]
theorem Bal {s:ByteArray} (hs:s.size < 2 ^ 60):CallsH (CX mn X) 214 #[(.string (s))] ρ σ (rP ρ σ (.bool (Hg s))):=by
 refine Bh (n:=21) (args:=[(.string (s))]) [2] Tryz.func214 rfl rfl rfl rfl fun Q hret hnor=>w_q rfl rfl fun K1 k1=>Bma (.bool (false)) (Ary rfl rfl k1 fun K2 K3 k2 k3=>Bmb (.string (s)) (l_v (Afz Bnt (s:=s) rfl) (Arv (Bm (Asu) Boo rfl rfl ⟨rfl,rfl,rfl,trivial⟩ ?_))))
 refine l_v (Iy rfl) (Bmb (.bool (!(inR (((s.size:Nat):Int)) 1 14))) (Cn (!(inR (((s.size:Nat):Int)) 1 14)) (fun b4=>?_) (fun b4=>?_)))
 ·have b5:=not_eq_t b4
  have q5:=Tr.1 b5
  refine Ap (gN rfl b4) (Ap (gN rfl b4) (Ap (gN rfl b4) (l_v (Bt rfl b4 (v:=(.bool (true))) rfl) (Bmb (.bool (true)) (Ap (gN rfl rfl) (Ap (gN rfl rfl) (Ap (gN rfl rfl) (l_v (Bt rfl rfl (v:=(.bool (true))) rfl) (l_k k3 (Co rfl rfl (w_q rfl rfl fun K6 k6=>Bma (.bool (false)) (l_k k6 (Aq (hret _ _ _ ⟨rfl,rfl,eT (.bool (false)) ?_⟩))))))))))))))
  simp only [Hg,Qb,b4,b5,Bool.true_and,Bool.false_and,Bool.and_true,Bool.and_false,Bool.true_or,Bool.false_or,Bool.or_true,Bool.or_false,Bool.not_true,Bool.not_false]
 have b7:=not_eq_f b4
 have q7:=Fz.1 b7
 refine l_M (.string (s)) (gY rfl b4) rfl ?_
 obtain ⟨c8,hc8⟩:=Alc (s:=s) (i:=0) (by omega)
 refine Aa (gY rfl b4) (Ace 0 c8 Bnt rfl (q:=0) rfl rfl hc8) (Aa (gY rfl b4) (Da rfl rfl) (l_v (Bn rfl b4 (v:=(.bool (decide (((c8.toNat:Nat):Int) < 97)))) rfl) (Bmb (.bool (decide (((c8.toNat:Nat):Int) < 97))) (Cn (decide (((c8.toNat:Nat):Int) < 97)) (fun b9=>?_) (fun b9=>?_)))))
 ·have q9:=of_decide_eq_true b9
  refine Ap (gN rfl b9) (Ap (gN rfl b9) (Ap (gN rfl b9) (l_v (Bt rfl b9 (v:=(.bool (true))) rfl) (l_k k3 (Co rfl rfl (w_q rfl rfl fun K10 k10=>Bma (.bool (false)) (l_k k10 (Aq (hret _ _ _ ⟨rfl,rfl,eT (.bool (false)) ?_⟩)))))))))
  simp only [Hg,Qb,hc8,b4,b7,b9,Bool.true_and,Bool.false_and,Bool.and_true,Bool.and_false,Bool.true_or,Bool.false_or,Bool.or_true,Bool.or_false,Bool.not_true,Bool.not_false]
 have q9:=of_decide_eq_false b9
 refine l_M (.string (s)) (gY rfl b9) rfl (Aa (gY rfl b9) (Ace 0 c8 Bnt rfl (q:=0) rfl rfl hc8) (Aa (gY rfl b9) (Gl (p:=((c8.toNat:Nat):Int)) (q:=122) rfl rfl) (l_v (Bn rfl b9 (v:=(.bool (decide (((c8.toNat:Nat):Int) > 122)))) rfl) (l_k k3 (Up (t:=decide (((c8.toNat:Nat):Int) > 122)) rfl (fun b12=>?_) (fun b12=>?_))))))
 ·have q12:=of_decide_eq_true b12
  refine w_q rfl rfl fun K13 k13=>Bma (.bool (false)) (l_k k13 (Aq (hret _ _ _ ⟨rfl,rfl,eT (.bool (false)) ?_⟩)))
  simp only [Hg,Qb,hc8,b4,b7,b9,b12,Bool.true_and,Bool.false_and,Bool.and_true,Bool.and_false,Bool.true_or,Bool.false_or,Bool.or_true,Bool.or_false,Bool.not_true,Bool.not_false]
 have q12:=of_decide_eq_false b12
 refine Al (k2 _ _ _ _ ?_)
 refine w_q rfl rfl fun K14 k14=>Bmb (.string (s)) (Arv (Amd (s:=s) Bnt Bqa Bpv rfl (by omega) fun k15 cap15 cs15 rs15 fz15 R15 hc15=>?_))
 refine Alh R15 hc15 (by omega) fun ρ15 l15 r15=>Arv (Bm (Ta r15 (⟨219,Tryz.f219,[],rfl,Tryz.func219,rfl,rfl,fun mn X ρ σ v x hv=>by rw [Uq.1 hv]; exact Bdv⟩:Su (.func (.func 219) #[] #[]) (fun c:UInt8=>Ov ((c.toNat:Nat):Int)))) Tryz.func179 rfl rfl ⟨rfl,rfl,trivial⟩ ?_)
 refine l_v (Iy rfl) (Bma (.bool (!(s.data.toList.any (fun c:UInt8=>Ov ((c.toNat:Nat):Int))))) (l_k k14 (Aj (Brj l15) (Aq (hret _ _ _ ⟨rfl,rfl,eT (.bool (!(s.data.toList.any (fun c:UInt8=>Ov ((c.toNat:Nat):Int))))) ?_⟩)))))
 rw [Akl,Bool.not_not]
 simp only [Hg,Qb,hc8,b4,b7,b9,b12,Bool.true_and,Bool.false_and,Bool.and_true,Bool.and_false,Bool.true_or,Bool.false_or,Bool.or_true,Bool.or_false,Bool.not_true,Bool.not_false]
theorem Bbm {l:List ByteArray} {vl:Value} {s:ByteArray} (rl:Val ρ vl l):CallsH (CX mn X) 181 #[vl,(.string (s))] ρ σ (rP ρ σ (iV (Oi l (fun y=>s.toList == y.toList)))):=by
 refine Bh (n:=19) (args:=[vl,(.string (s))]) [4] Tryz.func181 rfl rfl rfl rfl fun Q hret hnor=>w_q rfl rfl fun K1 k1=>Bma (iV (0)) (Ary rfl rfl k1 fun K2 K3 k2 k3=>Bmb vl ?_)
 have g4:=Bro rl
 refine l_v (Ci (el:=9) Bnd rfl rl) (Bmb (iV (0)) (l_k k3 (Ao (Cc (fun mm ee dd ρ' σ'=>∃ (i:Nat),(l.length - i) = mm∧[] = dd∧ρ = ρ'∧σ = σ'∧ee 0 = vl∧ee 1 = (.string (s))∧ee 7 = (iV (((l.length:Nat):Int)))∧ee 8 = (iV ((i:Int)))∧(i ≤ l.length)∧(∀ j,j < i→atP l (fun y=>s.toList == y.toList) j = false)∧True) (m:=_) ⟨0,rfl,rfl,rfl,rfl,rfl,rfl,rfl,rfl,(Nat.zero_le _),(fun j h=>absurd h (Nat.not_lt_zero _)),trivial⟩ ?_))))
 rintro m5 e5 _ _ _ ⟨i,rfl,rfl,rfl,rfl,h5_0,h5_1,h5_7,h5_8,p5_0,p5_1,_⟩
 refine w_q rfl rfl fun K6 k6=>l_v (Da h5_8 h5_7) (Asa k6 fun K7 k7=>Up (t:=decide ((i:Int) < ((l.length:Nat):Int))) rfl (fun b8=>?_) (fun b8=>?_))
 ·have q8:=of_decide_eq_true b8
  refine Al (k7 _ _ _ _ ?_)
  refine Ai fun K9 k9=>Ao (w_q rfl rfl fun K10 k10=>l_v (Ah (v:=(iV ((i:Int)))) h5_8) (Bma (iV ((i:Int))) (Arx rfl rfl k10 fun K11 k11=>l_v (Ah (v:=(.string (s))) h5_1) (l_v (Ah (v:=vl) h5_0) (Bmb (iV ((i:Int))) ?_)))))
  obtain ⟨a13,ha13⟩:=Ed (xs:=l) (i:=i) (by omega)
  refine Arw (Ch i Bnd ty9 rfl rl (q:=(i:Int)) rfl rfl ha13) fun v12 r12=>?_
  have g14:=At.slen r12
  refine l_v (Pk ty9 rfl r12) (l_v (Bbe (p:=s) (q:=a13) rfl rfl) (l_k k11 (Up (t:=(s).toList == (a13).toList) rfl (fun b15=>?_) (fun b15=>?_))))
  ·have q15:=Jr b15
   refine w_q rfl rfl fun K16 k16=>Bmb (iV ((i:Int))) (Bma (iV ((i:Int))) (l_k k16 (Aq (hret _ _ _ ⟨rfl,rfl,eT (iV ((i:Int))) ?_⟩))))
   have hi:=Fh (n:=l.length) p5_1 (by omega) (show atP l _ i = true by simp only [atP,ha13,b8,b15])
   simp only [Oi,hi]
  have q15:=Jq b15
  refine Al (k9 _ _ _ _ ?_)
  refine Ag rfl rfl (l_v (Br h5_8 rfl (z:=(((i + 1):Nat):Int)) wrE) (Bmb (iV ((((i + 1):Nat):Int))) (Ac ?_)))
  refine ⟨_,?_,((i + 1)),rfl,rfl,rfl,rfl,h5_0,h5_1,h5_7,rfl,(by omega),(Eg p5_1 (by simp only [atP,ha13,b8,b15])),trivial⟩
  omega
 have q8:=of_decide_eq_false b8
 refine Bx (k2 _ _ _ _ ?_)
 refine w_q rfl rfl fun K17 k17=>Bma (iV ((-1))) (l_k k17 (Aq (hret _ _ _ ⟨rfl,rfl,eT (iV ((-1))) ?_⟩)))
 have hn:=Ep (n:=l.length) fun j hj=>p5_1 j (by omega)
 simp only [Oi,hn]
theorem Ayb {l:List ByteArray} {vl:Value} {s:ByteArray} (rl:Val ρ vl l):CallsH (CX mn X) 155 #[vl,(.string (s))] ρ σ (rP ρ σ (.bool (l.any (fun y=>s.toList == y.toList)))):=by
 refine Bh (n:=9) (args:=[vl,(.string (s))]) [4] Tryz.func155 rfl rfl rfl rfl fun Q hret hnor=>w_q rfl rfl fun K1 k1=>Bma (.bool (false)) (Arx rfl rfl k1 fun K2 k2=>Bmb vl (Bmb (.string (s)) (Arv (Bm (Bbm rl) Tryz.func181 rfl rfl ⟨rfl,rfl,trivial⟩ ?_))))
 refine l_v (Uy rfl rfl) (Bma (.bool (decide (Oi l (fun y=>(s).toList == y.toList) ≥ 0))) (l_k k2 (Aq (hret _ _ _ ⟨rfl,rfl,eT (.bool (decide (Oi l (fun y=>(s).toList == y.toList) ≥ 0))) ?_⟩))))
 rw [Yq]
theorem Bak {l:List WPlot} {vl f:Value} {p:WPlot→Bool} (rl:Val ρ vl l) (hf:PredR ρ f (fun _:WPlot=>True) p):CallsH (CX mn X) 220 #[vl,f] ρ σ (rP ρ σ (iV (Oi l p))):=by
 refine Bh (n:=19) (args:=[vl,f]) [4] Tryz.func220 rfl rfl rfl rfl fun Q hret hnor=>w_q rfl rfl fun K1 k1=>Bma (iV (0)) (Ary rfl rfl k1 fun K2 K3 k2 k3=>Bmb vl ?_)
 have g4:=Bro rl
 refine l_v (Ci (el:=184) Bob rfl rl) (Bmb (iV (0)) (l_k k3 (Ao (Cc (fun mm ee dd ρ' σ'=>∃ (i:Nat),(l.length - i) = mm∧[] = dd∧ρ = ρ'∧σ = σ'∧ee 0 = vl∧ee 1 = f∧ee 7 = (iV (((l.length:Nat):Int)))∧ee 8 = (iV ((i:Int)))∧(i ≤ l.length)∧(∀ j,j < i→atP l p j = false)∧True) (m:=_) ⟨0,rfl,rfl,rfl,rfl,rfl,rfl,rfl,rfl,(Nat.zero_le _),(fun j h=>absurd h (Nat.not_lt_zero _)),trivial⟩ ?_))))
 rintro m5 e5 _ _ _ ⟨i,rfl,rfl,rfl,rfl,h5_0,h5_1,h5_7,h5_8,p5_0,p5_1,_⟩
 refine w_q rfl rfl fun K6 k6=>l_v (Da h5_8 h5_7) (Asa k6 fun K7 k7=>Up (t:=decide ((i:Int) < ((l.length:Nat):Int))) rfl (fun b8=>?_) (fun b8=>?_))
 ·have q8:=of_decide_eq_true b8
  refine Al (k7 _ _ _ _ ?_)
  refine Ai fun K9 k9=>Ao (w_q rfl rfl fun K10 k10=>l_v (Ah (v:=(iV ((i:Int)))) h5_8) (Bma (iV ((i:Int))) (Arx rfl rfl k10 fun K11 k11=>l_v (Ah (v:=f) h5_1) (l_v (Ah (v:=vl) h5_0) (Bmb (iV ((i:Int))) ?_)))))
  obtain ⟨a13,ha13⟩:=Ed (xs:=l) (i:=i) (by omega)
  refine Arw (Ch i Bob Auh rfl rl (q:=(i:Int)) rfl rfl ha13) fun v12 r12=>Arw (Ax Auh rfl r12) fun v14 r14=>Arv (Adv (pr:=p) (a:=a13) (v:=v14) hf Brm trivial rfl rfl r14 ?_)
  refine l_k k11 (Up (t:=(p) a13) rfl (fun b15=>?_) (fun b15=>?_))
  ·refine w_q rfl rfl fun K16 k16=>Bmb (iV ((i:Int))) (Bma (iV ((i:Int))) (l_k k16 (Aq (hret _ _ _ ⟨rfl,rfl,eT (iV ((i:Int))) ?_⟩))))
   have hi:=Fh (n:=l.length) p5_1 (by omega) (show atP l _ i = true by simp only [atP,ha13,b8,b15])
   simp only [Oi,hi]
  refine Al (k9 _ _ _ _ ?_)
  refine Ag rfl rfl (l_v (Br h5_8 rfl (z:=(((i + 1):Nat):Int)) wrE) (Bmb (iV ((((i + 1):Nat):Int))) (Ac ?_)))
  refine ⟨_,?_,((i + 1)),rfl,rfl,rfl,rfl,h5_0,h5_1,h5_7,rfl,(by omega),(Eg p5_1 (by simp only [atP,ha13,b8,b15])),trivial⟩
  omega
 have q8:=of_decide_eq_false b8
 refine Bx (k2 _ _ _ _ ?_)
 refine w_q rfl rfl fun K17 k17=>Bma (iV ((-1))) (l_k k17 (Aq (hret _ _ _ ⟨rfl,rfl,eT (iV ((-1))) ?_⟩)))
 have hn:=Ep (n:=l.length) fun j hj=>p5_1 j (by omega)
 simp only [Oi,hn]
theorem Axg {l:List WPlot} {vl f:Value} {p:WPlot→Bool} (rl:Val ρ vl l) (hf:PredR ρ f (fun _:WPlot=>True) p):CallsH (CX mn X) 217 #[vl,f] ρ σ (rP ρ σ (.bool (l.any p))):=by
 refine Bh (n:=9) (args:=[vl,f]) [4] Tryz.func217 rfl rfl rfl rfl fun Q hret hnor=>w_q rfl rfl fun K1 k1=>Bma (.bool (false)) (Arx rfl rfl k1 fun K2 k2=>Bmb vl (Bmb f (Arv (Bm (Bak rl hf) Tryz.func220 rfl rfl ⟨rfl,rfl,trivial⟩ ?_))))
 refine l_v (Uy rfl rfl) (Bma (.bool (decide (Oi l p ≥ 0))) (l_k k2 (Aq (hret _ _ _ ⟨rfl,rfl,eT (.bool (decide (Oi l p ≥ 0))) ?_⟩))))
 rw [Yq]
theorem Bcd {y:WPlot} {ρ₀:Ro} {vc:Value} (hc:At ρ₀ vc y):PredR ρ₀ (.func (.func 218) #[] #[vc]) (fun _:WPlot=>True) (fun x=>x.name.toList == y.name.toList):=by
 refine ⟨218,_,[vc],rfl,Tryz.func218,rfl,rfl,?_⟩
 intro mn X ρ σ v x hle _ hv
 replace hc:=hc.mono hle
 refine Bh (n:=9) (args:=[v,vc]) [3] Tryz.func218 rfl rfl rfl rfl fun Q hret hnor=>w_q rfl rfl fun K1 k1=>Arv (Eb (v:=v) rfl fun k2=>?_)
 refine Bb (a:=x) hv fun ρ2 l2 r2=>?_
 replace hc:=At.mono l2 hc
 refine Bma (.bool (false)) (Arx rfl rfl k1 fun K3 k3=>Arw (Ay WPlot.f_name Bno rfl rfl ty9 (by decide) rfl r2) fun v4 r4=>?_)
 have g5:=At.slen r4
 refine l_v (Pk ty9 rfl r4) (Arw (Ay WPlot.f_name Bno rfl rfl ty9 (by decide) rfl hc) fun v6 r6=>?_)
 have g7:=At.slen r6
 refine l_v (Pk ty9 rfl r6) (l_v (Bbe (p:=x.name) (q:=y.name) rfl rfl) (Bma (.bool ((x.name).toList == (y.name).toList)) (l_k k3 (Aj (Brj l2) (Aq (hret _ _ _ ⟨rfl,rfl,eT (.bool ((x.name).toList == (y.name).toList)) ?_⟩))))))
 rfl
theorem Bdw {d:Ditch} {vp:Value} (rp:At ρ vp (⟨d⟩:DitchP)) (ok:DitchOk d):CallsH (CX mn X) 210 #[vp] ρ σ (rP ρ σ (iV (0))):=by
 have ok6:=ok.len6
 have nms:=Aup ok.names
 have okt:=ok.turns
 have okb:=ok.begin_
 have okw:=ok.week
 have okf:=ok.restFrom
 have okl:=ok.restLong
 have ok0:=ok.wk0
 have ok1:=ok.wk1
 have okn:=ok.nfeasts
 have oks:=ok.nswaps
 have oko:=ok.nloans
 have okfl:=ok.flow
 have okls:=ok.loss
 have okp:=ok.nplots
 refine Bh (n:=70) (args:=[vp]) [2] Tryz.func210 rfl rfl rfl rfl fun Q hret hnor=>w_q rfl rfl fun K1 k1=>Bma (iV (0)) (Ary rfl rfl k1 fun K2 K3 k2 k3=>Bmb vp (l_v (Hj rfl rp) (Arw (Ay DitchP.f_d Bnf rfl rfl Asi (by decide) rfl rp) fun v4 r4=>Arw (Ay Ditch.f_holders Bna rfl rfl Hw (by decide) rfl r4) fun v5 r5=>Arw (Ax Hw rfl r5) fun v6 r6=>?_)))
 have g7:d.holders.length < 2 ^ 60:=Bro r6
 refine l_v (Ci (el:=9) Bnd rfl r6) (l_v (Gl (p:=((d.holders.length:Nat):Int)) (q:=6) rfl rfl) (l_k k3 (Cg rfl (decide_eq_false (by omega)) (Al (k2 _ _ _ _ ?_)))))
 refine Asb rfl rfl fun K8 K9 k8 k9=>Bmb vp (l_v (Hj rfl rp) (Arw (Ay DitchP.f_d Bnf rfl rfl Asi (by decide) rfl rp) fun v10 r10=>Arw (Ay Ditch.f_holders Bna rfl rfl Hw (by decide) rfl r10) fun v11 r11=>Arw (Ax Hw rfl r11) fun v12 r12=>?_))
 have g13:d.holders.length < 2 ^ 60:=Bro r12
 refine l_v (Ci (el:=9) Bnd rfl r12) (Bmb (iV (0)) (l_k k9 (Ao (Cc (fun mm ee dd ρ' σ'=>∃ (i:Nat),(d.holders.length - i) = mm∧[] = dd∧ρ = ρ'∧σ = σ'∧ee 0 = vp∧ee 18 = v12∧ee 19 = (iV (((d.holders.length:Nat):Int)))∧ee 20 = (iV ((i:Int)))∧(i ≤ d.holders.length)∧True) (m:=_) ⟨0,rfl,rfl,rfl,rfl,rfl,rfl,rfl,rfl,(Nat.zero_le _),trivial⟩ ?_))))
 rintro m14 e14 _ _ _ ⟨i,rfl,rfl,rfl,rfl,h14_0,h14_18,h14_19,h14_20,p14_0,_⟩
 refine w_q rfl rfl fun K15 k15=>l_v (Da h14_20 h14_19) (Asa k15 fun K16 k16=>Up (t:=decide ((i:Int) < ((d.holders.length:Nat):Int))) rfl (fun b17=>?_) (fun b17=>?_))
 ·have q17:=of_decide_eq_true b17
  refine Al (k16 _ _ _ _ ?_)
  refine Ai fun K18 k18=>Ao (w_q rfl rfl fun K19 k19=>l_v (Ah (v:=(iV ((i:Int)))) h14_20) ?_)
  obtain ⟨a21,ha21⟩:=Ed (xs:=d.holders) (i:=i) (by omega)
  have nfa21:=nms.1 _ _ ha21
  refine Arw (Ch i Bnd ty9 h14_18 r12 (q:=(i:Int)) h14_20 rfl ha21) fun v20 r20=>?_
  have g22:=At.slen r20
  refine l_v (Pk ty9 rfl r20) (Bma (iV ((i:Int))) (Bma (.string (a21)) (l_k k19 (Ao (w_q rfl rfl fun K23 k23=>Bmb (.string (a21)) (Arv (Bm (Bal (by omega)) Tryz.func214 rfl rfl ⟨rfl,trivial⟩ ?_)))))))
  refine l_v (Iy rfl) (Bma (.bool (!(Hg a21))) (l_k k23 (Cg rfl (not_t nfa21) (w_q rfl rfl fun K24 k24=>l_v (Ah (v:=vp) h14_0) (l_v (Hj rfl rp) (Arw (Ay DitchP.f_d Bnf rfl rfl Asi (by decide) rfl rp) fun v25 r25=>Arw (Ay Ditch.f_holders Bna rfl rfl Hw (by decide) rfl r25) fun v26 r26=>Arw (Ax Hw rfl r26) fun v27 r27=>Bmb (iV ((i:Int))) (Arw (Avf i Bnd ty9 rfl r27 (q:=(i:Int)) rfl rfl (by omega)) fun v28 r28=>Bmb (.string (a21)) (Arv (Bm (Ayb r28) Tryz.func155 rfl rfl ⟨rfl,rfl,trivial⟩ ?_)))))))))
  refine Bma (.bool (((d.holders.take i)).any (fun y=>(a21).toList == y.toList))) (l_k k24 (Cg rfl (Axb fun k y hk hy=>beq_eq_false_iff_ne.2 fun h=>nms.2 _ k _ _ ha21 hk hy h.symm) (Al (k18 _ _ _ _ ?_))))
  refine Ag rfl rfl (l_v (Br h14_20 rfl (z:=(((i + 1):Nat):Int)) wrE) (Bmb (iV ((((i + 1):Nat):Int))) (Ac ?_)))
  refine ⟨_,?_,((i + 1)),rfl,rfl,rfl,rfl,h14_0,h14_18,h14_19,rfl,(by omega),trivial⟩
  omega
 have q17:=of_decide_eq_false b17
 refine Bx (k8 _ _ _ _ ?_)
 refine Asb rfl rfl fun K29 K30 k29 k30=>l_v (Ah (v:=vp) h14_0) (l_v (Hj rfl rp) (Arw (Ay DitchP.f_d Bnf rfl rfl Asi (by decide) rfl rp) fun v31 r31=>Arw (Ay Ditch.f_turns Bna rfl rfl Atj (by decide) rfl r31) fun v32 r32=>Arw (Ax Atj rfl r32) fun v33 r33=>?_))
 have g34:d.turns.length < 2 ^ 60:=Bro r33
 refine l_v (Ci (el:=241) Bod rfl r33) (Arv (Bm (Asu) Boo rfl rfl ⟨rfl,rfl,rfl,trivial⟩ ?_))
 refine l_v (Iy rfl) (l_k k30 (Cg rfl (not_t (Fz.2 (by first | omega | (simp only; omega)))) (Al (k29 _ _ _ _ ?_))))
 refine Asb rfl rfl fun K35 K36 k35 k36=>l_v (Ah (v:=vp) h14_0) (l_v (Hj rfl rp) (Arw (Ay DitchP.f_d Bnf rfl rfl Asi (by decide) rfl rp) fun v37 r37=>Arw (Ay Ditch.f_turns Bna rfl rfl Atj (by decide) rfl r37) fun v38 r38=>Arw (Ax Atj rfl r38) fun v39 r39=>?_))
 have g40:d.turns.length < 2 ^ 60:=Bro r39
 refine l_v (Ci (el:=241) Bod rfl r39) (Bmb (iV (0)) (l_k k36 (Ao (Cc (fun mm ee dd ρ' σ'=>∃ (k:Nat),(d.turns.length - k) = mm∧[] = dd∧ρ = ρ'∧σ = σ'∧ee 0 = vp∧ee 52 = v39∧ee 53 = (iV (((d.turns.length:Nat):Int)))∧ee 54 = (iV ((k:Int)))∧(k ≤ d.turns.length)∧True) (m:=_) ⟨0,rfl,rfl,rfl,rfl,h14_0,rfl,rfl,rfl,(Nat.zero_le _),trivial⟩ ?_))))
 rintro m41 e41 _ _ _ ⟨k,rfl,rfl,rfl,rfl,h41_0,h41_52,h41_53,h41_54,p41_0,_⟩
 refine w_q rfl rfl fun K42 k42=>l_v (Da h41_54 h41_53) (Asa k42 fun K43 k43=>Up (t:=decide ((k:Int) < ((d.turns.length:Nat):Int))) rfl (fun b44=>?_) (fun b44=>?_))
 ·have q44:=of_decide_eq_true b44
  refine Al (k43 _ _ _ _ ?_)
  refine Ai fun K45 k45=>Ao (w_q rfl rfl fun K46 k46=>?_)
  obtain ⟨a48,ha48⟩:=Ed (xs:=d.turns) (i:=k) (by omega)
  have tfa48:=ok.turn _ _ ha48
  refine Arw (Ch k Bod Avp h41_52 r39 (q:=(k:Int)) h41_54 rfl ha48) fun v47 r47=>Arw (Ax Avp rfl r47) fun v49 r49=>Arv (Ct Bhh fun k50=>?_)
  refine Cx rfl (Dv (v:=v49) (a:=a48) (c:=Bhe) Avp rfl rfl r49 rfl ?_)
  refine Bb (a:=a48) r49 fun ρ51 l51 r51=>?_
  replace rp:=At.mono l51 rp
  refine l_k k46 (Ao (w_q rfl rfl fun K52 k52=>l_v (Ah (v:=vp) h41_0) (Arw (Ay WTurn.f_holder Boq rfl rfl ty3 (by decide) rfl r51) fun v53 r53=>?_)))
  have ⟨g54a,g54b⟩:=Brh r53
  refine l_v (Bc ty3 rfl r53) (Arv (Bm (Aut rp) Bqj rfl rfl ⟨rfl,rfl,trivial⟩ ?_))
  refine l_v (Iy rfl) (Bma (.bool (!(inR a48.holder 0 (((d.holders.length:Int) - 1))))) (l_k k52 (Cg rfl (not_t (Fz.2 (by first | omega | (simp only; omega)))) (w_q rfl rfl fun K55 k55=>Arw (Ay WTurn.f_hours Boq rfl rfl ty3 (by decide) rfl r51) fun v56 r56=>?_))))
  have ⟨g57a,g57b⟩:=Brh r56
  refine l_v (Bc ty3 rfl r56) (Arv (Bm (Asu) Boo rfl rfl ⟨rfl,rfl,rfl,trivial⟩ ?_))
  refine l_v (Iy rfl) (Bma (.bool (!(inR a48.hours 1 100))) (l_k k55 (Cg rfl (not_t (Fz.2 (by first | omega | (simp only; omega)))) (Al (k45 _ _ _ _ ?_)))))
  refine Ag rfl rfl (l_v (Br h41_54 rfl (z:=(((k + 1):Nat):Int)) wrE) (Bmb (iV ((((k + 1):Nat):Int))) (Bj (Brj l51) (Ac ?_))))
  refine ⟨_,?_,((k + 1)),rfl,rfl,rfl,rfl,h41_0,h41_52,h41_53,rfl,(by omega),trivial⟩
  omega
 have q44:=of_decide_eq_false b44
 refine Bx (k35 _ _ _ _ ?_)
 refine w_q rfl rfl fun K58 k58=>Bma (iV (0)) (l_k k58 (Aq (hret _ _ _ ⟨rfl,rfl,eT (iV (0)) ?_⟩)))
 rfl
theorem Bev {d:Ditch} {vp:Value} (rp:At ρ vp (⟨d⟩:DitchP)) (ok:DitchOk d):CallsH (CX mn X) 211 #[vp] ρ σ (rP ρ σ (iV (0))):=by
 have ok6:=ok.len6
 have nms:=Aup ok.names
 have okt:=ok.turns
 have okb:=ok.begin_
 have okw:=ok.week
 have okf:=ok.restFrom
 have okl:=ok.restLong
 have ok0:=ok.wk0
 have ok1:=ok.wk1
 have okn:=ok.nfeasts
 have oks:=ok.nswaps
 have oko:=ok.nloans
 have okfl:=ok.flow
 have okls:=ok.loss
 have okp:=ok.nplots
 refine Bh (n:=131) (args:=[vp]) [2] Tryz.func211 rfl rfl rfl rfl fun Q hret hnor=>w_q rfl rfl fun K1 k1=>Bma (iV (0)) (Asa k1 fun K2 k2=>Ai fun K3 k3=>Bmw (Bmq 0 Bjs rfl (Ah (v:=vp) rfl) (Bmq 1 Bjt rfl (Hj rfl rp) (Bms 2 Bju rfl (Ay DitchP.f_d Bnf rfl rfl Asi (by decide) rfl rp) fun v4 r4=>Bms 3 Bjv rfl (Ay Ditch.f_week Bna rfl rfl ty3 (by decide) rfl r4) fun v5 r5=>?_))))
 have ⟨g6a,g6b⟩:=Brh r5
 refine Bmq 4 Bjw rfl (Bc ty3 rfl r5) (Bmq 5 [o1,o1,o1,o1,o1,o1,o0,o0,o0,o0,o0,o0,o0,o0,o0,o0,o0] rfl (Ah (v:=vp) rfl) (Bmq 6 [o1,o1,o1,o1,o1,o1,o1,o0,o0,o0,o0,o0,o0,o0,o0,o0,o0] rfl (Hj rfl rp) (Bms 7 [o1,o1,o1,o1,o1,o1,o1,o1,o0,o0,o0,o0,o0,o0,o0,o0,o0] rfl (Ay DitchP.f_d Bnf rfl rfl Asi (by decide) rfl rp) fun v7 r7=>Bms 8 [o1,o1,o1,o1,o1,o1,o1,o1,o1,o0,o0,o0,o0,o0,o0,o0,o0] rfl (Ay Ditch.f_restFrom Bna rfl rfl ty3 (by decide) rfl r7) fun v8 r8=>?_)))
 have ⟨g9a,g9b⟩:=Brh r8
 refine Bmq 9 [o1,o1,o1,o1,o1,o1,o1,o1,o1,o1,o0,o0,o0,o0,o0,o0,o0] rfl (Bc ty3 rfl r8) (Bmq 10 [o1,o1,o1,o1,o1,o1,o1,o1,o1,o1,o1,o0,o0,o0,o0,o0,o0] rfl (Ah (v:=vp) rfl) (Bmq 11 [o1,o1,o1,o1,o1,o1,o1,o1,o1,o1,o1,o1,o0,o0,o0,o0,o0] rfl (Hj rfl rp) (Bms 12 Bjx rfl (Ay DitchP.f_d Bnf rfl rfl Asi (by decide) rfl rp) fun v10 r10=>Bms 13 Bjy rfl (Ay Ditch.f_restLong Bna rfl rfl ty3 (by decide) rfl r10) fun v11 r11=>?_)))
 have ⟨g12a,g12b⟩:=Brh r11
 refine Bmq 14 Bjz rfl (Bc ty3 rfl r11) (Bmq 15 Bka rfl (Bcj (vs:=[(0,(iV (d.week))),(1,(iV (d.restFrom))),(2,(iV (d.restLong)))]) (cs:=[(iV (d.week)),(iV (d.restFrom)),(iV (d.restLong))]) Bqb Blm (zc:=Blg) rfl ⟨_,Ab Bnc,rfl⟩ (EvB.map ⟨⟨rfl,rfl⟩,⟨rfl,rfl⟩,⟨rfl,rfl⟩,trivial⟩) rfl) (Bmr 16 Bkb rfl (Ah (v:=(iV (0))) rfl) (Ec rfl (k3 _ _ _ _ ?_))))
 refine Ao (Cc (fun mm ee dd ρ' σ'=>∃ (i:Nat),(3 - i) = mm∧[] = dd∧ρ = ρ'∧σ = σ'∧ee 0 = vp∧ee 23 = (.agg #[(iV (d.week)),(iV (d.restFrom)),(iV (d.restLong))])∧ee 24 = (iV ((i:Int)))∧(i ≤ 3)∧True) (m:=_) ⟨0,rfl,rfl,rfl,rfl,rfl,rfl,rfl,(Nat.zero_le _),trivial⟩ ?_)
 rintro m13 e13 _ _ _ ⟨i,rfl,rfl,rfl,rfl,h13_0,h13_23,h13_24,p13_0,_⟩
 refine w_q rfl rfl fun K14 k14=>l_v (Da h13_24 rfl) (Asa k14 fun K15 k15=>Up (t:=decide ((i:Int) < 3)) rfl (fun b16=>?_) (fun b16=>?_))
 ·have q16:=of_decide_eq_true b16
  refine Al (k15 _ _ _ _ ?_)
  refine Ai fun K17 k17=>Ao (w_q rfl rfl fun K18 k18=>?_)
  rcases (show i = 0∨i = 1∨i = 2 from by omega) with hi19 | hi19 | hi19
  ·refine l_v (Att (len:=3) (cs:=[(iV (d.week)),(iV (d.restFrom)),(iV (d.restLong))]) (v:=(iV (d.week))) (i) Bqb ⟨_,Bne,rfl⟩ ⟨_,Ab Bnc,rfl⟩ h13_23 h13_24 rfl (by omega) (by rw [hi19]; rfl)) (Bma (iV (d.week)) (Arx rfl rfl k18 fun K20 k20=>Bmb (iV (d.week)) (Arv (Bm (Asu) Boo rfl rfl ⟨rfl,rfl,rfl,trivial⟩ ?_))))
   refine l_v (Iy rfl) (l_k k20 (Cg rfl (not_t (Fz.2 (by first | omega | (simp only; omega)))) (Al (k17 _ _ _ _ ?_))))
   refine Ag rfl rfl (l_v (Br h13_24 rfl (z:=(((i + 1):Nat):Int)) wrE) (Bmb (iV ((((i + 1):Nat):Int))) (Ac ?_)))
   refine ⟨_,?_,((i + 1)),rfl,rfl,rfl,rfl,h13_0,h13_23,rfl,(by omega),trivial⟩
   omega
  ·refine l_v (Att (len:=3) (cs:=[(iV (d.week)),(iV (d.restFrom)),(iV (d.restLong))]) (v:=(iV (d.restFrom))) (i) Bqb ⟨_,Bne,rfl⟩ ⟨_,Ab Bnc,rfl⟩ h13_23 h13_24 rfl (by omega) (by rw [hi19]; rfl)) (Bma (iV (d.restFrom)) (Arx rfl rfl k18 fun K21 k21=>Bmb (iV (d.restFrom)) (Arv (Bm (Asu) Boo rfl rfl ⟨rfl,rfl,rfl,trivial⟩ ?_))))
   refine l_v (Iy rfl) (l_k k21 (Cg rfl (not_t (Fz.2 (by first | omega | (simp only; omega)))) (Al (k17 _ _ _ _ ?_))))
   refine Ag rfl rfl (l_v (Br h13_24 rfl (z:=(((i + 1):Nat):Int)) wrE) (Bmb (iV ((((i + 1):Nat):Int))) (Ac ?_)))
   refine ⟨_,?_,((i + 1)),rfl,rfl,rfl,rfl,h13_0,h13_23,rfl,(by omega),trivial⟩
   omega
  refine l_v (Att (len:=3) (cs:=[(iV (d.week)),(iV (d.restFrom)),(iV (d.restLong))]) (v:=(iV (d.restLong))) (i) Bqb ⟨_,Bne,rfl⟩ ⟨_,Ab Bnc,rfl⟩ h13_23 h13_24 rfl (by omega) (by rw [hi19]; rfl)) (Bma (iV (d.restLong)) (Arx rfl rfl k18 fun K22 k22=>Bmb (iV (d.restLong)) (Arv (Bm (Asu) Boo rfl rfl ⟨rfl,rfl,rfl,trivial⟩ ?_))))
  refine l_v (Iy rfl) (l_k k22 (Cg rfl (not_t (Fz.2 (by first | omega | (simp only; omega)))) (Al (k17 _ _ _ _ ?_))))
  refine Ag rfl rfl (l_v (Br h13_24 rfl (z:=(((i + 1):Nat):Int)) wrE) (Bmb (iV ((((i + 1):Nat):Int))) (Ac ?_)))
  refine ⟨_,?_,((i + 1)),rfl,rfl,rfl,rfl,h13_0,h13_23,rfl,(by omega),trivial⟩
  omega
 have q16:=of_decide_eq_false b16
 refine Bx (k2 _ _ _ _ ?_)
 refine Ai fun K23 k23=>Ao (w_q rfl rfl fun K24 k24=>l_v (Ah (v:=vp) h13_0) (l_v (Hj rfl rp) (Arw (Ay DitchP.f_d Bnf rfl rfl Asi (by decide) rfl rp) fun v25 r25=>Arw (Ay Ditch.f_begin_ Bna rfl rfl ty3 (by decide) rfl r25) fun v26 r26=>?_)))
 have ⟨g27a,g27b⟩:=Brh r26
 refine l_v (Bc ty3 rfl r26) (Arv (Bm (Asu) Boo rfl rfl ⟨rfl,rfl,rfl,trivial⟩ ?_))
 refine l_v (Iy rfl) (Bma (.bool (!(inR d.begin_ 0 999999999))) (l_k k24 (Cg rfl (not_t (Fz.2 (by first | omega | (simp only; omega)))) (w_q rfl rfl fun K28 k28=>l_v (Ah (v:=vp) h13_0) (l_v (Hj rfl rp) (Arw (Ay DitchP.f_d Bnf rfl rfl Asi (by decide) rfl rp) fun v29 r29=>Arw (Ay Ditch.f_week Bna rfl rfl ty3 (by decide) rfl r29) fun v30 r30=>?_))))))
 have ⟨g31a,g31b⟩:=Brh r30
 refine l_v (Bc ty3 rfl r30) (l_v (Ek rfl rfl) (Bmb (.bool (d.week == 0)) (Cn (d.week == 0) (fun b32=>?_) (fun b32=>?_))))
 ·have q32:=Jr b32
  refine Aa (gY rfl b32) (Ah (v:=vp) h13_0) (Aa (gY rfl b32) (Hj rfl rp) (Ak (gY rfl b32) (Ay DitchP.f_d Bnf rfl rfl Asi (by decide) rfl rp) fun v33 r33=>Ak (gY rfl b32) (Ay Ditch.f_restFrom Bna rfl rfl ty3 (by decide) rfl r33) fun v34 r34=>?_))
  have ⟨g35a,g35b⟩:=Brh r34
  refine Aa (gY rfl b32) (Bc ty3 rfl r34) (Aa (gY rfl b32) (Gl (p:=d.restFrom) (q:=0) rfl rfl) (l_M (.bool (decide (d.restFrom > 0))) (gY rfl b32) rfl (Aa (gY rfl (decide_eq_false (by omega))) (Ah (v:=vp) h13_0) (Aa (gY rfl (decide_eq_false (by omega))) (Hj rfl rp) (Ak (gY rfl (decide_eq_false (by omega))) (Ay DitchP.f_d Bnf rfl rfl Asi (by decide) rfl rp) fun v36 r36=>Ak (gY rfl (decide_eq_false (by omega))) (Ay Ditch.f_restLong Bna rfl rfl ty3 (by decide) rfl r36) fun v37 r37=>?_)))))
  have ⟨g38a,g38b⟩:=Brh r37
  refine Aa (gY rfl (decide_eq_false (by omega))) (Bc ty3 rfl r37) (Aa (gY rfl (decide_eq_false (by omega))) (Gl (p:=d.restLong) (q:=0) rfl rfl) (Aa (gY rfl b32) (Bn rfl (decide_eq_false (by omega)) (v:=(.bool (decide (d.restLong > 0)))) rfl) (l_v (Bt rfl b32 (v:=(.bool (decide (d.restLong > 0)))) rfl) (Bma (.bool (decide (d.restLong > 0))) (l_k k28 (Cg rfl (decide_eq_false (by omega)) (Ai fun K39 k39=>Bmw (Bmr 0 Aob rfl (Ah (v:=vp) h13_0) (Bmr 1 Aoc rfl (Hj rfl rp) (Bmu 2 Aod rfl (Ay DitchP.f_d Bnf rfl rfl Asi (by decide) rfl rp) fun v40 r40=>Bmu 3 Aoe rfl (Ay Ditch.f_week Bna rfl rfl ty3 (by decide) rfl r40) fun v41 r41=>?_))))))))))
  have ⟨g42a,g42b⟩:=Brh r41
  refine Bmr 4 Aof rfl (Bc ty3 rfl r41) (Bmr 5 Aog rfl (Gl (p:=d.week) (q:=0) rfl rfl) (Bmr 6 Aoh rfl (Ah (v:=(.bool (decide (d.week > 0)))) rfl) (Bmh 7 Aoi rfl Brm (gN rfl (decide_eq_false (by omega))) (Bmh 8 Aoj rfl Brm (gN rfl (decide_eq_false (by omega))) (Bmh 9 Aok rfl Brm (gN rfl (decide_eq_false (by omega))) (Bmh 10 Aol rfl Brm (gN rfl (decide_eq_false (by omega))) (Bmh 11 Aom rfl Brm (gN rfl (decide_eq_false (by omega))) (Bmh 12 Aon rfl Brm (gN rfl (decide_eq_false (by omega))) (Bmh 13 Aqg rfl Brm (gN rfl (decide_eq_false (by omega))) (Bmh 14 Aqh rfl Brm (gN rfl (decide_eq_false (by omega))) (Bmh 15 Aqi rfl Brm (gN rfl (decide_eq_false (by omega))) (Bmh 16 Aqj rfl Brm (gN rfl (decide_eq_false (by omega))) (Bmh 17 Aqk rfl Brm (gN rfl (decide_eq_false (by omega))) (Bmi 18 Aql rfl Brm (gN rfl (decide_eq_false (by omega))) (Bmi 19 Aqm rfl Brm (gN rfl (decide_eq_false (by omega))) (Bmi 20 Aqn rfl Brm (gN rfl (decide_eq_false (by omega))) (Bmi 21 Aqo rfl Brm (gN rfl (decide_eq_false (by omega))) (Bmi 22 Aqp rfl Brm (gN rfl (decide_eq_false (by omega))) (Bmi 23 Aqq rfl Brm (gN rfl (decide_eq_false (by omega))) (Bmi 24 Aqr rfl Brm (gN rfl (decide_eq_false (by omega))) (Bmh 25 Aqs rfl Brm (Jf rfl rfl rfl) (Bmh 26 Aqt rfl Brm (Jf rfl rfl rfl) (Bmh 27 Aqu rfl Brm (Jf rfl rfl rfl) (Bmh 28 Aqv rfl Brm (Jf rfl rfl rfl) (Bmh 29 Aqw rfl Brm (Jf rfl rfl rfl) (Bmi 30 Aqx rfl Brm (Jf rfl rfl rfl) (Bmi 31 Aqy rfl Brm (Jf rfl rfl rfl) (Bmi 32 Aoo rfl Brm (Jf rfl rfl rfl) (Bmi 33 Aop rfl Brm (Jf rfl rfl rfl) (Bmi 34 Aqz rfl Brm (Jf rfl rfl rfl) (Bmi 35 Ara rfl Brm (Jf rfl rfl rfl) (Bmi 36 Arb rfl Brm (gN rfl (decide_eq_false (by omega))) (Bmr 37 Arc rfl (Bn rfl (decide_eq_false (by omega)) (v:=(.bool (false))) rfl) (Bmr 38 Ard rfl (Cp (v:=(.bool (false))) rfl) (Ec rfl (k39 _ _ _ _ ?_))))))))))))))))))))))))))))))))))))
  refine Cg rfl rfl (w_q rfl rfl fun K43 k43=>l_v (Ah (v:=vp) h13_0) (l_v (Hj rfl rp) (Arw (Ay DitchP.f_d Bnf rfl rfl Asi (by decide) rfl rp) fun v44 r44=>Arw (Ay Ditch.f_feasts Bna rfl rfl Uo (by decide) rfl r44) fun v45 r45=>Arw (Ax Uo rfl r45) fun v46 r46=>?_)))
  have g47:d.feasts.length < 2 ^ 60:=Bro r46
  refine l_v (Ci (el:=41) Bni rfl r46) (l_v (Gl (p:=((d.feasts.length:Nat):Int)) (q:=8) rfl rfl) (Bma (.bool (decide (((d.feasts.length:Nat):Int) > 8))) (l_k k43 (Cg rfl (decide_eq_false (by omega)) (Al (k23 _ _ _ _ ?_))))))
  refine w_q rfl rfl fun K48 k48=>Bma (iV ((-1))) (Ary rfl rfl k48 fun K49 K50 k49 k50=>l_v (Ah (v:=vp) h13_0) (l_v (Hj rfl rp) (Arw (Ay DitchP.f_d Bnf rfl rfl Asi (by decide) rfl rp) fun v51 r51=>Arw (Ay Ditch.f_feasts Bna rfl rfl Uo (by decide) rfl r51) fun v52 r52=>Arw (Ax Uo rfl r52) fun v53 r53=>?_)))
  have g54:d.feasts.length < 2 ^ 60:=Bro r53
  refine l_v (Ci (el:=41) Bni rfl r53) (Bmb (iV (0)) (l_k k50 (Ao (Cc (fun mm ee dd ρ' σ'=>∃ (k:Nat) (lst:Int),(d.feasts.length - k) = mm∧[] = dd∧ρ = ρ'∧σ = σ'∧ee 113 = v53∧ee 114 = (iV (((d.feasts.length:Nat):Int)))∧ee 5 = (iV (lst))∧ee 115 = (iV ((k:Int)))∧(k ≤ d.feasts.length)∧(lst = Aym d k)∧True) (m:=_) ⟨0,(-1),rfl,rfl,rfl,rfl,rfl,rfl,rfl,rfl,(Nat.zero_le _),rfl,trivial⟩ ?_))))
  rintro m55 e55 _ _ _ ⟨k,lst,rfl,rfl,rfl,rfl,h55_113,h55_114,h55_5,h55_115,p55_0,p55_1,_⟩
  refine w_q rfl rfl fun K56 k56=>l_v (Da h55_115 h55_114) (Asa k56 fun K57 k57=>Up (t:=decide ((k:Int) < ((d.feasts.length:Nat):Int))) rfl (fun b58=>?_) (fun b58=>?_))
  ·have q58:=of_decide_eq_true b58
   refine Al (k57 _ _ _ _ ?_)
   refine Ai fun K59 k59=>Ao (w_q rfl rfl fun K60 k60=>?_)
   obtain ⟨a62,ha62⟩:=Ed (xs:=d.feasts) (i:=k) (by omega)
   have ffa62:=(ok.feast _ _ ha62).1
   have fla62:=Baq ok ha62
   have fsa62:=Axk ha62
   refine Arw (Ch k Bni Mx h55_113 r53 (q:=(k:Int)) h55_115 rfl ha62) fun v61 r61=>Arw (Ax Mx rfl r61) fun v63 r63=>Arv (Ct Aak fun k64=>?_)
   refine Cx rfl (Dv (v:=v63) (a:=a62) (c:=Arm) Mx rfl rfl r63 rfl ?_)
   refine Bb (a:=a62) r63 fun ρ65 l65 r65=>Asa k60 fun K66 k66=>Ao (w_q rfl rfl fun K67 k67=>Arw (Ax Mx rfl r65) fun v68 r68=>Arv (Bm (Aun r68) Bpy rfl rfl ⟨rfl,rfl,rfl,trivial⟩ ?_))
   refine l_v (Iy rfl) (Bma (.bool (!(Ef a62 0 999999999))) (l_k k67 (Cg rfl (not_t (Re.2 (by first | omega | (simp only; omega)))) (w_q rfl rfl fun K69 k69=>Arw (Ay Span.f_low Bnj rfl rfl ty3 (by decide) rfl r65) fun v70 r70=>?_))))
   have ⟨g71a,g71b⟩:=Brh r70
   refine l_v (Bc ty3 rfl r70) (l_v (Ah (v:=(iV (lst))) h55_5) (l_v (Uz rfl rfl) (Bma (.bool (decide (a62.low ≤ lst))) (l_k k69 (Cg rfl (decide_eq_false (by omega)) (Al (k66 _ _ _ _ ?_)))))))
   refine Ag rfl rfl (Arw (Ay Span.f_high Bnj rfl rfl ty3 (by decide) rfl r65) fun v72 r72=>?_)
   have ⟨g73a,g73b⟩:=Brh r72
   refine l_v (Bc ty3 rfl r72) (Bma (iV (a62.high)) (l_k k59 (Ag rfl rfl (l_v (Br h55_115 rfl (z:=(((k + 1):Nat):Int)) wrE) (Bmb (iV ((((k + 1):Nat):Int))) (Bj (Brj l65) (Ac ?_)))))))
   refine ⟨_,?_,((k + 1)),(a62.high),rfl,rfl,rfl,rfl,h55_113,h55_114,rfl,rfl,(by omega),(by rw [fsa62]),trivial⟩
   omega
  have q58:=of_decide_eq_false b58
  refine Bx (k49 _ _ _ _ ?_)
  refine w_q rfl rfl fun K74 k74=>Bma (iV (0)) (l_k k74 (Aq (hret _ _ _ ⟨rfl,rfl,eT (iV (0)) ?_⟩)))
  rfl
 have q32:=Jq b32
 refine Ap (gN rfl b32) (Ap (gN rfl b32) (Ap (gN rfl b32) (Ap (gN rfl b32) (Ap (gN rfl b32) (Ap (gN rfl b32) (Ap (gN rfl b32) (Ap (Jf rfl rfl rfl) (Ap (Jf rfl rfl rfl) (Ap (Jf rfl rfl rfl) (Ap (Jf rfl rfl rfl) (Ap (Jf rfl rfl rfl) (Ap (Jf rfl rfl rfl) (Ap (gN rfl b32) (l_v (Bn rfl b32 (v:=(.bool (false))) rfl) (Bma (.bool (false)) (l_k k28 (Cg rfl rfl (Ai fun K75 k75=>Bmw (Bmr 0 Aob rfl (Ah (v:=vp) h13_0) (Bmr 1 Aoc rfl (Hj rfl rp) (Bmu 2 Aod rfl (Ay DitchP.f_d Bnf rfl rfl Asi (by decide) rfl rp) fun v76 r76=>Bmu 3 Aoe rfl (Ay Ditch.f_week Bna rfl rfl ty3 (by decide) rfl r76) fun v77 r77=>?_)))))))))))))))))))))
 have ⟨g78a,g78b⟩:=Brh r77
 refine Bmr 4 Aof rfl (Bc ty3 rfl r77) (Bmr 5 Aog rfl (Gl (p:=d.week) (q:=0) rfl rfl) (Bmr 6 Aoh rfl (Ah (v:=(.bool (decide (d.week > 0)))) rfl) (Bmc 7 Aoi rfl Brm (gY rfl (decide_eq_true (by omega))) (Ah (v:=vp) h13_0) (Bmc 8 Aoj rfl Brm (gY rfl (decide_eq_true (by omega))) (Hj rfl rp) (Bme 9 Aok rfl Brm (gY rfl (decide_eq_true (by omega))) (Ay DitchP.f_d Bnf rfl rfl Asi (by decide) rfl rp) fun v79 r79=>Bme 10 Aol rfl Brm (gY rfl (decide_eq_true (by omega))) (Ay Ditch.f_restFrom Bna rfl rfl ty3 (by decide) rfl r79) fun v80 r80=>?_)))))
 have ⟨g81a,g81b⟩:=Brh r80
 refine Bmc 11 Aom rfl Brm (gY rfl (decide_eq_true (by omega))) (Bc ty3 rfl r80) (Bmc 12 Aon rfl Brm (gY rfl (decide_eq_true (by omega))) (Ah (v:=vp) h13_0) (Bmc 13 Aqg rfl Brm (gY rfl (decide_eq_true (by omega))) (Hj rfl rp) (Bme 14 Aqh rfl Brm (gY rfl (decide_eq_true (by omega))) (Ay DitchP.f_d Bnf rfl rfl Asi (by decide) rfl rp) fun v82 r82=>Bme 15 Aqi rfl Brm (gY rfl (decide_eq_true (by omega))) (Ay Ditch.f_restLong Bna rfl rfl ty3 (by decide) rfl r82) fun v83 r83=>?_)))
 have ⟨g84a,g84b⟩:=Brh r83
 refine Bmc 16 Aqj rfl Brm (gY rfl (decide_eq_true (by omega))) (Bc ty3 rfl r83) (Bmc 17 Aqk rfl Brm (gY rfl (decide_eq_true (by omega))) (Br rfl rfl (z:=(d.restFrom + d.restLong)) (Bo (by rfl) (by omega) (by omega))) (Bmd 18 Aql rfl Brm (gY rfl (decide_eq_true (by omega))) (Ah (v:=vp) h13_0) (Bmd 19 Aqm rfl Brm (gY rfl (decide_eq_true (by omega))) (Hj rfl rp) (Bmg 20 Aqn rfl Brm (gY rfl (decide_eq_true (by omega))) (Ay DitchP.f_d Bnf rfl rfl Asi (by decide) rfl rp) fun v85 r85=>Bmg 21 Aqo rfl Brm (gY rfl (decide_eq_true (by omega))) (Ay Ditch.f_week Bna rfl rfl ty3 (by decide) rfl r85) fun v86 r86=>?_))))
 have ⟨g87a,g87b⟩:=Brh r86
 refine Bmd 22 Aqp rfl Brm (gY rfl (decide_eq_true (by omega))) (Bc ty3 rfl r86) (Bmd 23 Aqq rfl Brm (gY rfl (decide_eq_true (by omega))) (Gl (p:=(d.restFrom + d.restLong)) (q:=d.week) rfl rfl) (Bmd 24 Aqr rfl Brm (gY rfl (decide_eq_true (by omega))) (Ah (v:=(.bool (decide ((d.restFrom + d.restLong) > d.week)))) rfl) (Bmc 25 Aqs rfl Brm (gY rfl (decide_eq_false (by omega))) (Ah (v:=vp) h13_0) (Bmc 26 Aqt rfl Brm (gY rfl (decide_eq_false (by omega))) (Hj rfl rp) (Bme 27 Aqu rfl Brm (gY rfl (decide_eq_false (by omega))) (Ay DitchP.f_d Bnf rfl rfl Asi (by decide) rfl rp) fun v88 r88=>Bme 28 Aqv rfl Brm (gY rfl (decide_eq_false (by omega))) (Ay Ditch.f_restLong Bna rfl rfl ty3 (by decide) rfl r88) fun v89 r89=>?_)))))
 have ⟨g90a,g90b⟩:=Brh r89
 refine Bmc 29 Aqw rfl Brm (gY rfl (decide_eq_false (by omega))) (Bc ty3 rfl r89) (Bmd 30 Aqx rfl Brm (gY rfl (decide_eq_false (by omega))) (Ah (v:=vp) h13_0) (Bmd 31 Aqy rfl Brm (gY rfl (decide_eq_false (by omega))) (Hj rfl rp) (Bmg 32 Aoo rfl Brm (gY rfl (decide_eq_false (by omega))) (Ay DitchP.f_d Bnf rfl rfl Asi (by decide) rfl rp) fun v91 r91=>Bmg 33 Aop rfl Brm (gY rfl (decide_eq_false (by omega))) (Ay Ditch.f_week Bna rfl rfl ty3 (by decide) rfl r91) fun v92 r92=>?_)))
 have ⟨g93a,g93b⟩:=Brh r92
 refine Bmd 34 Aqz rfl Brm (gY rfl (decide_eq_false (by omega))) (Bc ty3 rfl r92) (Bmd 35 Ara rfl Brm (gY rfl (decide_eq_false (by omega))) (Ek rfl rfl) (Bmd 36 Arb rfl Brm (gY rfl (decide_eq_true (by omega))) (Bn rfl (decide_eq_false (by omega)) (v:=(.bool (d.restLong == d.week))) rfl) (Bmr 37 Arc rfl (Bt rfl (decide_eq_true (by omega)) (v:=(.bool (d.restLong == d.week))) rfl) (Bmr 38 Ard rfl (Cp (v:=(.bool (d.restLong == d.week))) rfl) (Ec rfl (k75 _ _ _ _ ?_))))))
 refine Cg rfl (beq_eq_false_iff_ne.2 (by omega)) (w_q rfl rfl fun K94 k94=>l_v (Ah (v:=vp) h13_0) (l_v (Hj rfl rp) (Arw (Ay DitchP.f_d Bnf rfl rfl Asi (by decide) rfl rp) fun v95 r95=>Arw (Ay Ditch.f_feasts Bna rfl rfl Uo (by decide) rfl r95) fun v96 r96=>Arw (Ax Uo rfl r96) fun v97 r97=>?_)))
 have g98:d.feasts.length < 2 ^ 60:=Bro r97
 refine l_v (Ci (el:=41) Bni rfl r97) (l_v (Gl (p:=((d.feasts.length:Nat):Int)) (q:=8) rfl rfl) (Bma (.bool (decide (((d.feasts.length:Nat):Int) > 8))) (l_k k94 (Cg rfl (decide_eq_false (by omega)) (Al (k23 _ _ _ _ ?_))))))
 refine w_q rfl rfl fun K99 k99=>Bma (iV ((-1))) (Ary rfl rfl k99 fun K100 K101 k100 k101=>l_v (Ah (v:=vp) h13_0) (l_v (Hj rfl rp) (Arw (Ay DitchP.f_d Bnf rfl rfl Asi (by decide) rfl rp) fun v102 r102=>Arw (Ay Ditch.f_feasts Bna rfl rfl Uo (by decide) rfl r102) fun v103 r103=>Arw (Ax Uo rfl r103) fun v104 r104=>?_)))
 have g105:d.feasts.length < 2 ^ 60:=Bro r104
 refine l_v (Ci (el:=41) Bni rfl r104) (Bmb (iV (0)) (l_k k101 (Ao (Cc (fun mm ee dd ρ' σ'=>∃ (k:Nat) (lst:Int),(d.feasts.length - k) = mm∧[] = dd∧ρ = ρ'∧σ = σ'∧ee 113 = v104∧ee 114 = (iV (((d.feasts.length:Nat):Int)))∧ee 5 = (iV (lst))∧ee 115 = (iV ((k:Int)))∧(k ≤ d.feasts.length)∧(lst = Aym d k)∧True) (m:=_) ⟨0,(-1),rfl,rfl,rfl,rfl,rfl,rfl,rfl,rfl,(Nat.zero_le _),rfl,trivial⟩ ?_))))
 rintro m106 e106 _ _ _ ⟨k,lst,rfl,rfl,rfl,rfl,h106_113,h106_114,h106_5,h106_115,p106_0,p106_1,_⟩
 refine w_q rfl rfl fun K107 k107=>l_v (Da h106_115 h106_114) (Asa k107 fun K108 k108=>Up (t:=decide ((k:Int) < ((d.feasts.length:Nat):Int))) rfl (fun b109=>?_) (fun b109=>?_))
 ·have q109:=of_decide_eq_true b109
  refine Al (k108 _ _ _ _ ?_)
  refine Ai fun K110 k110=>Ao (w_q rfl rfl fun K111 k111=>?_)
  obtain ⟨a113,ha113⟩:=Ed (xs:=d.feasts) (i:=k) (by omega)
  have ffa113:=(ok.feast _ _ ha113).1
  have fla113:=Baq ok ha113
  have fsa113:=Axk ha113
  refine Arw (Ch k Bni Mx h106_113 r104 (q:=(k:Int)) h106_115 rfl ha113) fun v112 r112=>Arw (Ax Mx rfl r112) fun v114 r114=>Arv (Ct Aak fun k115=>?_)
  refine Cx rfl (Dv (v:=v114) (a:=a113) (c:=Arm) Mx rfl rfl r114 rfl ?_)
  refine Bb (a:=a113) r114 fun ρ116 l116 r116=>Asa k111 fun K117 k117=>Ao (w_q rfl rfl fun K118 k118=>Arw (Ax Mx rfl r116) fun v119 r119=>Arv (Bm (Aun r119) Bpy rfl rfl ⟨rfl,rfl,rfl,trivial⟩ ?_))
  refine l_v (Iy rfl) (Bma (.bool (!(Ef a113 0 999999999))) (l_k k118 (Cg rfl (not_t (Re.2 (by first | omega | (simp only; omega)))) (w_q rfl rfl fun K120 k120=>Arw (Ay Span.f_low Bnj rfl rfl ty3 (by decide) rfl r116) fun v121 r121=>?_))))
  have ⟨g122a,g122b⟩:=Brh r121
  refine l_v (Bc ty3 rfl r121) (l_v (Ah (v:=(iV (lst))) h106_5) (l_v (Uz rfl rfl) (Bma (.bool (decide (a113.low ≤ lst))) (l_k k120 (Cg rfl (decide_eq_false (by omega)) (Al (k117 _ _ _ _ ?_)))))))
  refine Ag rfl rfl (Arw (Ay Span.f_high Bnj rfl rfl ty3 (by decide) rfl r116) fun v123 r123=>?_)
  have ⟨g124a,g124b⟩:=Brh r123
  refine l_v (Bc ty3 rfl r123) (Bma (iV (a113.high)) (l_k k110 (Ag rfl rfl (l_v (Br h106_115 rfl (z:=(((k + 1):Nat):Int)) wrE) (Bmb (iV ((((k + 1):Nat):Int))) (Bj (Brj l116) (Ac ?_)))))))
  refine ⟨_,?_,((k + 1)),(a113.high),rfl,rfl,rfl,rfl,h106_113,h106_114,rfl,rfl,(by omega),(by rw [fsa113]),trivial⟩
  omega
 have q109:=of_decide_eq_false b109
 refine Bx (k100 _ _ _ _ ?_)
 refine w_q rfl rfl fun K125 k125=>Bma (iV (0)) (l_k k125 (Aq (hret _ _ _ ⟨rfl,rfl,eT (iV (0)) ?_⟩)))
 rfl
theorem Bbn {d:Ditch} {vp:Value} (rp:At ρ vp (⟨d⟩:DitchP)) (ok:DitchOk d):CallsH (CX mn X) 212 #[vp] ρ σ (rP ρ σ (iV (0))):=by
 have ok6:=ok.len6
 have nms:=Aup ok.names
 have okt:=ok.turns
 have okb:=ok.begin_
 have okw:=ok.week
 have okf:=ok.restFrom
 have okl:=ok.restLong
 have ok0:=ok.wk0
 have ok1:=ok.wk1
 have okn:=ok.nfeasts
 have oks:=ok.nswaps
 have oko:=ok.nloans
 have okfl:=ok.flow
 have okls:=ok.loss
 have okp:=ok.nplots
 refine Bh (n:=79) (args:=[vp]) [2] Tryz.func212 rfl rfl rfl rfl fun Q hret hnor=>w_q rfl rfl fun K1 k1=>Bma (iV (0)) (Ary rfl rfl k1 fun K2 K3 k2 k3=>Bmb vp (l_v (Hj rfl rp) (Arw (Ay DitchP.f_d Bnf rfl rfl Asi (by decide) rfl rp) fun v4 r4=>Arw (Ay Ditch.f_swaps Bna rfl rfl Atq (by decide) rfl r4) fun v5 r5=>Arw (Ax Atq rfl r5) fun v6 r6=>?_)))
 have g7:d.swaps.length < 2 ^ 60:=Bro r6
 refine l_v (Ci (el:=243) Boi rfl r6) (l_v (Gl (p:=((d.swaps.length:Nat):Int)) (q:=8) rfl rfl) (l_k k3 (Cg rfl (decide_eq_false (by omega)) (Al (k2 _ _ _ _ ?_)))))
 refine Asb rfl rfl fun K8 K9 k8 k9=>Bmb vp (l_v (Hj rfl rp) (Arw (Ay DitchP.f_d Bnf rfl rfl Asi (by decide) rfl rp) fun v10 r10=>Arw (Ay Ditch.f_swaps Bna rfl rfl Atq (by decide) rfl r10) fun v11 r11=>Arw (Ax Atq rfl r11) fun v12 r12=>?_))
 have g13:d.swaps.length < 2 ^ 60:=Bro r12
 refine l_v (Ci (el:=243) Boi rfl r12) (Bmb (iV (0)) (l_k k9 (Ao (Cc (fun mm ee dd ρ' σ'=>∃ (i:Nat),(d.swaps.length - i) = mm∧[] = dd∧ρ = ρ'∧σ = σ'∧ee 0 = vp∧ee 18 = v12∧ee 19 = (iV (((d.swaps.length:Nat):Int)))∧ee 20 = (iV ((i:Int)))∧(i ≤ d.swaps.length)∧True) (m:=_) ⟨0,rfl,rfl,rfl,rfl,rfl,rfl,rfl,rfl,(Nat.zero_le _),trivial⟩ ?_))))
 rintro m14 e14 _ _ _ ⟨i,rfl,rfl,rfl,rfl,h14_0,h14_18,h14_19,h14_20,p14_0,_⟩
 refine w_q rfl rfl fun K15 k15=>l_v (Da h14_20 h14_19) (Asa k15 fun K16 k16=>Up (t:=decide ((i:Int) < ((d.swaps.length:Nat):Int))) rfl (fun b17=>?_) (fun b17=>?_))
 ·have q17:=of_decide_eq_true b17
  refine Al (k16 _ _ _ _ ?_)
  refine Ai fun K18 k18=>Ao (w_q rfl rfl fun K19 k19=>?_)
  obtain ⟨a21,ha21⟩:=Ed (xs:=d.swaps) (i:=i) (by omega)
  have sfa21:=ok.swap _ _ ha21
  refine Arw (Ch i Boi Avc h14_18 r12 (q:=(i:Int)) h14_20 rfl ha21) fun v20 r20=>Arw (Ax Avc rfl r20) fun v22 r22=>Arv (Ct Bhi fun k23=>?_)
  refine Cx rfl (Dv (v:=v22) (a:=a21) (c:=Bhf) Avc rfl rfl r22 rfl ?_)
  refine Bb (a:=a21) r22 fun ρ24 l24 r24=>?_
  replace rp:=At.mono l24 rp
  refine l_k k19 (Ao (w_q rfl rfl fun K25 k25=>Arw (Ay WSwap.f_cycle Bnx rfl rfl ty3 (by decide) rfl r24) fun v26 r26=>?_))
  have ⟨g27a,g27b⟩:=Brh r26
  refine l_v (Bc ty3 rfl r26) (Arv (Bm (Asu) Boo rfl rfl ⟨rfl,rfl,rfl,trivial⟩ ?_))
  refine l_v (Iy rfl) (Bma (.bool (!(inR a21.cycle 0 999999999))) (l_k k25 (Cg rfl (not_t (Fz.2 (by first | omega | (simp only; omega)))) (w_q rfl rfl fun K28 k28=>l_v (Ah (v:=vp) h14_0) (Arw (Ay WSwap.f_a Bnx rfl rfl ty3 (by decide) rfl r24) fun v29 r29=>?_)))))
  have ⟨g30a,g30b⟩:=Brh r29
  refine l_v (Bc ty3 rfl r29) (Arv (Bm (Axh rp) Bqy rfl rfl ⟨rfl,rfl,trivial⟩ ?_))
  refine l_v (Iy rfl) (Bmb (.bool (!(inR a21.a 0 (((d.turns.length:Int) - 1))))) (Aa (gY rfl (not_t (Fz.2 (by first | omega | (simp only; omega))))) (Ah (v:=vp) h14_0) (Ak (gY rfl (not_t (Fz.2 (by first | omega | (simp only; omega))))) (Ay WSwap.f_b Bnx rfl rfl ty3 (by decide) rfl r24) fun v31 r31=>?_)))
  have ⟨g32a,g32b⟩:=Brh r31
  refine Aa (gY rfl (not_t (Fz.2 (by first | omega | (simp only; omega))))) (Bc ty3 rfl r31) (Ae (gY rfl (not_t (Fz.2 (by first | omega | (simp only; omega))))) (Bm (Axh rp) Bqy rfl rfl ⟨rfl,rfl,trivial⟩ ?_))
  refine Aa (gY rfl (not_t (Fz.2 (by first | omega | (simp only; omega))))) (Iy rfl) (l_v (Bn rfl (not_t (Fz.2 (by first | omega | (simp only; omega)))) (v:=(.bool (!(inR a21.b 0 (((d.turns.length:Int) - 1)))))) rfl) (Bma (.bool (!(inR a21.b 0 (((d.turns.length:Int) - 1))))) (l_k k28 (Cg rfl (not_t (Fz.2 (by first | omega | (simp only; omega)))) (Al (k18 _ _ _ _ ?_))))))
  refine Ag rfl rfl (l_v (Br h14_20 rfl (z:=(((i + 1):Nat):Int)) wrE) (Bmb (iV ((((i + 1):Nat):Int))) (Bj (Brj l24) (Ac ?_))))
  refine ⟨_,?_,((i + 1)),rfl,rfl,rfl,rfl,h14_0,h14_18,h14_19,rfl,(by omega),trivial⟩
  omega
 have q17:=of_decide_eq_false b17
 refine Bx (k8 _ _ _ _ ?_)
 refine Asb rfl rfl fun K33 K34 k33 k34=>l_v (Ah (v:=vp) h14_0) (l_v (Hj rfl rp) (Arw (Ay DitchP.f_d Bnf rfl rfl Asi (by decide) rfl rp) fun v35 r35=>Arw (Ay Ditch.f_loans Bna rfl rfl Atk (by decide) rfl r35) fun v36 r36=>Arw (Ax Atk rfl r36) fun v37 r37=>?_))
 have g38:d.loans.length < 2 ^ 60:=Bro r37
 refine l_v (Ci (el:=90) Bnk rfl r37) (l_v (Gl (p:=((d.loans.length:Nat):Int)) (q:=8) rfl rfl) (l_k k34 (Cg rfl (decide_eq_false (by omega)) (Al (k33 _ _ _ _ ?_)))))
 refine Asb rfl rfl fun K39 K40 k39 k40=>l_v (Ah (v:=vp) h14_0) (l_v (Hj rfl rp) (Arw (Ay DitchP.f_d Bnf rfl rfl Asi (by decide) rfl rp) fun v41 r41=>Arw (Ay Ditch.f_loans Bna rfl rfl Atk (by decide) rfl r41) fun v42 r42=>Arw (Ax Atk rfl r42) fun v43 r43=>?_))
 have g44:d.loans.length < 2 ^ 60:=Bro r43
 refine l_v (Ci (el:=90) Bnk rfl r43) (Bmb (iV (0)) (l_k k40 (Ao (Cc (fun mm ee dd ρ' σ'=>∃ (k:Nat),(d.loans.length - k) = mm∧[] = dd∧ρ = ρ'∧σ = σ'∧ee 0 = vp∧ee 54 = v43∧ee 55 = (iV (((d.loans.length:Nat):Int)))∧ee 56 = (iV ((k:Int)))∧(k ≤ d.loans.length)∧True) (m:=_) ⟨0,rfl,rfl,rfl,rfl,h14_0,rfl,rfl,rfl,(Nat.zero_le _),trivial⟩ ?_))))
 rintro m45 e45 _ _ _ ⟨k,rfl,rfl,rfl,rfl,h45_0,h45_54,h45_55,h45_56,p45_0,_⟩
 refine w_q rfl rfl fun K46 k46=>l_v (Da h45_56 h45_55) (Asa k46 fun K47 k47=>Up (t:=decide ((k:Int) < ((d.loans.length:Nat):Int))) rfl (fun b48=>?_) (fun b48=>?_))
 ·have q48:=of_decide_eq_true b48
  refine Al (k47 _ _ _ _ ?_)
  refine Ai fun K49 k49=>Ao (w_q rfl rfl fun K50 k50=>?_)
  obtain ⟨a52,ha52⟩:=Ed (xs:=d.loans) (i:=k) (by omega)
  have ofa52:=ok.loan _ _ ha52
  refine Arw (Ch k Bnk Atx h45_54 r43 (q:=(k:Int)) h45_56 rfl ha52) fun v51 r51=>Arw (Ax Atx rfl r51) fun v53 r53=>Arv (Ct Awd fun k54=>?_)
  refine Cx rfl (Dv (v:=v53) (a:=a52) (c:=Bhc) Atx rfl rfl r53 rfl ?_)
  refine Bb (a:=a52) r53 fun ρ55 l55 r55=>?_
  replace rp:=At.mono l55 rp
  refine l_k k50 (Ao (w_q rfl rfl fun K56 k56=>Arw (Ay WLoan.f_cycle Boc rfl rfl ty3 (by decide) rfl r55) fun v57 r57=>?_))
  have ⟨g58a,g58b⟩:=Brh r57
  refine l_v (Bc ty3 rfl r57) (Arv (Bm (Asu) Boo rfl rfl ⟨rfl,rfl,rfl,trivial⟩ ?_))
  refine l_v (Iy rfl) (Bma (.bool (!(inR a52.cycle 0 999999999))) (l_k k56 (Cg rfl (not_t (Fz.2 (by first | omega | (simp only; omega)))) (w_q rfl rfl fun K59 k59=>l_v (Ah (v:=vp) h45_0) (Arw (Ay WLoan.f_turn Boc rfl rfl ty3 (by decide) rfl r55) fun v60 r60=>?_)))))
  have ⟨g61a,g61b⟩:=Brh r60
  refine l_v (Bc ty3 rfl r60) (Arv (Bm (Axh rp) Bqy rfl rfl ⟨rfl,rfl,trivial⟩ ?_))
  refine l_v (Iy rfl) (Bmb (.bool (!(inR a52.turn 0 (((d.turns.length:Int) - 1))))) (Aa (gY rfl (not_t (Fz.2 (by first | omega | (simp only; omega))))) (Ah (v:=vp) h45_0) (Ak (gY rfl (not_t (Fz.2 (by first | omega | (simp only; omega))))) (Ay WLoan.f_to Boc rfl rfl ty3 (by decide) rfl r55) fun v62 r62=>?_)))
  have ⟨g63a,g63b⟩:=Brh r62
  refine Aa (gY rfl (not_t (Fz.2 (by first | omega | (simp only; omega))))) (Bc ty3 rfl r62) (Ae (gY rfl (not_t (Fz.2 (by first | omega | (simp only; omega))))) (Bm (Aut rp) Bqj rfl rfl ⟨rfl,rfl,trivial⟩ ?_))
  refine Aa (gY rfl (not_t (Fz.2 (by first | omega | (simp only; omega))))) (Iy rfl) (l_v (Bn rfl (not_t (Fz.2 (by first | omega | (simp only; omega)))) (v:=(.bool (!(inR a52.to 0 (((d.holders.length:Int) - 1)))))) rfl) (Bma (.bool (!(inR a52.to 0 (((d.holders.length:Int) - 1))))) (l_k k59 (Cg rfl (not_t (Fz.2 (by first | omega | (simp only; omega)))) (Al (k49 _ _ _ _ ?_))))))
  refine Ag rfl rfl (l_v (Br h45_56 rfl (z:=(((k + 1):Nat):Int)) wrE) (Bmb (iV ((((k + 1):Nat):Int))) (Bj (Brj l55) (Ac ?_))))
  refine ⟨_,?_,((k + 1)),rfl,rfl,rfl,rfl,h45_0,h45_54,h45_55,rfl,(by omega),trivial⟩
  omega
 have q48:=of_decide_eq_false b48
 refine Bx (k39 _ _ _ _ ?_)
 refine w_q rfl rfl fun K64 k64=>Bma (iV (0)) (l_k k64 (Aq (hret _ _ _ ⟨rfl,rfl,eT (iV (0)) ?_⟩)))
 rfl
theorem Bdu {d:Ditch} {vp:Value} (rp:At ρ vp (⟨d⟩:DitchP)) (ok:DitchOk d):CallsH (CX mn X) 213 #[vp] ρ σ (rP ρ σ (iV (0))):=by
 have ok6:=ok.len6
 have nms:=Aup ok.names
 have okt:=ok.turns
 have okb:=ok.begin_
 have okw:=ok.week
 have okf:=ok.restFrom
 have okl:=ok.restLong
 have ok0:=ok.wk0
 have ok1:=ok.wk1
 have okn:=ok.nfeasts
 have oks:=ok.nswaps
 have oko:=ok.nloans
 have okfl:=ok.flow
 have okls:=ok.loss
 have okp:=ok.nplots
 refine Bh (n:=80) (args:=[vp]) [2] Tryz.func213 rfl rfl rfl rfl fun Q hret hnor=>w_q rfl rfl fun K1 k1=>Bma (iV (0)) (Asa k1 fun K2 k2=>Ao (w_q rfl rfl fun K3 k3=>Bmb vp (l_v (Hj rfl rp) (Arw (Ay DitchP.f_d Bnf rfl rfl Asi (by decide) rfl rp) fun v4 r4=>Arw (Ay Ditch.f_flow Bna rfl rfl Mx (by decide) rfl r4) fun v5 r5=>Arw (Ax Mx rfl r5) fun v6 r6=>Arv (Bm (Aun r6) Bpy rfl rfl ⟨rfl,rfl,rfl,trivial⟩ ?_)))))
 refine l_v (Iy rfl) (Bmb (.bool (!(Ef d.flow 0 100000))) (l_M vp (gY rfl (not_t (Re.2 (by first | omega | (simp only; omega))))) rfl (Aa (gY rfl (not_t (Re.2 (by first | omega | (simp only; omega))))) (Hj rfl rp) (Ak (gY rfl (not_t (Re.2 (by first | omega | (simp only; omega))))) (Ay DitchP.f_d Bnf rfl rfl Asi (by decide) rfl rp) fun v7 r7=>Ak (gY rfl (not_t (Re.2 (by first | omega | (simp only; omega))))) (Ay Ditch.f_loss Bna rfl rfl Mx (by decide) rfl r7) fun v8 r8=>Ak (gY rfl (not_t (Re.2 (by first | omega | (simp only; omega))))) (Ax Mx rfl r8) fun v9 r9=>Ae (gY rfl (not_t (Re.2 (by first | omega | (simp only; omega))))) (Bm (Aun r9) Bpy rfl rfl ⟨rfl,rfl,rfl,trivial⟩ ?_)))))
 refine Aa (gY rfl (not_t (Re.2 (by first | omega | (simp only; omega))))) (Iy rfl) (l_v (Bn rfl (not_t (Re.2 (by first | omega | (simp only; omega)))) (v:=(.bool (!(Ef d.loss 0 1000)))) rfl) (Bma (.bool (!(Ef d.loss 0 1000))) (l_k k3 (Cg rfl (not_t (Re.2 (by first | omega | (simp only; omega)))) (w_q rfl rfl fun K10 k10=>Bmb vp (l_v (Hj rfl rp) (Arw (Ay DitchP.f_d Bnf rfl rfl Asi (by decide) rfl rp) fun v11 r11=>Arw (Ay Ditch.f_plots Bna rfl rfl Atl (by decide) rfl r11) fun v12 r12=>Arw (Ax Atl rfl r12) fun v13 r13=>?_)))))))
 have g14:d.plots.length < 2 ^ 60:=Bro r13
 refine l_v (Ci (el:=184) Bob rfl r13) (l_v (Gl (p:=((d.plots.length:Nat):Int)) (q:=8) rfl rfl) (Bma (.bool (decide (((d.plots.length:Nat):Int) > 8))) (l_k k10 (Cg rfl (decide_eq_false (by omega)) (Al (k2 _ _ _ _ ?_))))))
 refine Asb rfl rfl fun K15 K16 k15 k16=>Bmb vp (l_v (Hj rfl rp) (Arw (Ay DitchP.f_d Bnf rfl rfl Asi (by decide) rfl rp) fun v17 r17=>Arw (Ay Ditch.f_plots Bna rfl rfl Atl (by decide) rfl r17) fun v18 r18=>Arw (Ax Atl rfl r18) fun v19 r19=>?_))
 have g20:d.plots.length < 2 ^ 60:=Bro r19
 refine l_v (Ci (el:=184) Bob rfl r19) (Bmb (iV (0)) (l_k k16 (Ao (Cc (fun mm ee dd ρ' σ'=>∃ (i:Nat),(d.plots.length - i) = mm∧[] = dd∧ρ = ρ'∧σ = σ'∧ee 0 = vp∧ee 34 = v19∧ee 35 = (iV (((d.plots.length:Nat):Int)))∧ee 36 = (iV ((i:Int)))∧(i ≤ d.plots.length)∧True) (m:=_) ⟨0,rfl,rfl,rfl,rfl,rfl,rfl,rfl,rfl,(Nat.zero_le _),trivial⟩ ?_))))
 rintro m21 e21 _ _ _ ⟨i,rfl,rfl,rfl,rfl,h21_0,h21_34,h21_35,h21_36,p21_0,_⟩
 refine w_q rfl rfl fun K22 k22=>l_v (Da h21_36 h21_35) (Asa k22 fun K23 k23=>Up (t:=decide ((i:Int) < ((d.plots.length:Nat):Int))) rfl (fun b24=>?_) (fun b24=>?_))
 ·have q24:=of_decide_eq_true b24
  refine Al (k23 _ _ _ _ ?_)
  refine Ai fun K25 k25=>Ao (w_q rfl rfl fun K26 k26=>l_v (Ah (v:=(iV ((i:Int)))) h21_36) ?_)
  obtain ⟨a28,ha28⟩:=Ed (xs:=d.plots) (i:=i) (by omega)
  obtain ⟨nfa28,_,paa28,pba28,pca28,pda28⟩:=ok.plot _ _ ha28
  refine Arw (Ch i Bob Auh h21_34 r19 (q:=(i:Int)) h21_36 rfl ha28) fun v27 r27=>Arw (Ax Auh rfl r27) fun v29 r29=>Arv (Ct Bhg fun k30=>?_)
  refine Bma (iV ((i:Int))) (Cx rfl (Dv (v:=v29) (a:=a28) (c:=Bhd) Auh rfl rfl r29 rfl ?_))
  refine Bb (a:=a28) r29 fun ρ31 l31 r31=>?_
  replace rp:=At.mono l31 rp
  refine l_k k26 (Ao (w_q rfl rfl fun K32 k32=>Arw (Ay WPlot.f_name Bno rfl rfl ty9 (by decide) rfl r31) fun v33 r33=>?_))
  have g34:=At.slen r33
  refine l_v (Pk ty9 rfl r33) (Arv (Bm (Bal (by omega)) Tryz.func214 rfl rfl ⟨rfl,trivial⟩ ?_))
  refine l_v (Iy rfl) (Bma (.bool (!(Hg a28.name))) (l_k k32 (Cg rfl (not_t nfa28) (w_q rfl rfl fun K35 k35=>l_v (Ah (v:=vp) h21_0) (l_v (Hj rfl rp) (Arw (Ay DitchP.f_d Bnf rfl rfl Asi (by decide) rfl rp) fun v36 r36=>Arw (Ay Ditch.f_plots Bna rfl rfl Atl (by decide) rfl r36) fun v37 r37=>Arw (Ax Atl rfl r37) fun v38 r38=>Bmb (iV ((i:Int))) (Arw (Avf i Bob Auh rfl r38 (q:=(i:Int)) rfl rfl (by omega)) fun v39 r39=>l_v (Il (fn:=.func 218) (caps:=[.tmp 4]) (vs:=[(.pointer (some ⟨k30,0,none⟩))]) ⟨rfl,trivial⟩) (Arv (Bm (Axg r39 (Bcd r31)) Tryz.func217 rfl rfl ⟨rfl,rfl,trivial⟩ ?_)))))))))
  refine Bma (.bool (((d.plots.take i)).any (fun x=>x.name.toList == a28.name.toList))) (l_k k35 (Cg rfl (ok.plotName ha28) (w_q rfl rfl fun K40 k40=>l_v (Ah (v:=vp) h21_0) (Arw (Ay WPlot.f_holder Bno rfl rfl ty3 (by decide) rfl r31) fun v41 r41=>?_))))
  have ⟨g42a,g42b⟩:=Brh r41
  refine l_v (Bc ty3 rfl r41) (Arv (Bm (Aut rp) Bqj rfl rfl ⟨rfl,rfl,trivial⟩ ?_))
  refine l_v (Iy rfl) (Bma (.bool (!(inR a28.holder 0 (((d.holders.length:Int) - 1))))) (l_k k40 (Cg rfl (not_t (Fz.2 (by first | omega | (simp only; omega)))) (w_q rfl rfl fun K43 k43=>Arw (Ay WPlot.f_far Bno rfl rfl ty3 (by decide) rfl r31) fun v44 r44=>?_))))
  have ⟨g45a,g45b⟩:=Brh r44
  refine l_v (Bc ty3 rfl r44) (Arv (Bm (Asu) Boo rfl rfl ⟨rfl,rfl,rfl,trivial⟩ ?_))
  refine l_v (Iy rfl) (Bmb (.bool (!(inR a28.far 0 20))) (Ak (gY rfl (not_t (Fz.2 (by first | omega | (simp only; omega))))) (Ay WPlot.f_needs Bno rfl rfl Mx (by decide) rfl r31) fun v46 r46=>Ak (gY rfl (not_t (Fz.2 (by first | omega | (simp only; omega))))) (Ax Mx rfl r46) fun v47 r47=>Ae (gY rfl (not_t (Fz.2 (by first | omega | (simp only; omega))))) (Bm (Aun r47) Bpy rfl rfl ⟨rfl,rfl,rfl,trivial⟩ ?_)))
  refine Aa (gY rfl (not_t (Fz.2 (by first | omega | (simp only; omega))))) (Iy rfl) (l_v (Bn rfl (not_t (Fz.2 (by first | omega | (simp only; omega)))) (v:=(.bool (!(Ef a28.needs 0 999999999)))) rfl) (Bmb (.bool (!(Ef a28.needs 0 999999999))) (Ak (gY rfl (not_t (Re.2 (by first | omega | (simp only; omega))))) (Ay WPlot.f_worth Bno rfl rfl ty3 (by decide) rfl r31) fun v48 r48=>?_)))
  have ⟨g49a,g49b⟩:=Brh r48
  refine Aa (gY rfl (not_t (Re.2 (by first | omega | (simp only; omega))))) (Bc ty3 rfl r48) (Ae (gY rfl (not_t (Re.2 (by first | omega | (simp only; omega))))) (Bm (Asu) Boo rfl rfl ⟨rfl,rfl,rfl,trivial⟩ ?_))
  refine Aa (gY rfl (not_t (Re.2 (by first | omega | (simp only; omega))))) (Iy rfl) (l_v (Bn rfl (not_t (Re.2 (by first | omega | (simp only; omega)))) (v:=(.bool (!(inR a28.worth 0 10000)))) rfl) (Bma (.bool (!(inR a28.worth 0 10000))) (l_k k43 (Cg rfl (not_t (Fz.2 (by first | omega | (simp only; omega)))) (Al (k25 _ _ _ _ ?_))))))
  refine Ag rfl rfl (l_v (Br h21_36 rfl (z:=(((i + 1):Nat):Int)) wrE) (Bmb (iV ((((i + 1):Nat):Int))) (Bj (Brj l31) (Ac ?_))))
  refine ⟨_,?_,((i + 1)),rfl,rfl,rfl,rfl,h21_0,h21_34,h21_35,rfl,(by omega),trivial⟩
  omega
 have q24:=of_decide_eq_false b24
 refine Bx (k15 _ _ _ _ ?_)
 refine w_q rfl rfl fun K50 k50=>Bma (iV (0)) (l_k k50 (Aq (hret _ _ _ ⟨rfl,rfl,eT (iV (0)) ?_⟩)))
 rfl
theorem Axz {d:Ditch} {vd:Value} (hg:GlobT ρ) (rd:Val ρ vd d) (ok:DitchOk d):CallsH (CX mn X) 163 #[vd] ρ σ (rP ρ σ (iV (0))):=by
 refine Bh (n:=19) (args:=[vd]) [2] Tryz.func163 rfl rfl rfl rfl fun Q hret hnor=>w_q rfl rfl fun K1 k1=>Arv (Eb (v:=vd) rfl fun k2=>?_)
 refine Bb (a:=d) rd fun ρ2 l2 r2=>?_
 replace hg:=GlobT.mono l2 hg
 refine Bma (iV (0)) (Ary rfl rfl k1 fun K3 K4 k3 k4=>Arw (Ax Bkk rfl hg.checks) fun v5 r5=>Bmb (iV (0)) (l_k k4 (Ao (Cc (fun mm ee dd ρ' σ'=>∃ (i:Nat),(4 - i) = mm∧[] = dd∧ρ2 = ρ'∧σ = σ'∧ee 1 = (.pointer (some ⟨k2,0,none⟩))∧ee 6 = v5∧ee 7 = (iV ((i:Int)))∧(i ≤ 4)∧True) (m:=_) ⟨0,rfl,rfl,rfl,rfl,rfl,rfl,rfl,(Nat.zero_le _),trivial⟩ ?_))))
 rintro m6 e6 _ _ _ ⟨i,rfl,rfl,rfl,rfl,h6_1,h6_6,h6_7,p6_0,_⟩
 refine w_q rfl rfl fun K7 k7=>l_v (Da h6_7 rfl) (Asa k7 fun K8 k8=>Up (t:=decide ((i:Int) < 4)) rfl (fun b9=>?_) (fun b9=>?_))
 ·have q9:=of_decide_eq_true b9
  refine Al (k8 _ _ _ _ ?_)
  refine Ai fun K10 k10=>Ao (w_q rfl rfl fun K11 k11=>?_)
  rcases (show i = 0∨i = 1∨i = 2∨i = 3 from by omega) with hi12 | hi12 | hi12 | hi12
  ·refine l_v (Att (len:=4) (cs:=[(.func (.func 210) #[] #[]),(.func (.func 211) #[] #[]),(.func (.func 212) #[] #[]),(.func (.func 213) #[] #[])]) (v:=(.func (.func 210) #[] #[])) (i) Bpl ⟨_,Bpc,rfl⟩ ⟨_,Ab Bqh,rfl⟩ (h6_6.trans (Awg r5)) h6_7 rfl (by omega) (by rw [hi12]; rfl)) (Bma (.func (.func 210) #[] #[]) (Arx rfl rfl k11 fun K13 k13=>Bmb (.func (.func 210) #[] #[]) (Arw (Ax Asi h6_1 r2) fun v14 r14=>l_v (Aus rfl r14) (Arv (Eb (v:=v14) rfl fun k15=>?_)))))
   refine Bb (a:=(⟨d⟩:DitchP)) (Bab r14) fun ρ15 l15 r15=>Arv (Ur (caps:=[]) (vs:=[(.pointer (some ⟨k15,0,none⟩))]) (v:=(iV (0))) rfl (Bdw r15 ok) Tryz.func210 rfl rfl ⟨rfl,trivial⟩ ?_)
   refine Bma (iV (0)) (Arx rfl rfl k13 fun K16 k16=>Bmb (iV (0)) (l_v (Dg rfl rfl) (l_k k16 (Cg rfl rfl (Al (k10 _ _ _ _ ?_))))))
   refine Ag rfl rfl (l_v (Br h6_7 rfl (z:=(((i + 1):Nat):Int)) wrE) (Bmb (iV ((((i + 1):Nat):Int))) (Bj (Brj l15) (Ac ?_))))
   refine ⟨_,?_,((i + 1)),rfl,rfl,rfl,rfl,h6_1,h6_6,rfl,(by omega),trivial⟩
   omega
  ·refine l_v (Att (len:=4) (cs:=[(.func (.func 210) #[] #[]),(.func (.func 211) #[] #[]),(.func (.func 212) #[] #[]),(.func (.func 213) #[] #[])]) (v:=(.func (.func 211) #[] #[])) (i) Bpl ⟨_,Bpc,rfl⟩ ⟨_,Ab Bqh,rfl⟩ (h6_6.trans (Awg r5)) h6_7 rfl (by omega) (by rw [hi12]; rfl)) (Bma (.func (.func 211) #[] #[]) (Arx rfl rfl k11 fun K17 k17=>Bmb (.func (.func 211) #[] #[]) (Arw (Ax Asi h6_1 r2) fun v18 r18=>l_v (Aus rfl r18) (Arv (Eb (v:=v18) rfl fun k19=>?_)))))
   refine Bb (a:=(⟨d⟩:DitchP)) (Bab r18) fun ρ19 l19 r19=>Arv (Ur (caps:=[]) (vs:=[(.pointer (some ⟨k19,0,none⟩))]) (v:=(iV (0))) rfl (Bev r19 ok) Tryz.func211 rfl rfl ⟨rfl,trivial⟩ ?_)
   refine Bma (iV (0)) (Arx rfl rfl k17 fun K20 k20=>Bmb (iV (0)) (l_v (Dg rfl rfl) (l_k k20 (Cg rfl rfl (Al (k10 _ _ _ _ ?_))))))
   refine Ag rfl rfl (l_v (Br h6_7 rfl (z:=(((i + 1):Nat):Int)) wrE) (Bmb (iV ((((i + 1):Nat):Int))) (Bj (Brj l19) (Ac ?_))))
   refine ⟨_,?_,((i + 1)),rfl,rfl,rfl,rfl,h6_1,h6_6,rfl,(by omega),trivial⟩
   omega
  ·refine l_v (Att (len:=4) (cs:=[(.func (.func 210) #[] #[]),(.func (.func 211) #[] #[]),(.func (.func 212) #[] #[]),(.func (.func 213) #[] #[])]) (v:=(.func (.func 212) #[] #[])) (i) Bpl ⟨_,Bpc,rfl⟩ ⟨_,Ab Bqh,rfl⟩ (h6_6.trans (Awg r5)) h6_7 rfl (by omega) (by rw [hi12]; rfl)) (Bma (.func (.func 212) #[] #[]) (Arx rfl rfl k11 fun K21 k21=>Bmb (.func (.func 212) #[] #[]) (Arw (Ax Asi h6_1 r2) fun v22 r22=>l_v (Aus rfl r22) (Arv (Eb (v:=v22) rfl fun k23=>?_)))))
   refine Bb (a:=(⟨d⟩:DitchP)) (Bab r22) fun ρ23 l23 r23=>Arv (Ur (caps:=[]) (vs:=[(.pointer (some ⟨k23,0,none⟩))]) (v:=(iV (0))) rfl (Bbn r23 ok) Tryz.func212 rfl rfl ⟨rfl,trivial⟩ ?_)
   refine Bma (iV (0)) (Arx rfl rfl k21 fun K24 k24=>Bmb (iV (0)) (l_v (Dg rfl rfl) (l_k k24 (Cg rfl rfl (Al (k10 _ _ _ _ ?_))))))
   refine Ag rfl rfl (l_v (Br h6_7 rfl (z:=(((i + 1):Nat):Int)) wrE) (Bmb (iV ((((i + 1):Nat):Int))) (Bj (Brj l23) (Ac ?_))))
   refine ⟨_,?_,((i + 1)),rfl,rfl,rfl,rfl,h6_1,h6_6,rfl,(by omega),trivial⟩
   omega
  refine l_v (Att (len:=4) (cs:=[(.func (.func 210) #[] #[]),(.func (.func 211) #[] #[]),(.func (.func 212) #[] #[]),(.func (.func 213) #[] #[])]) (v:=(.func (.func 213) #[] #[])) (i) Bpl ⟨_,Bpc,rfl⟩ ⟨_,Ab Bqh,rfl⟩ (h6_6.trans (Awg r5)) h6_7 rfl (by omega) (by rw [hi12]; rfl)) (Bma (.func (.func 213) #[] #[]) (Arx rfl rfl k11 fun K25 k25=>Bmb (.func (.func 213) #[] #[]) (Arw (Ax Asi h6_1 r2) fun v26 r26=>l_v (Aus rfl r26) (Arv (Eb (v:=v26) rfl fun k27=>?_)))))
  refine Bb (a:=(⟨d⟩:DitchP)) (Bab r26) fun ρ27 l27 r27=>Arv (Ur (caps:=[]) (vs:=[(.pointer (some ⟨k27,0,none⟩))]) (v:=(iV (0))) rfl (Bdu r27 ok) Tryz.func213 rfl rfl ⟨rfl,trivial⟩ ?_)
  refine Bma (iV (0)) (Arx rfl rfl k25 fun K28 k28=>Bmb (iV (0)) (l_v (Dg rfl rfl) (l_k k28 (Cg rfl rfl (Al (k10 _ _ _ _ ?_))))))
  refine Ag rfl rfl (l_v (Br h6_7 rfl (z:=(((i + 1):Nat):Int)) wrE) (Bmb (iV ((((i + 1):Nat):Int))) (Bj (Brj l27) (Ac ?_))))
  refine ⟨_,?_,((i + 1)),rfl,rfl,rfl,rfl,h6_1,h6_6,rfl,(by omega),trivial⟩
  omega
 have q9:=of_decide_eq_false b9
 refine Bx (k3 _ _ _ _ ?_)
 refine w_q rfl rfl fun K29 k29=>Bma (iV (0)) (l_k k29 (Aj (Brj l2) (Aq (hret _ _ _ ⟨rfl,rfl,eT (iV (0)) ?_⟩))))
 rfl
end
section
open Go
theorem Bde {h w:Int} (hh:0 ≤ h) (hw:0 < w):0 ≤ h.tdiv w∧h.tdiv w ≤ h:=by
 rw [Int.tdiv_eq_ediv_of_nonneg hh]
 exact ⟨Int.ediv_nonneg hh (by omega),Int.ediv_le_self w hh⟩
theorem Bdf {h w:Int} (hh:0 ≤ h) (hw:0 < w):0 ≤ h.tmod w∧h.tmod w < w:=by
 rw [Int.tmod_eq_emod_of_nonneg hh]
 exact ⟨Int.emod_nonneg h (by omega),Int.emod_lt_of_pos h hw⟩
theorem Bfl {a b A B:Int} (ha:0 ≤ a∧a ≤ A) (hb:0 ≤ b∧b ≤ B):0 ≤ a * b∧a * b ≤ A * B :=
 ⟨Int.mul_nonneg ha.1 hb.1,Int.le_trans (Int.mul_le_mul_of_nonneg_left hb.2 ha.1) (Int.mul_le_mul_of_nonneg_right ha.2 (by omega))⟩
def Avx (l dn:List OEnt):Prop:=(∀ z ∈ dn,z ∈ l)∧(dn.map OEnt.c).Nodup
theorem Bce {l:List OEnt}:Avx l []:=⟨fun z h=>by (cases h),List.nodup_nil⟩
theorem Bhw {es:Array MapEntry} {ck:Nat} {l:List OEnt} (hs:MapE es ck l) {z w:OEnt} (hz:z ∈ l) (hw:w ∈ l) (e:w.c = z.c):w = z:=by
 obtain ⟨i,hi⟩:=List.mem_iff_getElem?.1 hw
 obtain ⟨j,hj⟩:=List.mem_iff_getElem?.1 hz
 have h2:(l.map OEnt.c)[i]? = (l.map OEnt.c)[j]?:=by rw [List.getElem?_map,List.getElem?_map,hi,hj]; simp [e]
 have hlt:i < (l.map OEnt.c).length:=by rw [List.length_map]; exact (List.getElem?_eq_some_iff.1 hi).1
 have:=(List.getElem?_inj hlt hs.keys).1 h2
 subst this
 rw [hi] at hj; exact Option.some.inj hj
theorem Ava {es:Array MapEntry} {ck:Nat} {l dn:List OEnt} {z:OEnt} (hM:MapE es ck l) (h:Avx l dn) (hz:z ∈ l) (hn:z ∉ dn):Avx l (dn ++ [z]):=by
 refine ⟨fun w hw=>?_,?_⟩
 ·rcases List.mem_append.1 hw with hw | hw
  ·exact h.1 w hw
  ·rw [List.mem_singleton.1 hw]; exact hz
 ·rw [List.map_append,List.nodup_append]
  refine ⟨h.2,by simp,fun x hx y hy=>?_⟩
  simp only [List.map_cons,List.map_nil,List.mem_singleton] at hy
  subst hy
  intro e
  obtain ⟨w,hw,hwx⟩:=List.mem_map.1 hx
  have:=Bhw hM hz (h.1 w hw) (hwx.trans e)
  subst this
  exact hn hw
theorem Auz {α β:Type} {f:α→β}:∀ {l:List α},(l.map f).Nodup→l.Nodup
 | [],_=>List.nodup_nil
 | a :: l,h=>by
  rw [List.map_cons,List.nodup_cons] at h
  exact List.nodup_cons.2 ⟨fun ha=>h.1 (List.mem_map.2 ⟨a,ha,rfl⟩),Auz h.2⟩
theorem Avb {l dn:List OEnt} (h:Avx l dn):dn.length ≤ l.length:=by
 have:=Ayt (dn:=dn.map OEnt.c) (l:=l.map OEnt.c) h.2 fun b hb=>by
  obtain ⟨z,hz,rfl⟩:=List.mem_map.1 hb
  exact List.mem_map.2 ⟨z,h.1 z hz,rfl⟩
 simpa using this
theorem Baz {es:Array MapEntry} {ck:Nat} {l dn:List OEnt} (hM:MapE es ck l) (h:Avx l dn) (he:∀ z ∈ l,z ∈ dn):dn.Perm l :=
 (List.perm_ext_iff_of_nodup (Auz h.2) (Auz hM.keys)).2 fun a=>⟨h.1 a,he a⟩
theorem Bfv {l l':List Int} (h:l.Perm l'):l.sum = l'.sum:=by
 induction h with
 | nil=>rfl
 | cons x _ ih=>simp [ih]
 | swap x y l=>simp only [List.sum_cons]; omega
 | trans _ _ h1 h2=>rw [h1,h2]
theorem Bcb {d:Ditch} {h n:Int} {l dn:List OEnt} (hp:dn.Perm l):Atd d h n (dn.map OEnt.p) = Atd d h n (l.map OEnt.p):=Bfv ((hp.map OEnt.p).map _)
theorem Ayr {d:Ditch} {h n:Int} {dn:List OEnt} {z:OEnt}:Atd d h n ((dn ++ [z]).map OEnt.p) = Atd d h n (dn.map OEnt.p) + Atz d h n (z.c,z.l):=by
 unfold Atd
 rw [List.map_append,List.map_append,List.sum_append]
 simp [OEnt.p]
theorem Bhy {d:Ditch} {h n c:Int} {l:List Int} (hk:¬ min (Asg d) (n - c * Asg d) > 0):Atz d h n (c,l) = 0:=by unfold Atz; rw [if_neg hk]
theorem Bfk {d:Ditch} {h n c:Int} {l:List Int} (hk:min (Asg d) (n - c * Asg d) > 0):Atz d h n (c,l) = Ass d l h (min (Asg d) (n - c * Asg d)) - Ass d (Asj d) h (min (Asg d) (n - c * Asg d)):=by unfold Atz; rw [if_pos hk]
/-- What has been added when some entries have been shown. -/
theorem Bas {d:Ditch} (ok:DitchOk d) {h n:Int} {l dn:List OEnt} (hl:Awx d = l.map OEnt.p) (hs:Avx l dn):-20000 ≤ Atd d h n (dn.map OEnt.p)∧Atd d h n (dn.map OEnt.p) ≤ 20000:=by
 have h1:=Avk ok (h:=h) (n:=n) (L:=dn.map OEnt.p) fun z hz=>by
  obtain ⟨w,hw,rfl⟩:=List.mem_map.1 hz
  exact (Awb ok).list _ (by rw [hl]; exact List.mem_map.2 ⟨w,hs.1 w hw,rfl⟩)
 have h2:=Avb hs
 have h3:=Bdc ok
 rw [hl,List.length_map] at h3
 rw [List.length_map] at h1
 omega
theorem Bbt {d:Ditch} (ok:DitchOk d) {l:List OEnt} (hl:Awx d = l.map OEnt.p) {z:OEnt} (hz:z ∈ l):LOk d z.l∧0 ≤ z.c∧z.c ≤ 999999999:=by
 have hm:(z.c,z.l) ∈ Awx d:=by rw [hl]; exact List.mem_map.2 ⟨z,hz,rfl⟩
 exact ⟨(Awb ok).list _ hm,(Awb ok).key _ hm⟩
end
section
set_option maxHeartbeats 1000000
open Go
variable {mn:Bool} {X:Frame→List Frame→Ro→Own→Cy→Prop} {ρ:Ro} {σ:Own}
theorem Beu {d:Ditch} {r:Nat} {vp:Value} {h:Int} (rp:At ρ vp (Avd d r)) (ok:DitchOk d) (hh:0 ≤ h∧h ≤ 2000000000):CallsH (CX mn X) 185 #[vp,(iV (h))] ρ σ (rP ρ σ (iV (Ati d h))):=by
 have okw:=ok.week
 have okf:=ok.restFrom
 have okl:=ok.restLong
 have okt:=ok.turns
 have okb:=ok.begin_
 have okn:=ok.nfeasts
 have hlo:=Atc ok
 refine Bh (n:=51) (args:=[vp,(iV (h))]) [4] Tryz.func185 rfl rfl rfl rfl fun Q hret hnor=>w_q rfl rfl fun K1 k1=>Bma (iV (0)) (Ary rfl rfl k1 fun K2 K3 k2 k3=>Bmb vp (l_v (Hj rfl rp) (Arw (Ay Water.f_ditch Bnh rfl rfl Auk (by decide) rfl rp) fun v4 r4=>Arw (Ay DitchP.f_d Bnf rfl rfl Asi (by decide) rfl r4) fun v5 r5=>Arw (Ay Ditch.f_week Bna rfl rfl ty3 (by decide) rfl r5) fun v6 r6=>?_)))
 have ⟨g7a,g7b⟩:=Brh r6
 refine l_v (Bc ty3 rfl r6) (l_v (Ek rfl rfl) (l_k k3 (Up (t:=d.week == 0) rfl (fun b8=>?_) (fun b8=>?_))))
 ·have q8:=Jr b8
  refine w_q rfl rfl fun K9 k9=>Bma (iV (0)) (l_k k9 (Aq (hret _ _ _ ⟨rfl,rfl,eT (iV (0)) ?_⟩)))
  rw [Ati,if_pos q8]
 have q8:=Jq b8
 refine Al (k2 _ _ _ _ ?_)
 refine Ai fun K10 k10=>Bmw (Bmq 0 [o1,o0,o0,o0,o0,o0,o0,o0,o0,o0,o0,o0,o0,o0,o0,o0,o0,o0,o0,o0,o0,o0,o0,o0,o0,o0,o0,o0,o0,o0,o0,o0,o0,o0,o0,o0,o0,o0,o0,o0] rfl (Ah (v:=(iV (h))) rfl) (Bmq 1 [o1,o1,o0,o0,o0,o0,o0,o0,o0,o0,o0,o0,o0,o0,o0,o0,o0,o0,o0,o0,o0,o0,o0,o0,o0,o0,o0,o0,o0,o0,o0,o0,o0,o0,o0,o0,o0,o0,o0,o0] rfl (Ah (v:=vp) rfl) (Bmq 2 [o1,o1,o1,o0,o0,o0,o0,o0,o0,o0,o0,o0,o0,o0,o0,o0,o0,o0,o0,o0,o0,o0,o0,o0,o0,o0,o0,o0,o0,o0,o0,o0,o0,o0,o0,o0,o0,o0,o0,o0] rfl (Hj rfl rp) (Bms 3 [o1,o1,o1,o1,o0,o0,o0,o0,o0,o0,o0,o0,o0,o0,o0,o0,o0,o0,o0,o0,o0,o0,o0,o0,o0,o0,o0,o0,o0,o0,o0,o0,o0,o0,o0,o0,o0,o0,o0,o0] rfl (Ay Water.f_ditch Bnh rfl rfl Auk (by decide) rfl rp) fun v11 r11=>Bms 4 [o1,o1,o1,o1,o1,o0,o0,o0,o0,o0,o0,o0,o0,o0,o0,o0,o0,o0,o0,o0,o0,o0,o0,o0,o0,o0,o0,o0,o0,o0,o0,o0,o0,o0,o0,o0,o0,o0,o0,o0] rfl (Ay DitchP.f_d Bnf rfl rfl Asi (by decide) rfl r11) fun v12 r12=>Bms 5 [o1,o1,o1,o1,o1,o1,o0,o0,o0,o0,o0,o0,o0,o0,o0,o0,o0,o0,o0,o0,o0,o0,o0,o0,o0,o0,o0,o0,o0,o0,o0,o0,o0,o0,o0,o0,o0,o0,o0,o0] rfl (Ay Ditch.f_week Bna rfl rfl ty3 (by decide) rfl r12) fun v13 r13=>?_))))
 have ⟨g14a,g14b⟩:=Brh r13
 refine Bmq 6 [o1,o1,o1,o1,o1,o1,o1,o0,o0,o0,o0,o0,o0,o0,o0,o0,o0,o0,o0,o0,o0,o0,o0,o0,o0,o0,o0,o0,o0,o0,o0,o0,o0,o0,o0,o0,o0,o0,o0,o0] rfl (Bc ty3 rfl r13) ?_
 have hq15:=Bde (h:=h) (w:=d.week) (by omega) (by omega)
 refine Bmq 7 [o1,o1,o1,o1,o1,o1,o1,o1,o0,o0,o0,o0,o0,o0,o0,o0,o0,o0,o0,o0,o0,o0,o0,o0,o0,o0,o0,o0,o0,o0,o0,o0,o0,o0,o0,o0,o0,o0,o0,o0] rfl (Bik (p:=h) (q:=d.week) rfl rfl (by omega) (z:=(h.tdiv d.week)) wrR) (Bmq 8 [o1,o1,o1,o1,o1,o1,o1,o1,o1,o0,o0,o0,o0,o0,o0,o0,o0,o0,o0,o0,o0,o0,o0,o0,o0,o0,o0,o0,o0,o0,o0,o0,o0,o0,o0,o0,o0,o0,o0,o0] rfl (Ah (v:=vp) rfl) (Bmq 9 [o1,o1,o1,o1,o1,o1,o1,o1,o1,o1,o0,o0,o0,o0,o0,o0,o0,o0,o0,o0,o0,o0,o0,o0,o0,o0,o0,o0,o0,o0,o0,o0,o0,o0,o0,o0,o0,o0,o0,o0] rfl (Hj rfl rp) (Bms 10 [o1,o1,o1,o1,o1,o1,o1,o1,o1,o1,o1,o0,o0,o0,o0,o0,o0,o0,o0,o0,o0,o0,o0,o0,o0,o0,o0,o0,o0,o0,o0,o0,o0,o0,o0,o0,o0,o0,o0,o0] rfl (Ay Water.f_ditch Bnh rfl rfl Auk (by decide) rfl rp) fun v16 r16=>Bms 11 [o1,o1,o1,o1,o1,o1,o1,o1,o1,o1,o1,o1,o0,o0,o0,o0,o0,o0,o0,o0,o0,o0,o0,o0,o0,o0,o0,o0,o0,o0,o0,o0,o0,o0,o0,o0,o0,o0,o0,o0] rfl (Ay DitchP.f_d Bnf rfl rfl Asi (by decide) rfl r16) fun v17 r17=>Bms 12 [o1,o1,o1,o1,o1,o1,o1,o1,o1,o1,o1,o1,o1,o0,o0,o0,o0,o0,o0,o0,o0,o0,o0,o0,o0,o0,o0,o0,o0,o0,o0,o0,o0,o0,o0,o0,o0,o0,o0,o0] rfl (Ay Ditch.f_restLong Bna rfl rfl ty3 (by decide) rfl r17) fun v18 r18=>?_)))
 have ⟨g19a,g19b⟩:=Brh r18
 refine Bmq 13 [o1,o1,o1,o1,o1,o1,o1,o1,o1,o1,o1,o1,o1,o1,o0,o0,o0,o0,o0,o0,o0,o0,o0,o0,o0,o0,o0,o0,o0,o0,o0,o0,o0,o0,o0,o0,o0,o0,o0,o0] rfl (Bc ty3 rfl r18) ?_
 have hm20:=Bfl (a:=(h.tdiv d.week)) (b:=d.restLong) (A:=2000000000) (B:=1000) (by omega) (by omega)
 refine Bmq 14 [o1,o1,o1,o1,o1,o1,o1,o1,o1,o1,o1,o1,o1,o1,o1,o0,o0,o0,o0,o0,o0,o0,o0,o0,o0,o0,o0,o0,o0,o0,o0,o0,o0,o0,o0,o0,o0,o0,o0,o0] rfl (Wq rfl rfl (z:=((h.tdiv d.week) * d.restLong)) wrR) (Bmq 15 [o1,o1,o1,o1,o1,o1,o1,o1,o1,o1,o1,o1,o1,o1,o1,o1,o0,o0,o0,o0,o0,o0,o0,o0,o0,o0,o0,o0,o0,o0,o0,o0,o0,o0,o0,o0,o0,o0,o0,o0] rfl (Ah (v:=(iV (h))) rfl) (Bmq 16 [o1,o1,o1,o1,o1,o1,o1,o1,o1,o1,o1,o1,o1,o1,o1,o1,o1,o0,o0,o0,o0,o0,o0,o0,o0,o0,o0,o0,o0,o0,o0,o0,o0,o0,o0,o0,o0,o0,o0,o0] rfl (Ah (v:=vp) rfl) (Bmq 17 [o1,o1,o1,o1,o1,o1,o1,o1,o1,o1,o1,o1,o1,o1,o1,o1,o1,o1,o0,o0,o0,o0,o0,o0,o0,o0,o0,o0,o0,o0,o0,o0,o0,o0,o0,o0,o0,o0,o0,o0] rfl (Hj rfl rp) (Bms 18 [o1,o1,o1,o1,o1,o1,o1,o1,o1,o1,o1,o1,o1,o1,o1,o1,o1,o1,o1,o0,o0,o0,o0,o0,o0,o0,o0,o0,o0,o0,o0,o0,o0,o0,o0,o0,o0,o0,o0,o0] rfl (Ay Water.f_ditch Bnh rfl rfl Auk (by decide) rfl rp) fun v21 r21=>Bms 19 [o1,o1,o1,o1,o1,o1,o1,o1,o1,o1,o1,o1,o1,o1,o1,o1,o1,o1,o1,o1,o0,o0,o0,o0,o0,o0,o0,o0,o0,o0,o0,o0,o0,o0,o0,o0,o0,o0,o0,o0] rfl (Ay DitchP.f_d Bnf rfl rfl Asi (by decide) rfl r21) fun v22 r22=>Bms 20 [o1,o1,o1,o1,o1,o1,o1,o1,o1,o1,o1,o1,o1,o1,o1,o1,o1,o1,o1,o1,o1,o0,o0,o0,o0,o0,o0,o0,o0,o0,o0,o0,o0,o0,o0,o0,o0,o0,o0,o0] rfl (Ay Ditch.f_week Bna rfl rfl ty3 (by decide) rfl r22) fun v23 r23=>?_))))
 have ⟨g24a,g24b⟩:=Brh r23
 refine Bmq 21 [o1,o1,o1,o1,o1,o1,o1,o1,o1,o1,o1,o1,o1,o1,o1,o1,o1,o1,o1,o1,o1,o1,o0,o0,o0,o0,o0,o0,o0,o0,o0,o0,o0,o0,o0,o0,o0,o0,o0,o0] rfl (Bc ty3 rfl r23) ?_
 have hr25:=Bdf (h:=h) (w:=d.week) (by omega) (by omega)
 refine Bmq 22 [o1,o1,o1,o1,o1,o1,o1,o1,o1,o1,o1,o1,o1,o1,o1,o1,o1,o1,o1,o1,o1,o1,o1,o0,o0,o0,o0,o0,o0,o0,o0,o0,o0,o0,o0,o0,o0,o0,o0,o0] rfl (Bdj (p:=h) (q:=d.week) rfl rfl (by omega) (z:=(h.tmod d.week)) rfl) (Bmq 23 [o1,o1,o1,o1,o1,o1,o1,o1,o1,o1,o1,o1,o1,o1,o1,o1,o1,o1,o1,o1,o1,o1,o1,o1,o0,o0,o0,o0,o0,o0,o0,o0,o0,o0,o0,o0,o0,o0,o0,o0] rfl (Ah (v:=vp) rfl) (Bmq 24 [o1,o1,o1,o1,o1,o1,o1,o1,o1,o1,o1,o1,o1,o1,o1,o1,o1,o1,o1,o1,o1,o1,o1,o1,o1,o0,o0,o0,o0,o0,o0,o0,o0,o0,o0,o0,o0,o0,o0,o0] rfl (Hj rfl rp) (Bms 25 [o1,o1,o1,o1,o1,o1,o1,o1,o1,o1,o1,o1,o1,o1,o1,o1,o1,o1,o1,o1,o1,o1,o1,o1,o1,o1,o0,o0,o0,o0,o0,o0,o0,o0,o0,o0,o0,o0,o0,o0] rfl (Ay Water.f_ditch Bnh rfl rfl Auk (by decide) rfl rp) fun v26 r26=>Bms 26 [o1,o1,o1,o1,o1,o1,o1,o1,o1,o1,o1,o1,o1,o1,o1,o1,o1,o1,o1,o1,o1,o1,o1,o1,o1,o1,o1,o0,o0,o0,o0,o0,o0,o0,o0,o0,o0,o0,o0,o0] rfl (Ay DitchP.f_d Bnf rfl rfl Asi (by decide) rfl r26) fun v27 r27=>Bms 27 [o1,o1,o1,o1,o1,o1,o1,o1,o1,o1,o1,o1,o1,o1,o1,o1,o1,o1,o1,o1,o1,o1,o1,o1,o1,o1,o1,o1,o0,o0,o0,o0,o0,o0,o0,o0,o0,o0,o0,o0] rfl (Ay Ditch.f_restFrom Bna rfl rfl ty3 (by decide) rfl r27) fun v28 r28=>?_)))
 have ⟨g29a,g29b⟩:=Brh r28
 refine Bmq 28 [o1,o1,o1,o1,o1,o1,o1,o1,o1,o1,o1,o1,o1,o1,o1,o1,o1,o1,o1,o1,o1,o1,o1,o1,o1,o1,o1,o1,o1,o0,o0,o0,o0,o0,o0,o0,o0,o0,o0,o0] rfl (Bc ty3 rfl r28) (Bmq 29 [o1,o1,o1,o1,o1,o1,o1,o1,o1,o1,o1,o1,o1,o1,o1,o1,o1,o1,o1,o1,o1,o1,o1,o1,o1,o1,o1,o1,o1,o1,o0,o0,o0,o0,o0,o0,o0,o0,o0,o0] rfl (Ou rfl rfl (z:=((h.tmod d.week) - d.restFrom)) (Bo (by rfl) (by omega) (by omega))) (Bmq 30 [o1,o1,o1,o1,o1,o1,o1,o1,o1,o1,o1,o1,o1,o1,o1,o1,o1,o1,o1,o1,o1,o1,o1,o1,o1,o1,o1,o1,o1,o1,o1,o0,o0,o0,o0,o0,o0,o0,o0,o0] rfl (Aqf (p:=((h.tmod d.week) - d.restFrom)) (q:=0) rfl rfl) (Bmr 31 [o1,o1,o1,o1,o1,o1,o1,o1,o1,o1,o1,o1,o1,o1,o1,o1,o1,o1,o1,o1,o1,o1,o1,o1,o1,o1,o1,o1,o1,o1,o1,o1,o0,o0,o0,o0,o0,o0,o0,o0] rfl (Ah (v:=vp) rfl) (Bmr 32 [o1,o1,o1,o1,o1,o1,o1,o1,o1,o1,o1,o1,o1,o1,o1,o1,o1,o1,o1,o1,o1,o1,o1,o1,o1,o1,o1,o1,o1,o1,o1,o1,o1,o0,o0,o0,o0,o0,o0,o0] rfl (Hj rfl rp) (Bmu 33 [o1,o1,o1,o1,o1,o1,o1,o1,o1,o1,o1,o1,o1,o1,o1,o1,o1,o1,o1,o1,o1,o1,o1,o1,o1,o1,o1,o1,o1,o1,o1,o1,o1,o1,o0,o0,o0,o0,o0,o0] rfl (Ay Water.f_ditch Bnh rfl rfl Auk (by decide) rfl rp) fun v30 r30=>Bmu 34 [o1,o1,o1,o1,o1,o1,o1,o1,o1,o1,o1,o1,o1,o1,o1,o1,o1,o1,o1,o1,o1,o1,o1,o1,o1,o1,o1,o1,o1,o1,o1,o1,o1,o1,o1,o0,o0,o0,o0,o0] rfl (Ay DitchP.f_d Bnf rfl rfl Asi (by decide) rfl r30) fun v31 r31=>Bmu 35 [o1,o1,o1,o1,o1,o1,o1,o1,o1,o1,o1,o1,o1,o1,o1,o1,o1,o1,o1,o1,o1,o1,o1,o1,o1,o1,o1,o1,o1,o1,o1,o1,o1,o1,o1,o1,o0,o0,o0,o0] rfl (Ay Ditch.f_restLong Bna rfl rfl ty3 (by decide) rfl r31) fun v32 r32=>?_)))))
 have ⟨g33a,g33b⟩:=Brh r32
 refine Bmr 36 [o1,o1,o1,o1,o1,o1,o1,o1,o1,o1,o1,o1,o1,o1,o1,o1,o1,o1,o1,o1,o1,o1,o1,o1,o1,o1,o1,o1,o1,o1,o1,o1,o1,o1,o1,o1,o1,o0,o0,o0] rfl (Bc ty3 rfl r32) (Bmr 37 [o1,o1,o1,o1,o1,o1,o1,o1,o1,o1,o1,o1,o1,o1,o1,o1,o1,o1,o1,o1,o1,o1,o1,o1,o1,o1,o1,o1,o1,o1,o1,o1,o1,o1,o1,o1,o1,o1,o0,o0] rfl (Ajx (p:=(max (((h.tmod d.week) - d.restFrom)) 0)) (q:=d.restLong) rfl rfl) (Bmr 38 [o1,o1,o1,o1,o1,o1,o1,o1,o1,o1,o1,o1,o1,o1,o1,o1,o1,o1,o1,o1,o1,o1,o1,o1,o1,o1,o1,o1,o1,o1,o1,o1,o1,o1,o1,o1,o1,o1,o1,o0] rfl (Br rfl rfl (z:=(((h.tdiv d.week) * d.restLong) + (min ((max (((h.tmod d.week) - d.restFrom)) 0)) d.restLong))) (Bo (by rfl) (by omega) (by omega))) (Bmr 39 [o1,o1,o1,o1,o1,o1,o1,o1,o1,o1,o1,o1,o1,o1,o1,o1,o1,o1,o1,o1,o1,o1,o1,o1,o1,o1,o1,o1,o1,o1,o1,o1,o1,o1,o1,o1,o1,o1,o1,o1] rfl (Cp (v:=(iV ((((h.tdiv d.week) * d.restLong) + (min ((max (((h.tmod d.week) - d.restFrom)) 0)) d.restLong))))) rfl) (Ec rfl (k10 _ _ _ _ ?_)))))
 refine Aq (hret _ _ _ ⟨rfl,rfl,eT (iV ((((h.tdiv d.week) * d.restLong) + (min ((max (((h.tmod d.week) - d.restFrom)) 0)) d.restLong)))) ?_⟩)
 rw [Ati,if_neg q8]
theorem Bew {d:Ditch} {r:Nat} {vp:Value} {a b:Int} (rp:At ρ vp (Avd d r)) (ok:DitchOk d) (ha:0 ≤ a∧a ≤ 2000000000) (hb:0 ≤ b∧b ≤ 2000000000):CallsH (CX mn X) 167 #[vp,(iV (a)),(iV (b))] ρ σ (rP ρ σ (iV (Aub d a b))):=by
 have okw:=ok.week
 have okf:=ok.restFrom
 have okl:=ok.restLong
 have okt:=ok.turns
 have okb:=ok.begin_
 have okn:=ok.nfeasts
 have hlo:=Atc ok
 have hra:=Axq ok ha.1
 have hrb:=Axq ok hb.1
 refine Bh (n:=21) (args:=[vp,(iV (a)),(iV (b))]) [6] Tryz.func167 rfl rfl rfl rfl fun Q hret hnor=>w_q rfl rfl fun K1 k1=>Bma (iV (0)) (Ary rfl rfl k1 fun K2 K3 k2 k3=>Bmb (iV (b)) (Bmb (iV (a)) (l_v (Uz rfl rfl) (l_k k3 (Up (t:=decide (b ≤ a)) rfl (fun b4=>?_) (fun b4=>?_))))))
 ·have q4:=of_decide_eq_true b4
  refine w_q rfl rfl fun K5 k5=>Bma (iV (0)) (l_k k5 (Aq (hret _ _ _ ⟨rfl,rfl,eT (iV (0)) ?_⟩)))
  rw [Aub,if_pos q4]
 have q4:=of_decide_eq_false b4
 refine Al (k2 _ _ _ _ ?_)
 refine w_q rfl rfl fun K6 k6=>Bmb (iV (b)) (Bmb (iV (a)) (l_v (Ou rfl rfl (z:=(b - a)) (Bo (by rfl) (by omega) (by omega))) (Bmb vp (Bmb (iV (b)) (Arv (Bm (vs:=[vp,(iV (b))]) (v:=(iV (Ati d b))) (Beu rp ok (by omega)) Tryz.func185 rfl rfl ⟨rfl,rfl,trivial⟩ ?_))))))
 refine l_v (Ou rfl rfl (z:=((b - a) - Ati d b)) (Bo (by rfl) (by omega) (by omega))) (Bmb vp (Bmb (iV (a)) (Arv (Bm (vs:=[vp,(iV (a))]) (v:=(iV (Ati d a))) (Beu rp ok (by omega)) Tryz.func185 rfl rfl ⟨rfl,rfl,trivial⟩ ?_))))
 refine l_v (Br rfl rfl (z:=(((b - a) - Ati d b) + Ati d a)) (Bo (by rfl) (by omega) (by omega))) (Bma (iV ((((b - a) - Ati d b) + Ati d a))) (l_k k6 (Aq (hret _ _ _ ⟨rfl,rfl,eT (iV ((((b - a) - Ati d b) + Ati d a))) ?_⟩))))
 rw [Aub,if_neg q4]
theorem Bcs {d:Ditch} {r:Nat} {vp:Value} {h:Int} (rp:At ρ vp (Avd d r)) (ok:DitchOk d) (hh:0 ≤ h∧h ≤ 1000000000):CallsH (CX mn X) 131 #[vp,(iV (h))] ρ σ (rP ρ σ (iV (Ash d h))):=by
 have okw:=ok.week
 have okf:=ok.restFrom
 have okl:=ok.restLong
 have okt:=ok.turns
 have okb:=ok.begin_
 have okn:=ok.nfeasts
 have hlo:=Atc ok
 refine Bh (n:=48) (args:=[vp,(iV (h))]) [4] Bqi rfl rfl rfl rfl fun Q hret hnor=>w_q rfl rfl fun K1 k1=>Bma (iV (0)) (Arx rfl rfl k1 fun K2 k2=>Bmb vp (Bmb vp (l_v (Hj rfl rp) (Arw (Ay Water.f_ditch Bnh rfl rfl Auk (by decide) rfl rp) fun v3 r3=>Arw (Ay DitchP.f_d Bnf rfl rfl Asi (by decide) rfl r3) fun v4 r4=>Arw (Ay Ditch.f_begin_ Bna rfl rfl ty3 (by decide) rfl r4) fun v5 r5=>?_))))
 have ⟨g6a,g6b⟩:=Brh r5
 refine l_v (Bc ty3 rfl r5) (Bmb (iV (h)) ?_)
 have hw7:=Axv ok (a:=d.begin_) (b:=h) (by omega)
 refine Arv (Bm (vs:=[vp,(iV (d.begin_)),(iV (h))]) (v:=(iV (Aub d d.begin_ h))) (Bew rp ok (by omega) (by omega)) Tryz.func167 rfl rfl ⟨rfl,rfl,rfl,trivial⟩ ?_)
 refine Bma (iV (Aub d d.begin_ h)) (Ary rfl rfl k2 fun K8 K9 k8 k9=>Bmb vp (l_v (Hj rfl rp) (Arw (Ay Water.f_ditch Bnh rfl rfl Auk (by decide) rfl rp) fun v10 r10=>Arw (Ay DitchP.f_d Bnf rfl rfl Asi (by decide) rfl r10) fun v11 r11=>Arw (Ay Ditch.f_feasts Bna rfl rfl Uo (by decide) rfl r11) fun v12 r12=>Arw (Ax Uo rfl r12) fun v13 r13=>?_)))
 have g14:=Bro r13
 refine l_v (Ci (el:=41) Bni rfl r13) (Bmb (iV (0)) (l_k k9 (Ao (Cc (fun mm ee dd ρ' σ'=>∃ (i:Nat) (n:Int),(d.feasts.length - i) = mm∧[] = dd∧ρ = ρ'∧σ = σ'∧ee 0 = vp∧ee 1 = (iV (h))∧ee 22 = v13∧ee 23 = (iV (((d.feasts.length:Nat):Int)))∧ee 5 = (iV (n))∧ee 24 = (iV ((i:Int)))∧(i ≤ d.feasts.length)∧(n = Aub d d.begin_ h - Asy d h (d.feasts.take i))∧(n ≤ 2000000000∧-2000000000 * (i:Int) ≤ n)∧True) (m:=_) ⟨0,(Aub d d.begin_ h),rfl,rfl,rfl,rfl,rfl,rfl,rfl,rfl,rfl,rfl,(Nat.zero_le _),(by simp [Asy]),(by omega),trivial⟩ ?_))))
 rintro m15 e15 _ _ _ ⟨i,n,rfl,rfl,rfl,rfl,h15_0,h15_1,h15_22,h15_23,h15_5,h15_24,p15_0,p15_1,p15_2,_⟩
 refine w_q rfl rfl fun K16 k16=>l_v (Da h15_24 h15_23) (Asa k16 fun K17 k17=>Up (t:=decide ((i:Int) < ((d.feasts.length:Nat):Int))) rfl (fun b18=>?_) (fun b18=>?_))
 ·have q18:=of_decide_eq_true b18
  refine Al (k17 _ _ _ _ ?_)
  refine Ai fun K19 k19=>Ao (w_q rfl rfl fun K20 k20=>?_)
  obtain ⟨a22,ha22⟩:=Ed (xs:=d.feasts) (i:=i) (by omega)
  have ffa22:=(ok.feast _ _ ha22).1
  have fta22:=Azr (h:=h) ha22
  refine Arw (Ch i Bni Mx h15_22 r13 (q:=(i:Int)) h15_24 rfl ha22) fun v21 r21=>Arw (Ax Mx rfl r21) fun v23 r23=>Arv (Ct Aak fun k24=>?_)
  refine Cx rfl (Dv (v:=v23) (a:=a22) (c:=Arm) Mx rfl rfl r23 rfl ?_)
  refine Bb (a:=a22) r23 fun ρ25 l25 r25=>?_
  replace rp:=At.mono l25 rp
  refine l_k k20 (Bmw (Bmq 0 Apd rfl (Ah (v:=(iV (n))) h15_5) (Bmq 1 Ape rfl (Ah (v:=vp) h15_0) (Bmq 2 Apf rfl (Ah (v:=vp) h15_0) (Bmq 3 Bko rfl (Hj rfl rp) (Bms 4 Bkp rfl (Ay Water.f_ditch Bnh rfl rfl Auk (by decide) rfl rp) fun v26 r26=>Bms 5 Bkq rfl (Ay DitchP.f_d Bnf rfl rfl Asi (by decide) rfl r26) fun v27 r27=>Bms 6 Bkr rfl (Ay Ditch.f_begin_ Bna rfl rfl ty3 (by decide) rfl r27) fun v28 r28=>?_))))))
  have ⟨g29a,g29b⟩:=Brh r28
  refine Bmq 7 Bks rfl (Bc ty3 rfl r28) (Bms 8 Bkt rfl (Ay Span.f_low Bnj rfl rfl ty3 (by decide) rfl r25) fun v30 r30=>?_)
  have ⟨g31a,g31b⟩:=Brh r30
  refine Bmq 9 Bku rfl (Bc ty3 rfl r30) (Bmq 10 Bkv rfl (Aqf (p:=d.begin_) (q:=a22.low) rfl rfl) (Bmq 11 Bkw rfl (Ah (v:=(iV (h))) h15_1) (Bmu 12 Bkx rfl (Ay Span.f_high Bnj rfl rfl ty3 (by decide) rfl r25) fun v32 r32=>?_)))
  have ⟨g33a,g33b⟩:=Brh r32
  refine Bmr 13 Bky rfl (Bc ty3 rfl r32) (Bmr 14 Bkz rfl (Br rfl rfl (z:=(a22.high + 1)) (Bo (by rfl) (by omega) (by omega))) (Bmr 15 Bla rfl (Ajx (p:=h) (q:=(a22.high + 1)) rfl rfl) ?_))
  have hw34:=Axv ok (a:=(max d.begin_ a22.low)) (b:=(min h ((a22.high + 1)))) (by omega)
  refine Bmt 16 Blb rfl (Bm (vs:=[vp,(iV ((max d.begin_ a22.low))),(iV ((min h ((a22.high + 1)))))]) (v:=(iV (Aub d ((max d.begin_ a22.low)) ((min h ((a22.high + 1))))))) (Bew rp ok (by omega) (by omega)) Tryz.func167 rfl rfl ⟨rfl,rfl,rfl,trivial⟩ ⟨Brm,?_⟩)
  refine Bmr 17 Blc rfl (Ou rfl rfl (z:=(n - Aub d ((max d.begin_ a22.low)) ((min h ((a22.high + 1)))))) (Bo (by rfl) (by omega) (by omega))) (Bmr 18 Bgd rfl (Cp (v:=(iV ((n - Aub d ((max d.begin_ a22.low)) ((min h ((a22.high + 1)))))))) rfl) (Ec rfl (k19 _ _ _ _ ?_)))
  refine Ag rfl rfl (l_v (Br h15_24 rfl (z:=(((i + 1):Nat):Int)) wrE) (Bmb (iV ((((i + 1):Nat):Int))) (Bj (Brj l25) (Ac ?_))))
  refine ⟨_,?_,((i + 1)),((n - Aub d ((max d.begin_ a22.low)) ((min h ((a22.high + 1)))))),rfl,rfl,rfl,rfl,h15_0,h15_1,h15_22,h15_23,rfl,rfl,(by omega),(by rw [fta22,Auv]; omega),(by constructor <;> push_cast <;> omega),trivial⟩
  omega
 have q18:=of_decide_eq_false b18
 refine Bx (k8 _ _ _ _ ?_)
 refine w_q rfl rfl fun K35 k35=>l_v (Ah (v:=(iV (n))) h15_5) (Bma (iV (n)) (l_k k35 (Aq (hret _ _ _ ⟨rfl,rfl,eT (iV (n)) ?_⟩))))
 rw [p15_1,List.take_of_length_le (by omega)]; rfl
theorem Azm {d:Ditch} {r:Nat} {vp:Value} {vl:Value} {l:List Int} {h k:Int} (rp:At ρ vp (Avd d r)) (ok:DitchOk d) (rl:Val ρ vl l) (hl:LOk d l) (hk:0 ≤ k∧k ≤ 2000):CallsH (CX mn X) 184 #[vp,vl,(iV (h)),(iV (k))] ρ σ (rP ρ σ (iV (Ass d l h k))):=by
 have okw:=ok.week
 have okf:=ok.restFrom
 have okl:=ok.restLong
 have okt:=ok.turns
 have okb:=ok.begin_
 have okn:=ok.nfeasts
 have hlo:=Atc ok
 have hll:=hl.1
 refine Bh (n:=44) (args:=[vp,vl,(iV (h)),(iV (k))]) [8] Bqk rfl rfl rfl rfl fun Q hret hnor=>w_q rfl rfl fun K1 k1=>Bma (iV (0)) (Arx rfl rfl k1 fun K2 k2=>Bma (iV (0)) (Bma (iV (0)) (Ary rfl rfl k2 fun K3 K4 k3 k4=>Bmb vl ?_)))
 have g5:=Bro rl
 refine l_v (Ci (el:=3) Bnb rfl rl) (Bmb (iV (0)) (l_k k4 (Ao (Cc (fun mm ee dd ρ' σ'=>∃ (i:Nat) (n:Int) (f:Int),(l.length - i) = mm∧[] = dd∧ρ = ρ'∧σ = σ'∧ee 0 = vp∧ee 2 = (iV (h))∧ee 3 = (iV (k))∧ee 13 = vl∧ee 14 = (iV (((l.length:Nat):Int)))∧ee 9 = (iV (n))∧ee 10 = (iV (f))∧ee 15 = (iV ((i:Int)))∧(i ≤ l.length)∧(n = Aua d l h k i)∧(f = Atv d i)∧True) (m:=_) ⟨0,0,0,rfl,rfl,rfl,rfl,rfl,rfl,rfl,rfl,rfl,rfl,rfl,rfl,(Nat.zero_le _),(by simp [Aua,Ata]),endI_0.symm,trivial⟩ ?_))))
 rintro m6 e6 _ _ _ ⟨i,n,f,rfl,rfl,rfl,rfl,h6_0,h6_2,h6_3,h6_13,h6_14,h6_9,h6_10,h6_15,p6_0,p6_1,p6_2,_⟩
 refine w_q rfl rfl fun K7 k7=>l_v (Da h6_15 h6_14) (Asa k7 fun K8 k8=>Up (t:=decide ((i:Int) < ((l.length:Nat):Int))) rfl (fun b9=>?_) (fun b9=>?_))
 ·have q9:=of_decide_eq_true b9
  refine Al (k8 _ _ _ _ ?_)
  refine Ai fun K10 k10=>Ao (w_q rfl rfl fun K11 k11=>l_v (Ah (v:=(iV ((i:Int)))) h6_15) ?_)
  obtain ⟨a13,ha13⟩:=Ed (xs:=l) (i:=i) (by omega)
  have pba13:=Avl ok (l:=l) (h:=h) (k:=k) (m:=i) (by omega)
  have wba13:=Bdi ok (k:=k) (i:=i) (by omega)
  have eba13:=Atw ok (i:=i) (by omega)
  have eca13:=Atw ok (i:=i + 1) (by omega)
  refine Arw (Ch i Bnb ty3 h6_13 rl (q:=(i:Int)) h6_15 rfl ha13) fun v12 r12=>?_
  have ⟨g14a,g14b⟩:=Brh r12
  refine l_v (Bc ty3 rfl r12) (Bma (iV ((i:Int))) (Bma (iV (a13)) (Ary rfl rfl k11 fun K15 K16 k15 k16=>Bmb (iV (a13)) (l_v (Ah (v:=(iV (h))) h6_2) (l_v (Ek rfl rfl) (l_k k16 (Up (t:=a13 == h) rfl (fun b17=>?_) (fun b17=>?_))))))))
  ·have q17:=Jr b17
   refine Ag rfl rfl (l_v (Ah (v:=(iV (n))) h6_9) (l_v (Ah (v:=(iV (k))) h6_3) (l_v (Ah (v:=vp) h6_0) (Bmb (iV ((i:Int))) (l_v (Hj rfl rp) (Arw (Ay Water.f_ends Bnh rfl rfl Bcf (by decide) rfl rp) fun v18 r18=>Arw (Avs (i) Bpt ⟨_,Ab Bnc,rfl⟩ rfl r18 rfl rfl (by omega) (Azp ok (by omega))) fun v19 r19=>?_))))))
   have ⟨g20a,g20b⟩:=Brh r19
   refine l_v (Bc ty3 rfl r19) (l_v (Ajx (p:=k) (q:=(Atv d (i + 1))) rfl rfl) (l_v (Ah (v:=(iV (f))) h6_10) (l_v (Ou rfl rfl (z:=((min k ((Atv d (i + 1)))) - f)) (Bo (by rfl) (by omega) (by omega))) (l_v (Aqf (p:=0) (q:=((min k ((Atv d (i + 1)))) - f)) rfl rfl) (l_v (Br rfl rfl (z:=(n + (max 0 (((min k ((Atv d (i + 1)))) - f))))) (Bo (by rfl) (by omega) (by omega))) (Bma (iV ((n + (max 0 (((min k ((Atv d (i + 1)))) - f)))))) (l_k k15 (Ag rfl rfl (l_v (Ah (v:=vp) h6_0) (Bmb (iV ((i:Int))) (l_v (Hj rfl rp) (Arw (Ay Water.f_ends Bnh rfl rfl Bcf (by decide) rfl rp) fun v21 r21=>Arw (Avs (i) Bpt ⟨_,Ab Bnc,rfl⟩ rfl r21 rfl rfl (by omega) (Azp ok (by omega))) fun v22 r22=>?_))))))))))))
   have ⟨g23a,g23b⟩:=Brh r22
   refine l_v (Bc ty3 rfl r22) (Bma (iV ((Atv d (i + 1)))) (l_k k10 (Ag rfl rfl (l_v (Br h6_15 rfl (z:=(((i + 1):Nat):Int)) wrE) (Bmb (iV ((((i + 1):Nat):Int))) (Ac ?_))))))
   refine ⟨_,?_,((i + 1)),((n + (max 0 (((min k ((Atv d (i + 1)))) - f))))),((Atv d (i + 1))),rfl,rfl,rfl,rfl,h6_0,h6_2,h6_3,h6_13,h6_14,rfl,rfl,rfl,(by omega),(by rw [show Aua d l h k (i + 1) = Aua d l h k i + (if l[i]? = some h then Aue d k i else 0) from rfl,ha13,if_pos (congrArg some q17)]; unfold Aue; omega),rfl,trivial⟩
   omega
  have q17:=Jq b17
  refine Al (k15 _ _ _ _ ?_)
  refine Ag rfl rfl (l_v (Ah (v:=vp) h6_0) (Bmb (iV ((i:Int))) (l_v (Hj rfl rp) (Arw (Ay Water.f_ends Bnh rfl rfl Bcf (by decide) rfl rp) fun v24 r24=>Arw (Avs (i) Bpt ⟨_,Ab Bnc,rfl⟩ rfl r24 rfl rfl (by omega) (Azp ok (by omega))) fun v25 r25=>?_))))
  have ⟨g26a,g26b⟩:=Brh r25
  refine l_v (Bc ty3 rfl r25) (Bma (iV ((Atv d (i + 1)))) (l_k k10 (Ag rfl rfl (l_v (Br h6_15 rfl (z:=(((i + 1):Nat):Int)) wrE) (Bmb (iV ((((i + 1):Nat):Int))) (Ac ?_))))))
  refine ⟨_,?_,((i + 1)),(n),((Atv d (i + 1))),rfl,rfl,rfl,rfl,h6_0,h6_2,h6_3,h6_13,h6_14,h6_9,rfl,rfl,(by omega),(by rw [show Aua d l h k (i + 1) = Aua d l h k i + (if l[i]? = some h then Aue d k i else 0) from rfl,ha13,if_neg (fun hc=>q17 (Option.some.inj hc))]; omega),rfl,trivial⟩
  omega
 have q9:=of_decide_eq_false b9
 refine Bx (k3 _ _ _ _ ?_)
 refine w_q rfl rfl fun K27 k27=>l_v (Ah (v:=(iV (n))) h6_9) (Bma (iV (n)) (l_k k27 (Aq (hret _ _ _ ⟨rfl,rfl,eT (iV (n)) ?_⟩))))
 rw [p6_1,show i = l.length by omega]; rfl
theorem Big {d:Ditch} {r:Nat} {vp:Value} {h n:Int} (rp:At ρ vp (Avd d r)) (ok:DitchOk d) (hO:OthR ρ r (Awx d)) (hn:0 ≤ n∧n ≤ 1000000000):CallsH (CX mn X) 162 #[vp,(iV (h)),(iV (n))] ρ σ (rP ρ σ (iV (Aui d h n))):=by
 have okw:=ok.week
 have okf:=ok.restFrom
 have okl:=ok.restLong
 have okt:=ok.turns
 have okb:=ok.begin_
 have okn:=ok.nfeasts
 have hlo:=Atc ok
 have hbb:=Axe ok (h:=h) hn
 have hpu:=Atn ok (Asx ok) (h:=h) (k:=n.tmod (Asg d))
 have hbI:0 ≤ Avw d h n∧Avw d h n ≤ 2000000000000:=by unfold Avw; omega
 refine Bh (n:=85) (args:=[vp,(iV (h)),(iV (n))]) [6] Tryz.func162 rfl rfl rfl rfl fun Q hret hnor=>w_q rfl rfl fun K1 k1=>Bma (iV (0)) (Asa k1 fun K2 k2=>Bmw (Bmq 0 [o1,o0,o0,o0,o0,o0,o0,o0,o0,o0,o0,o0,o0,o0,o0,o0,o0,o0,o0,o0,o0,o0,o0,o0,o0,o0,o0,o0,o0,o0,o0,o0,o0] rfl (Ah (v:=(iV (n))) rfl) (Bmq 1 [o1,o1,o0,o0,o0,o0,o0,o0,o0,o0,o0,o0,o0,o0,o0,o0,o0,o0,o0,o0,o0,o0,o0,o0,o0,o0,o0,o0,o0,o0,o0,o0,o0] rfl (Ah (v:=vp) rfl) (Bmq 2 [o1,o1,o1,o0,o0,o0,o0,o0,o0,o0,o0,o0,o0,o0,o0,o0,o0,o0,o0,o0,o0,o0,o0,o0,o0,o0,o0,o0,o0,o0,o0,o0,o0] rfl (Hj rfl rp) (Bms 3 [o1,o1,o1,o1,o0,o0,o0,o0,o0,o0,o0,o0,o0,o0,o0,o0,o0,o0,o0,o0,o0,o0,o0,o0,o0,o0,o0,o0,o0,o0,o0,o0,o0] rfl (Ay Water.f_long Bnh rfl rfl ty3 (by decide) rfl rp) fun v3 r3=>?_)))))
 have ⟨g4a,g4b⟩:=Brh r3
 refine Bmq 4 [o1,o1,o1,o1,o1,o0,o0,o0,o0,o0,o0,o0,o0,o0,o0,o0,o0,o0,o0,o0,o0,o0,o0,o0,o0,o0,o0,o0,o0,o0,o0,o0,o0] rfl (Bc ty3 rfl r3) ?_
 have hq5:=Bde (h:=n) (w:=(Asg d)) (by omega) (by omega)
 refine Bmq 5 [o1,o1,o1,o1,o1,o1,o0,o0,o0,o0,o0,o0,o0,o0,o0,o0,o0,o0,o0,o0,o0,o0,o0,o0,o0,o0,o0,o0,o0,o0,o0,o0,o0] rfl (Bik (p:=n) (q:=(Asg d)) rfl rfl (by omega) (z:=(n.tdiv ((Asg d)))) wrR) (Bmq 6 [o1,o1,o1,o1,o1,o1,o1,o0,o0,o0,o0,o0,o0,o0,o0,o0,o0,o0,o0,o0,o0,o0,o0,o0,o0,o0,o0,o0,o0,o0,o0,o0,o0] rfl (Ah (v:=vp) rfl) (Bmq 7 [o1,o1,o1,o1,o1,o1,o1,o1,o0,o0,o0,o0,o0,o0,o0,o0,o0,o0,o0,o0,o0,o0,o0,o0,o0,o0,o0,o0,o0,o0,o0,o0,o0] rfl (Ah (v:=vp) rfl) (Bmq 8 [o1,o1,o1,o1,o1,o1,o1,o1,o1,o0,o0,o0,o0,o0,o0,o0,o0,o0,o0,o0,o0,o0,o0,o0,o0,o0,o0,o0,o0,o0,o0,o0,o0] rfl (Hj rfl rp) (Bms 9 [o1,o1,o1,o1,o1,o1,o1,o1,o1,o1,o0,o0,o0,o0,o0,o0,o0,o0,o0,o0,o0,o0,o0,o0,o0,o0,o0,o0,o0,o0,o0,o0,o0] rfl (Ay Water.f_usual Bnh rfl rfl Vh (by decide) rfl rp) fun v6 r6=>Bms 10 [o1,o1,o1,o1,o1,o1,o1,o1,o1,o1,o1,o0,o0,o0,o0,o0,o0,o0,o0,o0,o0,o0,o0,o0,o0,o0,o0,o0,o0,o0,o0,o0,o0] rfl (Ax Vh rfl r6) fun v7 r7=>Bmq 11 [o1,o1,o1,o1,o1,o1,o1,o1,o1,o1,o1,o1,o0,o0,o0,o0,o0,o0,o0,o0,o0,o0,o0,o0,o0,o0,o0,o0,o0,o0,o0,o0,o0] rfl (Ah (v:=(iV (h))) rfl) (Bmq 12 [o1,o1,o1,o1,o1,o1,o1,o1,o1,o1,o1,o1,o1,o0,o0,o0,o0,o0,o0,o0,o0,o0,o0,o0,o0,o0,o0,o0,o0,o0,o0,o0,o0] rfl (Ah (v:=vp) rfl) (Bmq 13 [o1,o1,o1,o1,o1,o1,o1,o1,o1,o1,o1,o1,o1,o1,o0,o0,o0,o0,o0,o0,o0,o0,o0,o0,o0,o0,o0,o0,o0,o0,o0,o0,o0] rfl (Hj rfl rp) (Bms 14 [o1,o1,o1,o1,o1,o1,o1,o1,o1,o1,o1,o1,o1,o1,o1,o0,o0,o0,o0,o0,o0,o0,o0,o0,o0,o0,o0,o0,o0,o0,o0,o0,o0] rfl (Ay Water.f_long Bnh rfl rfl ty3 (by decide) rfl rp) fun v8 r8=>?_)))))))
 have ⟨g9a,g9b⟩:=Brh r8
 refine Bmq 15 [o1,o1,o1,o1,o1,o1,o1,o1,o1,o1,o1,o1,o1,o1,o1,o1,o0,o0,o0,o0,o0,o0,o0,o0,o0,o0,o0,o0,o0,o0,o0,o0,o0] rfl (Bc ty3 rfl r8) (Bmq 18 [o1,o1,o1,o1,o1,o1,o1,o1,o1,o1,o1,o1,o1,o1,o1,o1,o0,o0,o1,o0,o0,o0,o0,o0,o0,o0,o0,o0,o0,o0,o0,o0,o0] rfl (Ah (v:=vp) rfl) (Bmq 19 [o1,o1,o1,o1,o1,o1,o1,o1,o1,o1,o1,o1,o1,o1,o1,o1,o0,o0,o1,o1,o0,o0,o0,o0,o0,o0,o0,o0,o0,o0,o0,o0,o0] rfl (Ah (v:=vp) rfl) (Bmq 20 [o1,o1,o1,o1,o1,o1,o1,o1,o1,o1,o1,o1,o1,o1,o1,o1,o0,o0,o1,o1,o1,o0,o0,o0,o0,o0,o0,o0,o0,o0,o0,o0,o0] rfl (Hj rfl rp) (Bms 21 [o1,o1,o1,o1,o1,o1,o1,o1,o1,o1,o1,o1,o1,o1,o1,o1,o0,o0,o1,o1,o1,o1,o0,o0,o0,o0,o0,o0,o0,o0,o0,o0,o0] rfl (Ay Water.f_usual Bnh rfl rfl Vh (by decide) rfl rp) fun v10 r10=>Bms 22 [o1,o1,o1,o1,o1,o1,o1,o1,o1,o1,o1,o1,o1,o1,o1,o1,o0,o0,o1,o1,o1,o1,o1,o0,o0,o0,o0,o0,o0,o0,o0,o0,o0] rfl (Ax Vh rfl r10) fun v11 r11=>Bmq 23 [o1,o1,o1,o1,o1,o1,o1,o1,o1,o1,o1,o1,o1,o1,o1,o1,o0,o0,o1,o1,o1,o1,o1,o1,o0,o0,o0,o0,o0,o0,o0,o0,o0] rfl (Ah (v:=(iV (h))) rfl) (Bmq 24 [o1,o1,o1,o1,o1,o1,o1,o1,o1,o1,o1,o1,o1,o1,o1,o1,o0,o0,o1,o1,o1,o1,o1,o1,o1,o0,o0,o0,o0,o0,o0,o0,o0] rfl (Ah (v:=(iV (n))) rfl) (Bmq 25 [o1,o1,o1,o1,o1,o1,o1,o1,o1,o1,o1,o1,o1,o1,o1,o1,o0,o0,o1,o1,o1,o1,o1,o1,o1,o1,o0,o0,o0,o0,o0,o0,o0] rfl (Ah (v:=vp) rfl) (Bmq 26 [o1,o1,o1,o1,o1,o1,o1,o1,o1,o1,o1,o1,o1,o1,o1,o1,o0,o0,o1,o1,o1,o1,o1,o1,o1,o1,o1,o0,o0,o0,o0,o0,o0] rfl (Hj rfl rp) (Bms 27 [o1,o1,o1,o1,o1,o1,o1,o1,o1,o1,o1,o1,o1,o1,o1,o1,o0,o0,o1,o1,o1,o1,o1,o1,o1,o1,o1,o1,o0,o0,o0,o0,o0] rfl (Ay Water.f_long Bnh rfl rfl ty3 (by decide) rfl rp) fun v12 r12=>?_))))))))
 have ⟨g13a,g13b⟩:=Brh r12
 refine Bmq 28 [o1,o1,o1,o1,o1,o1,o1,o1,o1,o1,o1,o1,o1,o1,o1,o1,o0,o0,o1,o1,o1,o1,o1,o1,o1,o1,o1,o1,o1,o0,o0,o0,o0] rfl (Bc ty3 rfl r12) ?_
 have hr14:=Bdf (h:=n) (w:=(Asg d)) (by omega) (by omega)
 refine Bmq 29 [o1,o1,o1,o1,o1,o1,o1,o1,o1,o1,o1,o1,o1,o1,o1,o1,o0,o0,o1,o1,o1,o1,o1,o1,o1,o1,o1,o1,o1,o1,o0,o0,o0] rfl (Bdj (p:=n) (q:=(Asg d)) rfl rfl (by omega) (z:=(n.tmod ((Asg d)))) rfl) ?_
 have hp15:=Atn ok (Asx ok) (h:=h) (k:=(Asg d))
 refine Bmt 16 [o1,o1,o1,o1,o1,o1,o1,o1,o1,o1,o1,o1,o1,o1,o1,o1,o1,o0,o1,o1,o1,o1,o1,o1,o1,o1,o1,o1,o1,o1,o0,o0,o0] rfl (Bm (vs:=[vp,v7,(iV (h)),(iV ((Asg d)))]) (v:=(iV (Ass d ((Asj d)) h ((Asg d))))) (Azm rp ok r7 (Asx ok) (by omega)) Bqk rfl rfl ⟨rfl,rfl,rfl,rfl,trivial⟩ ⟨Brm,?_⟩)
 refine Bmq 17 [o1,o1,o1,o1,o1,o1,o1,o1,o1,o1,o1,o1,o1,o1,o1,o1,o1,o1,o1,o1,o1,o1,o1,o1,o1,o1,o1,o1,o1,o1,o0,o0,o0] rfl (Wq rfl rfl (z:=((n.tdiv ((Asg d))) * Ass d ((Asj d)) h ((Asg d)))) wrR) ?_
 have hp16:=Atn ok (Asx ok) (h:=h) (k:=(n.tmod ((Asg d))))
 refine Bmt 30 [o1,o1,o1,o1,o1,o1,o1,o1,o1,o1,o1,o1,o1,o1,o1,o1,o1,o1,o1,o1,o1,o1,o1,o1,o1,o1,o1,o1,o1,o1,o1,o0,o0] rfl (Bm (vs:=[vp,v11,(iV (h)),(iV ((n.tmod ((Asg d)))))]) (v:=(iV (Ass d ((Asj d)) h ((n.tmod ((Asg d))))))) (Azm rp ok r11 (Asx ok) (by omega)) Bqk rfl rfl ⟨rfl,rfl,rfl,rfl,trivial⟩ ⟨Brm,?_⟩)
 refine Bmr 31 [o1,o1,o1,o1,o1,o1,o1,o1,o1,o1,o1,o1,o1,o1,o1,o1,o1,o1,o1,o1,o1,o1,o1,o1,o1,o1,o1,o1,o1,o1,o1,o1,o0] rfl (Br rfl rfl (z:=(((n.tdiv ((Asg d))) * Ass d ((Asj d)) h ((Asg d))) + Ass d ((Asj d)) h ((n.tmod ((Asg d)))))) (Bo (by rfl) (by omega) (by omega))) (Bmr 32 [o1,o1,o1,o1,o1,o1,o1,o1,o1,o1,o1,o1,o1,o1,o1,o1,o1,o1,o1,o1,o1,o1,o1,o1,o1,o1,o1,o1,o1,o1,o1,o1,o1] rfl (Cp (v:=(iV ((((n.tdiv ((Asg d))) * Ass d ((Asj d)) h ((Asg d))) + Ass d ((Asj d)) h ((n.tmod ((Asg d)))))))) rfl) (Ec rfl (k2 _ _ _ _ ?_)))
 refine Asb rfl rfl fun K17 K18 k17 k18=>Bmb vp (l_v (Hj rfl rp) (Arw (Ay Water.f_others Bnh rfl rfl Bfx (by decide) rfl rp) fun v19 r19=>l_v (Va Bfx rfl r19) ?_))
 obtain ⟨eA21,cA21,lA21,hm21,hM21,hL21,hv21⟩:=id hO
 refine Arv (Bga Bor rfl (.inl hm21) fun k21=>?_)
 refine l_k k18 (Ao (Cc (fun mm ee dd ρ' σ'=>∃ (s:Int) (dn:List OEnt),(lA21.length - dn.length) = mm∧[] = dd∧ρ = ρ'∧((k21,Res.obj (Awi r cA21 dn)) :: σ) = σ'∧ee 0 = vp∧ee 1 = (iV (h))∧ee 2 = (iV (n))∧ee 47 = (.pointer (some ⟨k21,0,none⟩))∧ee 7 = (iV (s))∧(s = Avw d h n + Atd d h n (dn.map OEnt.p))∧(Avx lA21 dn)∧True) (m:=_) ⟨(Avw d h n),[],rfl,rfl,rfl,rfl,rfl,rfl,rfl,rfl,rfl,(by simp [Atd]),Bce,trivial⟩ ?_))
 rintro m22 e22 _ _ _ ⟨s,dn,rfl,rfl,rfl,rfl,h22_0,h22_1,h22_2,h22_47,h22_7,p22_0,p22_1,_⟩
 have hsh22:=Bas ok (h:=h) (n:=n) hL21 p22_1
 have hsl22:=Avb p22_1
 refine w_q rfl rfl fun K23 k23=>Arv (Bib (i:=0) hM21 p22_1.1 h22_47 rfl (.inl hm21) (fun hend24=>?_) (fun z24 hz24 hn24=>?_))
 ·refine l_v (Bk (vs:=#[(.bool (false))]) rfl (v:=(.bool (false))) rfl) (Asa k23 fun K25 k25=>Cg rfl rfl (Bx (k17 _ _ _ _ ?_)))
  refine w_q rfl rfl fun K26 k26=>l_v (Ah (v:=(iV (s))) h22_7) (Bma (iV (s)) (l_k k26 (Aj Bri (Aq (hret _ _ _ ⟨rfl,rfl,eT (iV (s)) ?_⟩)))))
  rw [p22_0,Aui,hL21,Bcb (Baz hM21 p22_1 hend24)]
 have r24:=hv21 _ hz24
 have he24:=(Bbt ok hL21 hz24).2
 refine l_v (Bk (vs:=#[(.bool (true)),(iV (z24.c)),z24.v]) rfl (v:=(.bool (true))) rfl) (Asa k23 fun K27 k27=>Co rfl rfl (Al (k27 _ _ _ _ ?_)))
 refine Ao (w_q rfl rfl fun K28 k28=>Arv (Bfz (i:=0) hM21 hz24 h22_47 rfl (.inl hm21) ?_))
 refine l_v (Bk (vs:=#[(iV (z24.c)),z24.v]) rfl (v:=(iV (z24.c))) rfl) (l_v (Bk (vs:=#[(iV (z24.c)),z24.v]) rfl (v:=z24.v) rfl) (Bma (iV (z24.c)) (Bma z24.v (Asa k28 fun K29 k29=>Bmw (Bmq 0 [o1,o0,o0,o0,o0,o0,o0,o0,o0,o0,o0,o0,o0,o0] rfl (Ah (v:=vp) h22_0) (Bmq 1 [o1,o1,o0,o0,o0,o0,o0,o0,o0,o0,o0,o0,o0,o0] rfl (Hj rfl rp) (Bms 2 [o1,o1,o1,o0,o0,o0,o0,o0,o0,o0,o0,o0,o0,o0] rfl (Ay Water.f_long Bnh rfl rfl ty3 (by decide) rfl rp) fun v30 r30=>?_)))))))
 have ⟨g31a,g31b⟩:=Brh r30
 refine Bmq 3 [o1,o1,o1,o1,o0,o0,o0,o0,o0,o0,o0,o0,o0,o0] rfl (Bc ty3 rfl r30) (Bmq 4 [o1,o1,o1,o1,o1,o0,o0,o0,o0,o0,o0,o0,o0,o0] rfl (Ah (v:=(iV (n))) h22_2) (Bmq 5 [o1,o1,o1,o1,o1,o1,o0,o0,o0,o0,o0,o0,o0,o0] rfl (Ah (v:=(iV (z24.c))) rfl) (Bmr 6 [o1,o1,o1,o1,o1,o1,o1,o0,o0,o0,o0,o0,o0,o0] rfl (Ah (v:=vp) h22_0) (Bmr 7 [o1,o1,o1,o1,o1,o1,o1,o1,o0,o0,o0,o0,o0,o0] rfl (Hj rfl rp) (Bmu 8 [o1,o1,o1,o1,o1,o1,o1,o1,o1,o0,o0,o0,o0,o0] rfl (Ay Water.f_long Bnh rfl rfl ty3 (by decide) rfl rp) fun v32 r32=>?_)))))
 have ⟨g33a,g33b⟩:=Brh r32
 refine Bmr 9 [o1,o1,o1,o1,o1,o1,o1,o1,o1,o1,o0,o0,o0,o0] rfl (Bc ty3 rfl r32) ?_
 have hm34:=Bfl (a:=z24.c) (b:=(Asg d)) (A:=999999999) (B:=1200) (by omega) (by omega)
 refine Bmr 10 [o1,o1,o1,o1,o1,o1,o1,o1,o1,o1,o1,o0,o0,o0] rfl (Wq rfl rfl (z:=(z24.c * (Asg d))) wrR) (Bmr 11 [o1,o1,o1,o1,o1,o1,o1,o1,o1,o1,o1,o1,o0,o0] rfl (Ou rfl rfl (z:=(n - (z24.c * (Asg d)))) (Bo (by rfl) (by omega) (by omega))) (Bmr 12 [o1,o1,o1,o1,o1,o1,o1,o1,o1,o1,o1,o1,o1,o0] rfl (Ajx (p:=(Asg d)) (q:=(n - (z24.c * (Asg d)))) rfl rfl) (Bmr 13 [o1,o1,o1,o1,o1,o1,o1,o1,o1,o1,o1,o1,o1,o1] rfl (Cp (v:=(iV ((min ((Asg d)) ((n - (z24.c * (Asg d)))))))) rfl) (Ec rfl (k29 _ _ _ _ ?_)))))
 refine w_q rfl rfl fun K35 k35=>Bmb (iV ((min ((Asg d)) ((n - (z24.c * (Asg d))))))) (l_v (Gl rfl rfl) (l_k k35 (Up (t:=decide ((min ((Asg d)) ((n - (z24.c * (Asg d))))) > 0)) rfl (fun b36=>?_) (fun b36=>?_))))
 ·have q36:=of_decide_eq_true b36
  refine Bmw (Bmq 0 Bjs rfl (Ah (v:=(iV (s))) h22_7) (Bmq 1 Bjt rfl (Ah (v:=vp) h22_0) (Bmq 2 Bju rfl (Ah (v:=z24.v) rfl) (Bmq 3 Bjv rfl (Ah (v:=(iV (h))) h22_1) (Bmq 4 Bjw rfl (Ah (v:=(iV ((min ((Asg d)) ((n - (z24.c * (Asg d)))))))) rfl) (Bmq 6 [o1,o1,o1,o1,o1,o0,o1,o0,o0,o0,o0,o0,o0,o0,o0,o0,o0] rfl (Ah (v:=vp) h22_0) (Bmq 7 [o1,o1,o1,o1,o1,o0,o1,o1,o0,o0,o0,o0,o0,o0,o0,o0,o0] rfl (Ah (v:=vp) h22_0) (Bmq 8 [o1,o1,o1,o1,o1,o0,o1,o1,o1,o0,o0,o0,o0,o0,o0,o0,o0] rfl (Hj rfl rp) (Bms 9 [o1,o1,o1,o1,o1,o0,o1,o1,o1,o1,o0,o0,o0,o0,o0,o0,o0] rfl (Ay Water.f_usual Bnh rfl rfl Vh (by decide) rfl rp) fun v37 r37=>Bms 10 [o1,o1,o1,o1,o1,o0,o1,o1,o1,o1,o1,o0,o0,o0,o0,o0,o0] rfl (Ax Vh rfl r37) fun v38 r38=>Bmq 11 [o1,o1,o1,o1,o1,o0,o1,o1,o1,o1,o1,o1,o0,o0,o0,o0,o0] rfl (Ah (v:=(iV (h))) h22_1) (Bmq 12 [o1,o1,o1,o1,o1,o0,o1,o1,o1,o1,o1,o1,o1,o0,o0,o0,o0] rfl (Ah (v:=(iV ((min ((Asg d)) ((n - (z24.c * (Asg d)))))))) rfl) ?_))))))))))
  have hp39:=Atn ok (Bbt ok hL21 hz24).1 (h:=h) (k:=(min ((Asg d)) ((n - (z24.c * (Asg d))))))
  refine Bmt 5 Bjx rfl (Bm (vs:=[vp,z24.v,(iV (h)),(iV ((min ((Asg d)) ((n - (z24.c * (Asg d)))))))]) (v:=(iV (Ass d z24.l h ((min ((Asg d)) ((n - (z24.c * (Asg d))))))))) (Azm rp ok r24 (Bbt ok hL21 hz24).1 (by omega)) Bqk rfl rfl ⟨rfl,rfl,rfl,rfl,trivial⟩ ⟨Brm,?_⟩)
  have hp40:=Atn ok (Asx ok) (h:=h) (k:=(min ((Asg d)) ((n - (z24.c * (Asg d))))))
  refine Bmt 13 Bjy rfl (Bm (vs:=[vp,v38,(iV (h)),(iV ((min ((Asg d)) ((n - (z24.c * (Asg d)))))))]) (v:=(iV (Ass d ((Asj d)) h ((min ((Asg d)) ((n - (z24.c * (Asg d))))))))) (Azm rp ok r38 (Asx ok) (by omega)) Bqk rfl rfl ⟨rfl,rfl,rfl,rfl,trivial⟩ ⟨Brm,?_⟩)
  refine Bmr 14 Bjz rfl (Ou rfl rfl (z:=(Ass d z24.l h ((min ((Asg d)) ((n - (z24.c * (Asg d)))))) - Ass d ((Asj d)) h ((min ((Asg d)) ((n - (z24.c * (Asg d)))))))) (Bo (by rfl) (by omega) (by omega))) (Bmr 15 Bka rfl (Br rfl rfl (z:=(s + (Ass d z24.l h ((min ((Asg d)) ((n - (z24.c * (Asg d)))))) - Ass d ((Asj d)) h ((min ((Asg d)) ((n - (z24.c * (Asg d))))))))) (Bo (by rfl) (by omega) (by omega))) (Bmr 16 Bkb rfl (Cp (v:=(iV ((s + (Ass d z24.l h ((min ((Asg d)) ((n - (z24.c * (Asg d)))))) - Ass d ((Asj d)) h ((min ((Asg d)) ((n - (z24.c * (Asg d))))))))))) rfl) (Ec rfl (⟨_,?_,((s + (Ass d z24.l h ((min ((Asg d)) ((n - (z24.c * (Asg d)))))) - Ass d ((Asj d)) h ((min ((Asg d)) ((n - (z24.c * (Asg d))))))))),((dn ++ [z24])),rfl,rfl,rfl,rfl,h22_0,h22_1,h22_2,h22_47,rfl,(by rw [Ayr,Bfk q36]; omega),(Ava hM21 p22_1 hz24 hn24),trivial⟩))))
  have hsl9:=Avb (Ava hM21 p22_1 hz24 hn24)
  simp only [List.length_append,List.length_cons,List.length_nil] at *
  omega
 have q36:=of_decide_eq_false b36
 refine Al (⟨_,?_,(s),((dn ++ [z24])),rfl,rfl,rfl,rfl,h22_0,h22_1,h22_2,h22_47,h22_7,(by rw [Ayr,Bhy q36]; omega),(Ava hM21 p22_1 hz24 hn24),trivial⟩)
 have hsl9:=Avb (Ava hM21 p22_1 hz24 hn24)
 simp only [List.length_append,List.length_cons,List.length_nil] at *
 omega
end
section
open Go
section
variable {C:Ctx} {n:Nat} {e:Env} {ds:List Deferred} {ρ ρ₀:Ro} {σ A:Own} {K:Value→List Deferred→Ro→Own→Prop} {rd:Option Nat} {dd:Option Tmp}
variable {ty:TypeId} {pos:String} {af:Array Edge} {g:Option (Nat × Bool)} {x y:Operand} {v:Value} {t t':TypeId} {op:Op}
theorem Bdg (hS:leO ρ₀ A ρ σ) (hy:Axy C.P ρ₀ A e op ty v) (h:K v ds ρ σ):wpS C.P ρ (execOp (Af e) ⟨dd,op,ty,pos,af,g⟩) σ (NextH C K rd ds ρ) :=
 Eu (by rintro nx σ' ⟨rfl,rfl⟩; exact h) _ _ (hy ρ σ _ _ _ _ hS)
theorem Bgb {c c':List Value} {r off j:Nat} (he:c.set off v = c') (hz:∃ i,C.P.info? t = some i∧i.size = 1) (hx:Af e x = .pointer (some ⟨r,off,none⟩)) (hy:Af e y = v) (hs:single v = true)
  (hj:σ[j]? = some (r,.obj (.cells c.toArray t' (0,0)))) (hl:off < c.length) (h:K undef ds ρ (σ.set j (r,.obj (.cells c'.toArray t' (0,0))))) :
  wpS C.P ρ (execOp (Af e) ⟨dd,.store t x y,ty,pos,af,g⟩) σ (NextH C K rd ds ρ):=Cz hz hx hy hs hj hl (by rw [he]; exact h)
end
theorem Val.nonnil {α:Type} [Dat α] {ρ:Ro} {v:Value} {l:List α} (h:Val ρ v l) (hl:l ≠ []):∃ a n k,v = .slice (some a) n k:=by
 obtain ⟨a,n,k,h1,_,_,_,h4⟩:=Cs.1 h
 match l,hl with
 | x :: l,_ =>
  obtain ⟨b,off,h5,_⟩:=h4 0 x rfl
  exact ⟨_,_,_,by rw [h1,h5]⟩
theorem Ayj {c:Int} {z:OEnt}:∀ {E:List OEnt} {i:Nat},Atr c E i = none→z.c = c→Atr c (E ++ [z]) i = some (i + E.length,z.v)
 | [],i,_,hz=>by simp [Atr,hz]
 | w :: E,i,h,hz=>by
  rw [List.cons_append]
  unfold Atr at h ⊢
  split at h
  ·cases h
  ·rename_i hw
   rw [if_neg hw,Ayj h hz,List.length_cons,show i + 1 + E.length = i + (E.length + 1) by omega]
/-- The slice of a cycle that has been changed before. -/
theorem Bhr {d:Ditch} {ρ:Ro} {r ck:Nat} {es:Array MapEntry} {E:List OEnt} {c:Int} {q:Nat × Value} (hM:MapE es ck E) (hG:∀ z ∈ E,Grow ρ 3 z.v z.l z.g∧z.l ≠ []) (hf:Atr c E 0 = some q) :
  ∃ gr h,((r,Res.obj (.map es ck)) :: (E.map OEnt.g).flatten).Perm (gr ++ h)∧Grow ρ 3 (Aur E c) (atO (Aty d (E.map OEnt.p) c) c) gr∧OthH ρ r (Aty d (E.map OEnt.p) c) c (Aur E c) h∧∃ a m k,Aur E c = .slice (some a) m k:=by
 obtain ⟨A,z,B,hE,hc,hzv,hA⟩:=Awa hf
 have hv:Aur E c = z.v:=by unfold Aur; rw [hf]; exact hzv.symm
 have hcy:Aty d (E.map OEnt.p) c = E.map OEnt.p:=by unfold Aty; rw [Bih,hf]; rfl
 obtain ⟨h1,h2⟩:=Bav (r:=r) hM hG hE hc hA
 have hz:z ∈ E:=by rw [hE]; simp
 refine ⟨_,_,?_,by rw [hv,hcy]; exact h1,by rw [hv,hcy]; exact h2,by rw [hv]; exact (hG z hz).1.nonnil (hG z hz).2⟩
 rw [hE,List.map_append,List.map_cons,List.flatten_append,List.flatten_cons]
 refine List.Perm.trans (List.Perm.cons _ ?_) (List.perm_middle (a:=(r,Res.obj (.map es ck)))).symm
 exact List.perm_append_comm_assoc _ z.g _
/-- The slice of a cycle that has not been changed before. -/
theorem Bhq {d:Ditch} {ρ:Ro} {r ck:Nat} {es:Array MapEntry} {E:List OEnt} {c:Int} {v:Value} {gr:Own} (hM:MapE es ck E) (hG:∀ z ∈ E,Grow ρ 3 z.v z.l z.g∧z.l ≠ []) (hf:Atr c E 0 = none) (hv:Grow ρ 3 v (Asj d) gr) (hne:Asj d ≠ []) :
  MapE (es.push ⟨.int .i64 c,v,ck⟩) (ck + 1) (E ++ [⟨c,v,ck,Asj d,gr⟩])∧Aur (E ++ [⟨c,v,ck,Asj d,gr⟩]) c = v∧Grow ρ 3 v (atO (Aty d (E.map OEnt.p) c) c) gr ∧
   OthH ρ r (Aty d (E.map OEnt.p) c) c v ((r,Res.obj (.map (es.push ⟨.int .i64 c,v,ck⟩) (ck + 1))) :: (E.map OEnt.g).flatten):=by
 have hM':=Bfj hM (v:=v) (l:=Asj d) (g:=gr) hf
 have hcy:Aty d (E.map OEnt.p) c = (E ++ [(⟨c,v,ck,Asj d,gr⟩:OEnt)]).map OEnt.p:=by
  unfold Aty; rw [Bih,hf,List.map_append]; rfl
 have hG':∀ z ∈ E ++ [(⟨c,v,ck,Asj d,gr⟩:OEnt)],Grow ρ 3 z.v z.l z.g∧z.l ≠ []:=fun z hz=>by
  rcases List.mem_append.1 hz with hz | hz
  ·exact hG z hz
  ·rw [List.mem_singleton.1 hz]; exact ⟨hv,hne⟩
 obtain ⟨h1,h2⟩:=Bav (r:=r) (z:=⟨c,v,ck,Asj d,gr⟩) hM' hG' rfl rfl (Auw.1 hf)
 refine ⟨hM',by unfold Aur; rw [Ayj hf rfl]; rfl,by rw [hcy]; exact h1,?_⟩
 rw [hcy]
 simpa using h2
def OGrow (ρ:Ro) (E:List OEnt):Prop:=∀ z ∈ E,Grow ρ 3 z.v z.l z.g∧z.l ≠ []
theorem OGrow.mono {ρ ρ':Ro} (hle:Ro.le ρ ρ') {E:List OEnt} (h:OGrow ρ E):OGrow ρ' E:=fun z hz=>⟨(h z hz).1.mono hle,(h z hz).2⟩
theorem Bbc {d:Ditch} {L:Oth} {s:WSwap} {x y:Int} (hA:(atO (Aty d L s.cycle) s.cycle)[s.a.toNat]? = some x) (hB:(atO (Aty d L s.cycle) s.cycle)[s.b.toNat]? = some y) :
  Awy (Aty d L s.cycle) s.cycle (((atO (Aty d L s.cycle) s.cycle).set s.a.toNat y).set s.b.toNat x) = Azb d L s:=by
 unfold Azb
 simp only [List.getD_eq_getElem?_getD,hA,hB,Option.getD_some]
theorem Awr {α:Type} {l:List α} (h:0 < l.length):l ≠ []:=fun e=>by rw [e] at h; exact absurd h (Nat.lt_irrefl _)
theorem Bcg {E:List OEnt} {c:Int} (hf:Atr c E 0 = none):Aur E c = nS:=by unfold Aur; rw [hf]; rfl
theorem Bau {ρ:Ro} {r:Nat} {L L':Oth} {g:Own} (e:L = L') (h:OthG ρ r L g):OthG ρ r L' g:=e ▸ h
theorem Bbd {d:Ditch} (ok:DitchOk d):Asj d ≠ []:=fun h=>by
 have:=congrArg List.length h
 have h2:=ok.turns
 simp [Asj] at this
 rw [this] at h2
 simp at h2
/-- The ditch that runs,made of its cells. -/
theorem Bej {ρ:Ro} {d:Ditch} {r i:Nat} {lo:Int} {c0 c1 c2 c3 c4 c5 c6 c7 c8 c9 c10 c11 c12 c13 us:Value} (ok:DitchOk d) (hi:i = d.turns.length) (hlo:lo = Atv d i) (hd:Val ρ (.agg #[c0,c1,c2,c3,c4,c5,c6,c7,c8,c9,c10,c11,c12,c13]) d) (hu:Val ρ us (Asj d)) :
  Val ρ (.agg #[c0,c1,c2,c3,c4,c5,c6,c7,c8,c9,c10,c11,c12,c13,.int .i64 (Asf d i 0),.int .i64 (Asf d i 1),.int .i64 (Asf d i 2),.int .i64 (Asf d i 3),.int .i64 (Asf d i 4),.int .i64 (Asf d i 5),.int .i64 (Asf d i 6),.int .i64 (Asf d i 7),.int .i64 (Asf d i 8),.int .i64 (Asf d i 9),.int .i64 (Asf d i 10),.int .i64 (Asf d i 11),.int .i64 lo,us,.map (some r)]) (Avd d r):=by
 subst hi hlo
 obtain ⟨cs,h1,h2⟩:=hd
 have e1:cs = [c0,c1,c2,c3,c4,c5,c6,c7,c8,c9,c10,c11,c12,c13]:=by
  have h3:Value.agg #[c0,c1,c2,c3,c4,c5,c6,c7,c8,c9,c10,c11,c12,c13] = .agg cs.toArray:=h2
  have:=congrArg (fun v=>match v with | Value.agg c=>c.toList | _=>[]) h3
  exact this.symm
 subst e1
 have hb:∀ j,I64 (Asf d d.turns.length j):=fun j=>by
  have:=Bbr ok (i:=d.turns.length) (j:=j) (Nat.le_refl _)
  constructor <;> omega
 have hl:=Atc ok
 refine ⟨_,(show Dat.rep ρ _ ((⟨d⟩:DitchP),(Bam d d.turns.length,(Asg d,(Asj d,(⟨r⟩:MapRef))))) from Asl (c1:=[c0,c1,c2,c3,c4,c5,c6,c7,c8,c9,c10,c11,c12,c13]) h1 (Asl (show Dat.rep ρ _ (Bam d d.turns.length) from Asl (Asv (hb 0)) (Asl (Asv (hb 1)) (Asl (Asv (hb 2)) (Asl (Asv (hb 3)) (Asl (Asv (hb 4)) (Asl (Asv (hb 5)) (Asl (Asv (hb 6)) (Asl (Asv (hb 7)) (Asl (Asv (hb 8)) (Asl (Asv (hb 9)) (Asl (Asv (hb 10)) (Asv (hb 11))))))))))))) (Asl (Asv (show I64 (Asg d) by constructor <;> omega)) (Asl (Auq hu) (Blu (Bfy (r:=r))))))),rfl⟩
end
end Go.Proofs.YtphgjjmlnkgghaaGreatDoor
