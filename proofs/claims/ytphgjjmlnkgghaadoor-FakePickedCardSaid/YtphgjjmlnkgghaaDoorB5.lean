/- Part 5 of what all laws of layer 8 need: a logic of programs that start goroutines, and what the functions yield. -/
import Derived.Test.YtphgjjmlnkgghaaDoorB4
set_option linter.unusedVariables false
set_option linter.unusedSimpArgs false
set_option maxRecDepth 100000
namespace Go.Proofs.YtphgjjmlnkgghaaDoor
section
set_option maxHeartbeats 1000000
open Go
structure PField where
 name:ByteArray
 far:Int
 sun:Int
deriving DecidableEq
instance:Dat PField:=.iso fun x=>(x.name,(x.far,x.sun))
theorem PField.f_name:Fld PField (ByteArray) 0 PField.name:=⟨fun ρ cs x=>(Fld.fst:Fld ((ByteArray) × (Int) × (Int)) (ByteArray) 0 _).at_ ρ cs (x.name,(x.far,x.sun))⟩
theorem PField.f_far:Fld PField (Int) 1 PField.far:=⟨fun ρ cs x=>((.snd Fld.fst):Fld ((ByteArray) × (Int) × (Int)) (Int) 1 _).at_ ρ cs (x.name,(x.far,x.sun))⟩
theorem PField.f_sun:Fld PField (Int) 2 PField.sun:=⟨fun ρ cs x=>((.snd (.snd Fld.self)):Fld ((ByteArray) × (Int) × (Int)) (Int) 2 _).at_ ρ cs (x.name,(x.far,x.sun))⟩
theorem PField.open_ {ρ:Ro} {v:Value} {x:PField} (h:Val ρ v x):v = .agg #[.string x.name,.int .i64 x.far,.int .i64 x.sun]∧x.name.size < 2 ^ 60∧I64 x.far∧I64 x.sun:=by
 obtain ⟨cs,⟨q0,r0,f0,⟨a1,b1⟩,⟨q2,r2,f2,⟨a3,b3⟩,⟨a4,b4⟩⟩⟩,hv⟩:=h
 subst f0
 subst f2
 subst a1
 subst a3
 subst a4
 exact ⟨hv,b1,b3,b4⟩
theorem PField.shut {ρ:Ro} {x:PField} (h0:x.name.size < 2 ^ 60) (h1:I64 x.far) (h2:I64 x.sun):Val ρ (.agg #[.string x.name,.int .i64 x.far,.int .i64 x.sun]) x:=⟨[.string x.name,.int .i64 x.far,.int .i64 x.sun],⟨[.string x.name],([.int .i64 x.far] ++ [.int .i64 x.sun]),rfl,⟨rfl,h0⟩,⟨[.int .i64 x.far],[.int .i64 x.sun],rfl,⟨rfl,h1⟩,⟨rfl,h2⟩⟩⟩,rfl⟩
structure Picker where
 name:ByteArray
 house:Int
 from_:Int
 till:Int
deriving DecidableEq
instance:Dat Picker:=.iso fun x=>(x.name,(x.house,(x.from_,x.till)))
theorem Picker.f_name:Fld Picker (ByteArray) 0 Picker.name:=⟨fun ρ cs x=>(Fld.fst:Fld ((ByteArray) × (Int) × (Int) × (Int)) (ByteArray) 0 _).at_ ρ cs (x.name,(x.house,(x.from_,x.till)))⟩
theorem Picker.f_house:Fld Picker (Int) 1 Picker.house:=⟨fun ρ cs x=>((.snd Fld.fst):Fld ((ByteArray) × (Int) × (Int) × (Int)) (Int) 1 _).at_ ρ cs (x.name,(x.house,(x.from_,x.till)))⟩
theorem Picker.f_from_:Fld Picker (Int) 2 Picker.from_:=⟨fun ρ cs x=>((.snd (.snd Fld.fst)):Fld ((ByteArray) × (Int) × (Int) × (Int)) (Int) 2 _).at_ ρ cs (x.name,(x.house,(x.from_,x.till)))⟩
theorem Picker.f_till:Fld Picker (Int) 3 Picker.till:=⟨fun ρ cs x=>((.snd (.snd (.snd Fld.self))):Fld ((ByteArray) × (Int) × (Int) × (Int)) (Int) 3 _).at_ ρ cs (x.name,(x.house,(x.from_,x.till)))⟩
theorem Picker.open_ {ρ:Ro} {v:Value} {x:Picker} (h:Val ρ v x):v = .agg #[.string x.name,.int .i64 x.house,.int .i64 x.from_,.int .i64 x.till]∧x.name.size < 2 ^ 60∧I64 x.house∧I64 x.from_∧I64 x.till:=by
 obtain ⟨cs,⟨q0,r0,f0,⟨a1,b1⟩,⟨q2,r2,f2,⟨a3,b3⟩,⟨q4,r4,f4,⟨a5,b5⟩,⟨a6,b6⟩⟩⟩⟩,hv⟩:=h
 subst f0
 subst f2
 subst f4
 subst a1
 subst a3
 subst a5
 subst a6
 exact ⟨hv,b1,b3,b5,b6⟩
theorem Picker.shut {ρ:Ro} {x:Picker} (h0:x.name.size < 2 ^ 60) (h1:I64 x.house) (h2:I64 x.from_) (h3:I64 x.till):Val ρ (.agg #[.string x.name,.int .i64 x.house,.int .i64 x.from_,.int .i64 x.till]) x:=⟨[.string x.name,.int .i64 x.house,.int .i64 x.from_,.int .i64 x.till],⟨[.string x.name],([.int .i64 x.house] ++ ([.int .i64 x.from_] ++ [.int .i64 x.till])),rfl,⟨rfl,h0⟩,⟨[.int .i64 x.house],([.int .i64 x.from_] ++ [.int .i64 x.till]),rfl,⟨rfl,h1⟩,⟨[.int .i64 x.from_],[.int .i64 x.till],rfl,⟨rfl,h2⟩,⟨rfl,h3⟩⟩⟩⟩,rfl⟩
structure Basket where
 field:Int
 house:Int
 opens:Int
 keeps:Span
 worth:Int
 stays:Int
deriving DecidableEq
instance:Dat Basket:=.iso fun x=>(x.field,(x.house,(x.opens,(x.keeps,(x.worth,x.stays)))))
theorem Basket.f_field:Fld Basket (Int) 0 Basket.field:=⟨fun ρ cs x=>(Fld.fst:Fld ((Int) × (Int) × (Int) × (Span) × (Int) × (Int)) (Int) 0 _).at_ ρ cs (x.field,(x.house,(x.opens,(x.keeps,(x.worth,x.stays)))))⟩
theorem Basket.f_house:Fld Basket (Int) 1 Basket.house:=⟨fun ρ cs x=>((.snd Fld.fst):Fld ((Int) × (Int) × (Int) × (Span) × (Int) × (Int)) (Int) 1 _).at_ ρ cs (x.field,(x.house,(x.opens,(x.keeps,(x.worth,x.stays)))))⟩
theorem Basket.f_opens:Fld Basket (Int) 2 Basket.opens:=⟨fun ρ cs x=>((.snd (.snd Fld.fst)):Fld ((Int) × (Int) × (Int) × (Span) × (Int) × (Int)) (Int) 2 _).at_ ρ cs (x.field,(x.house,(x.opens,(x.keeps,(x.worth,x.stays)))))⟩
theorem Basket.f_keeps:Fld Basket (Span) 3 Basket.keeps:=⟨fun ρ cs x=>((.snd (.snd (.snd Fld.fst))):Fld ((Int) × (Int) × (Int) × (Span) × (Int) × (Int)) (Span) 3 _).at_ ρ cs (x.field,(x.house,(x.opens,(x.keeps,(x.worth,x.stays)))))⟩
theorem Basket.f_worth:Fld Basket (Int) 5 Basket.worth:=⟨fun ρ cs x=>((.snd (.snd (.snd (.snd Fld.fst)))):Fld ((Int) × (Int) × (Int) × (Span) × (Int) × (Int)) (Int) 5 _).at_ ρ cs (x.field,(x.house,(x.opens,(x.keeps,(x.worth,x.stays)))))⟩
theorem Basket.f_stays:Fld Basket (Int) 6 Basket.stays:=⟨fun ρ cs x=>((.snd (.snd (.snd (.snd (.snd Fld.self))))):Fld ((Int) × (Int) × (Int) × (Span) × (Int) × (Int)) (Int) 6 _).at_ ρ cs (x.field,(x.house,(x.opens,(x.keeps,(x.worth,x.stays)))))⟩
theorem Basket.open_ {ρ:Ro} {v:Value} {x:Basket} (h:Val ρ v x):v = .agg #[.int .i64 x.field,.int .i64 x.house,.int .i64 x.opens,.int .i64 x.keeps.low,.int .i64 x.keeps.high,.int .i64 x.worth,.int .i64 x.stays]∧I64 x.field∧I64 x.house∧I64 x.opens∧I64 x.keeps.low∧I64 x.keeps.high∧I64 x.worth∧I64 x.stays:=by
 obtain ⟨cs,⟨q0,r0,f0,⟨a1,b1⟩,⟨q2,r2,f2,⟨a3,b3⟩,⟨q4,r4,f4,⟨a5,b5⟩,⟨q6,r6,f6,⟨q7,r7,f7,⟨a8,b8⟩,⟨a9,b9⟩⟩,⟨q10,r10,f10,⟨a11,b11⟩,⟨a12,b12⟩⟩⟩⟩⟩⟩,hv⟩:=h
 subst f0
 subst f2
 subst f4
 subst f7
 subst f6
 subst f10
 subst a1
 subst a3
 subst a5
 subst a8
 subst a9
 subst a11
 subst a12
 exact ⟨hv,b1,b3,b5,b8,b9,b11,b12⟩
theorem Basket.shut {ρ:Ro} {x:Basket} (h0:I64 x.field) (h1:I64 x.house) (h2:I64 x.opens) (h3:I64 x.keeps.low) (h4:I64 x.keeps.high) (h5:I64 x.worth) (h6:I64 x.stays):Val ρ (.agg #[.int .i64 x.field,.int .i64 x.house,.int .i64 x.opens,.int .i64 x.keeps.low,.int .i64 x.keeps.high,.int .i64 x.worth,.int .i64 x.stays]) x:=⟨[.int .i64 x.field,.int .i64 x.house,.int .i64 x.opens,.int .i64 x.keeps.low,.int .i64 x.keeps.high,.int .i64 x.worth,.int .i64 x.stays],⟨[.int .i64 x.field],([.int .i64 x.house] ++ ([.int .i64 x.opens] ++ (([.int .i64 x.keeps.low] ++ [.int .i64 x.keeps.high]) ++ ([.int .i64 x.worth] ++ [.int .i64 x.stays])))),rfl,⟨rfl,h0⟩,⟨[.int .i64 x.house],([.int .i64 x.opens] ++ (([.int .i64 x.keeps.low] ++ [.int .i64 x.keeps.high]) ++ ([.int .i64 x.worth] ++ [.int .i64 x.stays]))),rfl,⟨rfl,h1⟩,⟨[.int .i64 x.opens],(([.int .i64 x.keeps.low] ++ [.int .i64 x.keeps.high]) ++ ([.int .i64 x.worth] ++ [.int .i64 x.stays])),rfl,⟨rfl,h2⟩,⟨([.int .i64 x.keeps.low] ++ [.int .i64 x.keeps.high]),([.int .i64 x.worth] ++ [.int .i64 x.stays]),rfl,⟨[.int .i64 x.keeps.low],[.int .i64 x.keeps.high],rfl,⟨rfl,h3⟩,⟨rfl,h4⟩⟩,⟨[.int .i64 x.worth],[.int .i64 x.stays],rfl,⟨rfl,h5⟩,⟨rfl,h6⟩⟩⟩⟩⟩⟩,rfl⟩
structure Morn where
 houses:List ByteArray
 fields:List PField
 pickers:List Picker
 baskets:List Basket
 warm:Span
deriving DecidableEq
instance:Dat Morn:=.iso fun x=>(x.houses,(x.fields,(x.pickers,(x.baskets,x.warm))))
theorem Morn.f_houses:Fld Morn (List ByteArray) 0 Morn.houses:=⟨fun ρ cs x=>(Fld.fst:Fld ((List ByteArray) × (List PField) × (List Picker) × (List Basket) × (Span)) (List ByteArray) 0 _).at_ ρ cs (x.houses,(x.fields,(x.pickers,(x.baskets,x.warm))))⟩
theorem Morn.f_fields:Fld Morn (List PField) 1 Morn.fields:=⟨fun ρ cs x=>((.snd Fld.fst):Fld ((List ByteArray) × (List PField) × (List Picker) × (List Basket) × (Span)) (List PField) 1 _).at_ ρ cs (x.houses,(x.fields,(x.pickers,(x.baskets,x.warm))))⟩
theorem Morn.f_pickers:Fld Morn (List Picker) 2 Morn.pickers:=⟨fun ρ cs x=>((.snd (.snd Fld.fst)):Fld ((List ByteArray) × (List PField) × (List Picker) × (List Basket) × (Span)) (List Picker) 2 _).at_ ρ cs (x.houses,(x.fields,(x.pickers,(x.baskets,x.warm))))⟩
theorem Morn.f_baskets:Fld Morn (List Basket) 3 Morn.baskets:=⟨fun ρ cs x=>((.snd (.snd (.snd Fld.fst))):Fld ((List ByteArray) × (List PField) × (List Picker) × (List Basket) × (Span)) (List Basket) 3 _).at_ ρ cs (x.houses,(x.fields,(x.pickers,(x.baskets,x.warm))))⟩
theorem Morn.f_warm:Fld Morn (Span) 4 Morn.warm:=⟨fun ρ cs x=>((.snd (.snd (.snd (.snd Fld.self)))):Fld ((List ByteArray) × (List PField) × (List Picker) × (List Basket) × (Span)) (Span) 4 _).at_ ρ cs (x.houses,(x.fields,(x.pickers,(x.baskets,x.warm))))⟩
theorem Morn.open_ {ρ:Ro} {v:Value} {x:Morn} (h:Val ρ v x):∃ c0 c1 c2 c3,v = .agg #[c0,c1,c2,c3,.int .i64 x.warm.low,.int .i64 x.warm.high]∧Val ρ c0 x.houses∧Val ρ c1 x.fields∧Val ρ c2 x.pickers∧Val ρ c3 x.baskets∧I64 x.warm.low∧I64 x.warm.high:=by
 obtain ⟨cs,⟨q0,r0,f0,⟨w1,a1,b1⟩,⟨q2,r2,f2,⟨w3,a3,b3⟩,⟨q4,r4,f4,⟨w5,a5,b5⟩,⟨q6,r6,f6,⟨w7,a7,b7⟩,⟨q8,r8,f8,⟨a9,b9⟩,⟨a10,b10⟩⟩⟩⟩⟩⟩,hv⟩:=h
 subst f0
 subst f2
 subst f4
 subst f6
 subst f8
 subst a1
 subst a3
 subst a5
 subst a7
 subst a9
 subst a10
 exact ⟨w1,w3,w5,w7,hv,Cs.2 b1,Cs.2 b3,Cs.2 b5,Cs.2 b7,b9,b10⟩
theorem Morn.shut {ρ:Ro} {x:Morn} {c0 c1 c2 c3:Value} (h0:Val ρ c0 x.houses) (h1:Val ρ c1 x.fields) (h2:Val ρ c2 x.pickers) (h3:Val ρ c3 x.baskets) (h4:I64 x.warm.low) (h5:I64 x.warm.high):Val ρ (.agg #[c0,c1,c2,c3,.int .i64 x.warm.low,.int .i64 x.warm.high]) x:=⟨[c0,c1,c2,c3,.int .i64 x.warm.low,.int .i64 x.warm.high],⟨[c0],([c1] ++ ([c2] ++ ([c3] ++ ([.int .i64 x.warm.low] ++ [.int .i64 x.warm.high])))),rfl,⟨c0,rfl,Cs.1 h0⟩,⟨[c1],([c2] ++ ([c3] ++ ([.int .i64 x.warm.low] ++ [.int .i64 x.warm.high]))),rfl,⟨c1,rfl,Cs.1 h1⟩,⟨[c2],([c3] ++ ([.int .i64 x.warm.low] ++ [.int .i64 x.warm.high])),rfl,⟨c2,rfl,Cs.1 h2⟩,⟨[c3],([.int .i64 x.warm.low] ++ [.int .i64 x.warm.high]),rfl,⟨c3,rfl,Cs.1 h3⟩,⟨[.int .i64 x.warm.low],[.int .i64 x.warm.high],rfl,⟨rfl,h4⟩,⟨rfl,h5⟩⟩⟩⟩⟩⟩,rfl⟩
structure Pick where
 basket:Int
 picker:Int
 slot:Int
deriving DecidableEq
instance:Dat Pick:=.iso fun x=>(x.basket,(x.picker,x.slot))
theorem Pick.f_basket:Fld Pick (Int) 0 Pick.basket:=⟨fun ρ cs x=>(Fld.fst:Fld ((Int) × (Int) × (Int)) (Int) 0 _).at_ ρ cs (x.basket,(x.picker,x.slot))⟩
theorem Pick.open_ {ρ:Ro} {v:Value} {x:Pick} (h:Val ρ v x):v = .agg #[.int .i64 x.basket,.int .i64 x.picker,.int .i64 x.slot]∧I64 x.basket∧I64 x.picker∧I64 x.slot:=by
 obtain ⟨cs,⟨q0,r0,f0,⟨a1,b1⟩,⟨q2,r2,f2,⟨a3,b3⟩,⟨a4,b4⟩⟩⟩,hv⟩:=h
 subst f0
 subst f2
 subst a1
 subst a3
 subst a4
 exact ⟨hv,b1,b3,b4⟩
theorem Pick.shut {ρ:Ro} {x:Pick} (h0:I64 x.basket) (h1:I64 x.picker) (h2:I64 x.slot):Val ρ (.agg #[.int .i64 x.basket,.int .i64 x.picker,.int .i64 x.slot]) x:=⟨[.int .i64 x.basket,.int .i64 x.picker,.int .i64 x.slot],⟨[.int .i64 x.basket],([.int .i64 x.picker] ++ [.int .i64 x.slot]),rfl,⟨rfl,h0⟩,⟨[.int .i64 x.picker],[.int .i64 x.slot],rfl,⟨rfl,h1⟩,⟨rfl,h2⟩⟩⟩,rfl⟩
structure Spot where
 slot:Int
 picker:Int
deriving DecidableEq
instance:Dat Spot:=.iso fun x=>(x.slot,x.picker)
theorem Spot.open_ {ρ:Ro} {v:Value} {x:Spot} (h:Val ρ v x):v = .agg #[.int .i64 x.slot,.int .i64 x.picker]∧I64 x.slot∧I64 x.picker:=by
 obtain ⟨cs,⟨q0,r0,f0,⟨a1,b1⟩,⟨a2,b2⟩⟩,hv⟩:=h
 subst f0
 subst a1
 subst a2
 exact ⟨hv,b1,b2⟩
theorem Spot.shut {ρ:Ro} {x:Spot} (h0:I64 x.slot) (h1:I64 x.picker):Val ρ (.agg #[.int .i64 x.slot,.int .i64 x.picker]) x:=⟨[.int .i64 x.slot,.int .i64 x.picker],⟨[.int .i64 x.slot],[.int .i64 x.picker],rfl,⟨rfl,h0⟩,⟨rfl,h1⟩⟩,rfl⟩
structure MornP where
 m:Morn
deriving DecidableEq
instance:Dat MornP:=.iso fun x=>x.m
theorem MornP.f_m:Fld MornP (Morn) 0 MornP.m:=⟨fun ρ cs x=>(Fld.self:Fld ((Morn)) (Morn) 0 _).at_ ρ cs x.m⟩
theorem MornP.open_ {ρ:Ro} {v:Value} {x:MornP} (h:Val ρ v x):∃ c0 c1 c2 c3,v = .agg #[c0,c1,c2,c3,.int .i64 x.m.warm.low,.int .i64 x.m.warm.high]∧Val ρ c0 x.m.houses∧Val ρ c1 x.m.fields∧Val ρ c2 x.m.pickers∧Val ρ c3 x.m.baskets∧I64 x.m.warm.low∧I64 x.m.warm.high:=by
 obtain ⟨cs,⟨q0,r0,f0,⟨w1,a1,b1⟩,⟨q2,r2,f2,⟨w3,a3,b3⟩,⟨q4,r4,f4,⟨w5,a5,b5⟩,⟨q6,r6,f6,⟨w7,a7,b7⟩,⟨q8,r8,f8,⟨a9,b9⟩,⟨a10,b10⟩⟩⟩⟩⟩⟩,hv⟩:=h
 subst f0
 subst f2
 subst f4
 subst f6
 subst f8
 subst a1
 subst a3
 subst a5
 subst a7
 subst a9
 subst a10
 exact ⟨w1,w3,w5,w7,hv,Cs.2 b1,Cs.2 b3,Cs.2 b5,Cs.2 b7,b9,b10⟩
theorem MornP.shut {ρ:Ro} {x:MornP} {c0 c1 c2 c3:Value} (h0:Val ρ c0 x.m.houses) (h1:Val ρ c1 x.m.fields) (h2:Val ρ c2 x.m.pickers) (h3:Val ρ c3 x.m.baskets) (h4:I64 x.m.warm.low) (h5:I64 x.m.warm.high):Val ρ (.agg #[c0,c1,c2,c3,.int .i64 x.m.warm.low,.int .i64 x.m.warm.high]) x:=⟨[c0,c1,c2,c3,.int .i64 x.m.warm.low,.int .i64 x.m.warm.high],⟨[c0],([c1] ++ ([c2] ++ ([c3] ++ ([.int .i64 x.m.warm.low] ++ [.int .i64 x.m.warm.high])))),rfl,⟨c0,rfl,Cs.1 h0⟩,⟨[c1],([c2] ++ ([c3] ++ ([.int .i64 x.m.warm.low] ++ [.int .i64 x.m.warm.high]))),rfl,⟨c1,rfl,Cs.1 h1⟩,⟨[c2],([c3] ++ ([.int .i64 x.m.warm.low] ++ [.int .i64 x.m.warm.high])),rfl,⟨c2,rfl,Cs.1 h2⟩,⟨[c3],([.int .i64 x.m.warm.low] ++ [.int .i64 x.m.warm.high]),rfl,⟨c3,rfl,Cs.1 h3⟩,⟨[.int .i64 x.m.warm.low],[.int .i64 x.m.warm.high],rfl,⟨rfl,h4⟩,⟨rfl,h5⟩⟩⟩⟩⟩⟩,rfl⟩
structure PPlan where
 p:MornP
 all:List (List Spot)
deriving DecidableEq
instance:Dat PPlan:=.iso fun x=>(x.p,x.all)
theorem PPlan.f_p:Fld PPlan (MornP) 0 PPlan.p:=⟨fun ρ cs x=>(Fld.fst:Fld ((MornP) × (List (List Spot))) (MornP) 0 _).at_ ρ cs (x.p,x.all)⟩
theorem PPlan.f_all:Fld PPlan (List (List Spot)) 6 PPlan.all:=⟨fun ρ cs x=>((.snd Fld.self):Fld ((MornP) × (List (List Spot))) (List (List Spot)) 6 _).at_ ρ cs (x.p,x.all)⟩
theorem PPlan.open_ {ρ:Ro} {v:Value} {x:PPlan} (h:Val ρ v x):∃ c0 c1 c2 c3 c4,v = .agg #[c0,c1,c2,c3,.int .i64 x.p.m.warm.low,.int .i64 x.p.m.warm.high,c4]∧Val ρ c0 x.p.m.houses∧Val ρ c1 x.p.m.fields∧Val ρ c2 x.p.m.pickers∧Val ρ c3 x.p.m.baskets∧I64 x.p.m.warm.low∧I64 x.p.m.warm.high∧Val ρ c4 x.all:=by
 obtain ⟨cs,⟨q0,r0,f0,⟨q1,r1,f1,⟨w2,a2,b2⟩,⟨q3,r3,f3,⟨w4,a4,b4⟩,⟨q5,r5,f5,⟨w6,a6,b6⟩,⟨q7,r7,f7,⟨w8,a8,b8⟩,⟨q9,r9,f9,⟨a10,b10⟩,⟨a11,b11⟩⟩⟩⟩⟩⟩,⟨w12,a12,b12⟩⟩,hv⟩:=h
 subst f1
 subst f3
 subst f5
 subst f7
 subst f9
 subst f0
 subst a2
 subst a4
 subst a6
 subst a8
 subst a10
 subst a11
 subst a12
 exact ⟨w2,w4,w6,w8,w12,hv,Cs.2 b2,Cs.2 b4,Cs.2 b6,Cs.2 b8,b10,b11,Cs.2 b12⟩
theorem PPlan.shut {ρ:Ro} {x:PPlan} {c0 c1 c2 c3 c4:Value} (h0:Val ρ c0 x.p.m.houses) (h1:Val ρ c1 x.p.m.fields) (h2:Val ρ c2 x.p.m.pickers) (h3:Val ρ c3 x.p.m.baskets) (h4:I64 x.p.m.warm.low) (h5:I64 x.p.m.warm.high) (h6:Val ρ c4 x.all):Val ρ (.agg #[c0,c1,c2,c3,.int .i64 x.p.m.warm.low,.int .i64 x.p.m.warm.high,c4]) x:=⟨[c0,c1,c2,c3,.int .i64 x.p.m.warm.low,.int .i64 x.p.m.warm.high,c4],⟨([c0] ++ ([c1] ++ ([c2] ++ ([c3] ++ ([.int .i64 x.p.m.warm.low] ++ [.int .i64 x.p.m.warm.high]))))),[c4],rfl,⟨[c0],([c1] ++ ([c2] ++ ([c3] ++ ([.int .i64 x.p.m.warm.low] ++ [.int .i64 x.p.m.warm.high])))),rfl,⟨c0,rfl,Cs.1 h0⟩,⟨[c1],([c2] ++ ([c3] ++ ([.int .i64 x.p.m.warm.low] ++ [.int .i64 x.p.m.warm.high]))),rfl,⟨c1,rfl,Cs.1 h1⟩,⟨[c2],([c3] ++ ([.int .i64 x.p.m.warm.low] ++ [.int .i64 x.p.m.warm.high])),rfl,⟨c2,rfl,Cs.1 h2⟩,⟨[c3],([.int .i64 x.p.m.warm.low] ++ [.int .i64 x.p.m.warm.high]),rfl,⟨c3,rfl,Cs.1 h3⟩,⟨[.int .i64 x.p.m.warm.low],[.int .i64 x.p.m.warm.high],rfl,⟨rfl,h4⟩,⟨rfl,h5⟩⟩⟩⟩⟩⟩,⟨c4,rfl,Cs.1 h6⟩⟩,rfl⟩
theorem Aty:GoTy Tryd.prog 55 PField:=⟨⟨_,Bix,rfl⟩,⟨_,Ab Tryd.typeInfo55,rfl⟩⟩
theorem Atz:GoTy Tryd.prog 57 Picker:=⟨⟨_,Bik,rfl⟩,⟨_,Ab Tryd.typeInfo57,rfl⟩⟩
theorem Ati:GoTy Tryd.prog 47 Basket:=⟨⟨_,Bid,rfl⟩,⟨_,Ab Tryd.typeInfo47,rfl⟩⟩
theorem Ata:GoTy Tryd.prog 29 Morn:=⟨⟨_,Bhz,rfl⟩,⟨_,Ab Bke,rfl⟩⟩
theorem Avr:GoTy Tryd.prog 45 Pick:=⟨⟨_,Bkf,rfl⟩,⟨_,Ab Bld,rfl⟩⟩
theorem Atf:GoTy Tryd.prog 93 Spot:=⟨⟨_,Bjj,rfl⟩,⟨_,Ab Bkk,rfl⟩⟩
theorem Bcz:GoTy Tryd.prog 96 MornP:=⟨⟨_,Bir,rfl⟩,⟨_,Ab Blh,rfl⟩⟩
theorem Asw:GoTy Tryd.prog 23 (List PField):=⟨⟨_,Bim,rfl⟩,⟨_,Ab Blu,rfl⟩⟩
theorem Atm:GoTy Tryd.prog 24 (List Picker):=⟨⟨_,Bja,rfl⟩,⟨_,Ab Tryd.typeInfo24,rfl⟩⟩
theorem Asu:GoTy Tryd.prog 25 (List Basket):=⟨⟨_,Bip,rfl⟩,⟨_,Ab Tryd.typeInfo25,rfl⟩⟩
theorem Awr:GoTy Tryd.prog 94 (List Spot):=⟨⟨_,Bka,rfl⟩,⟨_,Ab Blx,rfl⟩⟩
theorem Ayj:GoTy Tryd.prog 97 (List (List Spot)):=⟨⟨_,Bkg,rfl⟩,⟨_,Ab Bkv,rfl⟩⟩
theorem Awq:GoTy Tryd.prog 88 (Ptr PPlan):=⟨⟨_,Tryd.underlying88,rfl⟩,⟨_,Ab Tryd.typeInfo88,rfl⟩⟩
theorem Bda:GoTy Tryd.prog 147 (Ptr MornP):=⟨⟨_,Tryd.underlying147,rfl⟩,⟨_,Ab Tryd.typeInfo147,rfl⟩⟩
def Bgb:List Value:=[.string (ByteArray.mk #[]),.int .i64 0,.int .i64 0]
theorem Bge:Fw Tryd.prog 55 (.agg #[.string (ByteArray.mk #[]),.int .i64 0,.int .i64 0]):=⟨_,Ab Tryd.typeInfo55,rfl⟩
def Ban:List Value:=[.string (ByteArray.mk #[]),.int .i64 0,.int .i64 0,.int .i64 0]
theorem Bap:Fw Tryd.prog 57 (.agg #[.string (ByteArray.mk #[]),.int .i64 0,.int .i64 0,.int .i64 0]):=⟨_,Ab Tryd.typeInfo57,rfl⟩
def Aww:List Value:=[.int .i64 0,.int .i64 0,.int .i64 0,.int .i64 0,.int .i64 0,.int .i64 0,.int .i64 0]
theorem Awx:Fw Tryd.prog 47 (.agg #[.int .i64 0,.int .i64 0,.int .i64 0,.int .i64 0,.int .i64 0,.int .i64 0,.int .i64 0]):=⟨_,Ab Tryd.typeInfo47,rfl⟩
def Bdn:List Value:=[.int .i64 0,.int .i64 0,.int .i64 0]
theorem Ayk:Fw Tryd.prog 45 (.agg #[.int .i64 0,.int .i64 0,.int .i64 0]):=⟨_,Ab Bld,rfl⟩
def Bao:List Value:=[.int .i64 0,.int .i64 0]
theorem Awy:Fw Tryd.prog 93 (.agg #[.int .i64 0,.int .i64 0]):=⟨_,Ab Bkk,rfl⟩
def Bgc:List Value:=[.slice none 0 0,.slice none 0 0,.slice none 0 0,.slice none 0 0,.int .i64 0,.int .i64 0]
theorem Bgg:Fw Tryd.prog 96 (.agg #[.slice none 0 0,.slice none 0 0,.slice none 0 0,.slice none 0 0,.int .i64 0,.int .i64 0]):=⟨_,Ab Blh,rfl⟩
def Bgd:List Value:=[.slice none 0 0,.slice none 0 0,.slice none 0 0,.slice none 0 0,.int .i64 0,.int .i64 0,.slice none 0 0]
theorem Bgh:Fw Tryd.prog 99 (.agg #[.slice none 0 0,.slice none 0 0,.slice none 0 0,.slice none 0 0,.int .i64 0,.int .i64 0,.slice none 0 0]):=⟨_,Ab Tryd.typeInfo99,rfl⟩
theorem Bgf:Fw Tryd.prog 94 (.slice none 0 0):=⟨_,Ab Blx,rfl⟩
end
section
set_option maxHeartbeats 1000000
open Go
def Ayo (m:Morn) (i:Nat):Prop:=∀ x,m.fields[i]? = some x→Hg x.name = true∧(∀ (k:Nat) (y:PField),k < i→m.fields[k]? = some y→y.name.toList ≠ x.name.toList)∧(0 ≤ x.far∧x.far ≤ 24)∧(0 ≤ x.sun∧x.sun ≤ 10)
def Ayp (m:Morn) (i:Nat):Prop:=∀ x,m.pickers[i]? = some x→Hg x.name = true∧(∀ (k:Nat) (y:Picker),k < i→m.pickers[k]? = some y→y.name.toList ≠ x.name.toList)∧(0 ≤ x.house∧x.house ≤ (m.houses.length:Int) - 1)∧(0 ≤ x.from_∧x.from_ ≤ 24)∧(0 ≤ x.till∧x.till ≤ 24)∧x.from_ ≤ x.till
def Aym (m:Morn) (i:Nat):Prop:=∀ x,m.baskets[i]? = some x→(0 ≤ x.field∧x.field ≤ (m.fields.length:Int) - 1)∧(0 ≤ x.house∧x.house ≤ (m.houses.length:Int) - 1)∧(0 ≤ x.opens∧x.opens ≤ 23)∧(0 ≤ x.keeps.low∧x.keeps.low ≤ x.keeps.high∧x.keeps.high ≤ 24)∧(0 ≤ x.worth∧x.worth ≤ 10000)∧(0 ≤ x.stays∧x.stays ≤ 10000)
def Ayn (m:Morn):Prop:=Dd m.houses 4 = 0∧m.fields.length ≤ 4∧∀ j,j < m.fields.length→Ayo m j
def Axg (m:Morn):Prop:=m.pickers.length ≤ 5∧∀ j,j < m.pickers.length→Ayp m j
structure MornOk (m:Morn):Prop where
 fields:Ayn m
 pickers:Axg m
 nbaskets:m.baskets.length ≤ 9
 basket:∀ j,j < m.baskets.length→Aym m j
 warm:0 ≤ m.warm.low∧m.warm.low ≤ m.warm.high∧m.warm.high ≤ 40
end
section
set_option maxHeartbeats 1000000
open Go
variable {mn:Bool} {X:Frame→List Frame→Ro→Own→Cy→Prop} {ρ:Ro} {σ:Own}
theorem Bcd {m:Morn} {vm:Value} (rm:Val ρ vm m):CallsH (CX mn X) 4 #[vm] ρ σ (fun w ρ' σ'=>ρ' = ρ∧σ' = σ∧∃ b,w = .bool b):=by
 refine Bh (n:=78) (args:=[vm]) [2] Tryd.func4 rfl rfl rfl rfl fun Q hret hnor=>w_q rfl rfl fun K1 k1=>Arv (Eb (v:=vm) rfl fun k2=>?_)
 refine Bb (a:=m) rm fun ρ2 l2 r2=>Lo (.bool (false)) (Ary rfl rfl k1 fun K3 K4 k3 k4=>Arw (Ay Morn.f_houses Bhz rfl rfl Hw (by decide) rfl r2) fun v5 r5=>Arw (Ax Hw rfl r5) fun v6 r6=>?_)
 have g7:=Bmn r6
 refine l_v (Ci (el:=9) Bic rfl r6) (l_v (Gl rfl rfl) (Asf (.bool (decide (((m.houses.length:Nat):Int) > 40))) (Cn (decide (((m.houses.length:Nat):Int) > 40)) (fun b8=>?_) (fun b8=>?_))))
 ·have q8:=of_decide_eq_true b8
  refine Ap (gN rfl b8) (Ap (gN rfl b8) (Ap (gN rfl b8) (Ap (gN rfl b8) (l_v (Bt rfl b8 (v:=(.bool (true))) rfl) (Asf (.bool (true)) (Ap (gN rfl rfl) (Ap (gN rfl rfl) (Ap (gN rfl rfl) (Ap (gN rfl rfl) (l_v (Bt rfl rfl (v:=(.bool (true))) rfl) (Asf (.bool (true)) (Ap (gN rfl rfl) (Ap (gN rfl rfl) (Ap (gN rfl rfl) (Ap (gN rfl rfl) (l_v (Bt rfl rfl (v:=(.bool (true))) rfl) (l_k k4 (Co rfl rfl (w_q rfl rfl fun K9 k9=>Lo (.bool (true)) (l_k k9 (Aj (Bmi l2) (Aq (hret _ _ _ (⟨rfl,rfl,_,rfl⟩))))))))))))))))))))))))
 have q8:=of_decide_eq_false b8
 refine Ak (gY rfl b8) (Ay Morn.f_fields Bhz rfl rfl Asw (by decide) rfl r2) fun v10 r10=>Ak (gY rfl b8) (Ax Asw rfl r10) fun v11 r11=>?_
 have g12:=Bmn r11
 refine Aa (gY rfl b8) (Ci (el:=55) Bim rfl r11) (Aa (gY rfl b8) (Gl rfl rfl) (l_v (Bn rfl b8 (v:=(.bool (decide (((m.fields.length:Nat):Int) > 40)))) rfl) (Asf (.bool (decide (((m.fields.length:Nat):Int) > 40))) (Cn (decide (((m.fields.length:Nat):Int) > 40)) (fun b13=>?_) (fun b13=>?_)))))
 ·have q13:=of_decide_eq_true b13
  refine Ap (gN rfl b13) (Ap (gN rfl b13) (Ap (gN rfl b13) (Ap (gN rfl b13) (l_v (Bt rfl b13 (v:=(.bool (true))) rfl) (Asf (.bool (true)) (Ap (gN rfl rfl) (Ap (gN rfl rfl) (Ap (gN rfl rfl) (Ap (gN rfl rfl) (l_v (Bt rfl rfl (v:=(.bool (true))) rfl) (l_k k4 (Co rfl rfl (w_q rfl rfl fun K14 k14=>Lo (.bool (true)) (l_k k14 (Aj (Bmi l2) (Aq (hret _ _ _ (⟨rfl,rfl,_,rfl⟩))))))))))))))))))
 have q13:=of_decide_eq_false b13
 refine Ak (gY rfl b13) (Ay Morn.f_pickers Bhz rfl rfl Atm (by decide) rfl r2) fun v15 r15=>Ak (gY rfl b13) (Ax Atm rfl r15) fun v16 r16=>?_
 have g17:=Bmn r16
 refine Aa (gY rfl b13) (Ci (el:=57) Bja rfl r16) (Aa (gY rfl b13) (Gl rfl rfl) (l_v (Bn rfl b13 (v:=(.bool (decide (((m.pickers.length:Nat):Int) > 40)))) rfl) (Asf (.bool (decide (((m.pickers.length:Nat):Int) > 40))) (Cn (decide (((m.pickers.length:Nat):Int) > 40)) (fun b18=>?_) (fun b18=>?_)))))
 ·have q18:=of_decide_eq_true b18
  refine Ap (gN rfl b18) (Ap (gN rfl b18) (Ap (gN rfl b18) (Ap (gN rfl b18) (l_v (Bt rfl b18 (v:=(.bool (true))) rfl) (l_k k4 (Co rfl rfl (w_q rfl rfl fun K19 k19=>Lo (.bool (true)) (l_k k19 (Aj (Bmi l2) (Aq (hret _ _ _ (⟨rfl,rfl,_,rfl⟩))))))))))))
 have q18:=of_decide_eq_false b18
 refine Ak (gY rfl b18) (Ay Morn.f_baskets Bhz rfl rfl Asu (by decide) rfl r2) fun v20 r20=>Ak (gY rfl b18) (Ax Asu rfl r20) fun v21 r21=>?_
 have g22:=Bmn r21
 refine Aa (gY rfl b18) (Ci (el:=47) Bip rfl r21) (Aa (gY rfl b18) (Gl rfl rfl) (l_v (Bn rfl b18 (v:=(.bool (decide (((m.baskets.length:Nat):Int) > 40)))) rfl) (l_k k4 (Asg (t:=decide (((m.baskets.length:Nat):Int) > 40)) rfl (fun b23=>?_) (fun b23=>?_)))))
 ·have q23:=of_decide_eq_true b23
  refine w_q rfl rfl fun K24 k24=>Lo (.bool (true)) (l_k k24 (Aj (Bmi l2) (Aq (hret _ _ _ (⟨rfl,rfl,_,rfl⟩)))))
 have q23:=of_decide_eq_false b23
 refine Al (k3 _ _ _ _ ?_)
 refine w_q rfl rfl fun K25 k25=>Lo (iV (0)) (Ary rfl rfl k25 fun K26 K27 k26 k27=>Lo (iV (0)) (l_k k27 (Ao (Cc (fun mm ee dd ρ' σ'=>∃ (i:Nat) (n:Int),(m.houses.length - i) = mm∧[] = dd∧ρ2 = ρ'∧σ = σ'∧ee 1 = (.pointer (some ⟨k2,0,none⟩))∧ee 3 = (iV (n))∧ee 4 = (iV ((i:Int)))∧(i ≤ m.houses.length)∧True) (m:=_) ⟨0,0,rfl,rfl,rfl,rfl,rfl,rfl,rfl,(Nat.zero_le _),trivial⟩ ?_))))
 rintro m28 e28 _ _ _ ⟨i,n,rfl,rfl,rfl,rfl,h28_1,h28_3,h28_4,p28_0,_⟩
 refine Asb rfl rfl fun K29 K30 k29 k30=>l_v (Ah (v:=(iV ((i:Int)))) h28_4) (Arw (Ay Morn.f_houses Bhz rfl rfl Hw (by decide) h28_1 r2) fun v31 r31=>Arw (Ax Hw rfl r31) fun v32 r32=>?_)
 have g33:=Bmn r32
 refine l_v (Ci (el:=9) Bic rfl r32) (l_v (Da rfl rfl) (l_k k30 (Asg (t:=decide ((i:Int) < ((m.houses.length:Nat):Int))) rfl (fun b34=>?_) (fun b34=>?_))))
 ·have q34:=of_decide_eq_true b34
  refine Al (k29 _ _ _ _ ?_)
  refine Ai fun K35 k35=>Ao (Ag rfl rfl (l_v (Ah (v:=(iV (n))) h28_3) (Arw (Ay Morn.f_houses Bhz rfl rfl Hw (by decide) h28_1 r2) fun v36 r36=>Arw (Ax Hw rfl r36) fun v37 r37=>l_v (Ah (v:=(iV ((i:Int)))) h28_4) ?_)))
  obtain ⟨a39,ha39⟩:=Ed (xs:=m.houses) (i:=i) (by omega)
  refine Arw (Ch i Bic ty9 rfl r37 (q:=(i:Int)) rfl rfl ha39) fun v38 r38=>?_
  have g40:=At.slen r38
  refine l_v (Pk ty9 rfl r38) (l_v (Afz Bih (s:=a39) rfl) (l_v (Br rfl rfl (z:=(IntKind.i64.wrap (n + ((a39.size:Nat):Int)))) rfl) (Lo (iV ((IntKind.i64.wrap (n + ((a39.size:Nat):Int))))) (l_k k35 (Ag rfl rfl (l_v (Ah (v:=(iV ((i:Int)))) h28_4) (l_v (Br rfl rfl (z:=(((i + 1):Nat):Int)) wrE) (Lo (iV ((((i + 1):Nat):Int))) (Ac ?_)))))))))
  refine ⟨_,?_,((i + 1)),((IntKind.i64.wrap (n + ((a39.size:Nat):Int)))),rfl,rfl,rfl,rfl,h28_1,rfl,rfl,(by omega),trivial⟩
  omega
 have q34:=of_decide_eq_false b34
 refine Bx (k26 _ _ _ _ ?_)
 refine Asb rfl rfl fun K41 K42 k41 k42=>Lo (iV (0)) (l_k k42 (Ao (Cc (fun mm ee dd ρ' σ'=>∃ (i:Nat) (n:Int),(m.fields.length - i) = mm∧[] = dd∧ρ2 = ρ'∧σ = σ'∧ee 1 = (.pointer (some ⟨k2,0,none⟩))∧ee 3 = (iV (n))∧ee 5 = (iV ((i:Int)))∧(i ≤ m.fields.length)∧True) (m:=_) ⟨0,n,rfl,rfl,rfl,rfl,h28_1,h28_3,rfl,(Nat.zero_le _),trivial⟩ ?_)))
 rintro m43 e43 _ _ _ ⟨i,n,rfl,rfl,rfl,rfl,h43_1,h43_3,h43_5,p43_0,_⟩
 refine Asb rfl rfl fun K44 K45 k44 k45=>l_v (Ah (v:=(iV ((i:Int)))) h43_5) (Arw (Ay Morn.f_fields Bhz rfl rfl Asw (by decide) h43_1 r2) fun v46 r46=>Arw (Ax Asw rfl r46) fun v47 r47=>?_)
 have g48:=Bmn r47
 refine l_v (Ci (el:=55) Bim rfl r47) (l_v (Da rfl rfl) (l_k k45 (Asg (t:=decide ((i:Int) < ((m.fields.length:Nat):Int))) rfl (fun b49=>?_) (fun b49=>?_))))
 ·have q49:=of_decide_eq_true b49
  refine Al (k44 _ _ _ _ ?_)
  refine Ai fun K50 k50=>Ao (Ag rfl rfl (l_v (Ah (v:=(iV (n))) h43_3) (Arw (Ay Morn.f_fields Bhz rfl rfl Asw (by decide) h43_1 r2) fun v51 r51=>Arw (Ax Asw rfl r51) fun v52 r52=>l_v (Ah (v:=(iV ((i:Int)))) h43_5) ?_)))
  obtain ⟨a54,ha54⟩:=Ed (xs:=m.fields) (i:=i) (by omega)
  refine Arw (Ch i Bim Aty rfl r52 (q:=(i:Int)) rfl rfl ha54) fun v53 r53=>Arw (Ay PField.f_name Bix rfl rfl ty9 (by decide) rfl r53) fun v55 r55=>?_
  have g56:=At.slen r55
  refine l_v (Pk ty9 rfl r55) (l_v (Afz Bih (s:=a54.name) rfl) (l_v (Br rfl rfl (z:=(IntKind.i64.wrap (n + ((a54.name.size:Nat):Int)))) rfl) (Lo (iV ((IntKind.i64.wrap (n + ((a54.name.size:Nat):Int))))) (l_k k50 (Ag rfl rfl (l_v (Ah (v:=(iV ((i:Int)))) h43_5) (l_v (Br rfl rfl (z:=(((i + 1):Nat):Int)) wrE) (Lo (iV ((((i + 1):Nat):Int))) (Ac ?_)))))))))
  refine ⟨_,?_,((i + 1)),((IntKind.i64.wrap (n + ((a54.name.size:Nat):Int)))),rfl,rfl,rfl,rfl,h43_1,rfl,rfl,(by omega),trivial⟩
  omega
 have q49:=of_decide_eq_false b49
 refine Bx (k41 _ _ _ _ ?_)
 refine Asb rfl rfl fun K57 K58 k57 k58=>Lo (iV (0)) (l_k k58 (Ao (Cc (fun mm ee dd ρ' σ'=>∃ (i:Nat) (n:Int),(m.pickers.length - i) = mm∧[] = dd∧ρ2 = ρ'∧σ = σ'∧ee 1 = (.pointer (some ⟨k2,0,none⟩))∧ee 3 = (iV (n))∧ee 6 = (iV ((i:Int)))∧(i ≤ m.pickers.length)∧True) (m:=_) ⟨0,n,rfl,rfl,rfl,rfl,h43_1,h43_3,rfl,(Nat.zero_le _),trivial⟩ ?_)))
 rintro m59 e59 _ _ _ ⟨i,n,rfl,rfl,rfl,rfl,h59_1,h59_3,h59_6,p59_0,_⟩
 refine Asb rfl rfl fun K60 K61 k60 k61=>l_v (Ah (v:=(iV ((i:Int)))) h59_6) (Arw (Ay Morn.f_pickers Bhz rfl rfl Atm (by decide) h59_1 r2) fun v62 r62=>Arw (Ax Atm rfl r62) fun v63 r63=>?_)
 have g64:=Bmn r63
 refine l_v (Ci (el:=57) Bja rfl r63) (l_v (Da rfl rfl) (l_k k61 (Asg (t:=decide ((i:Int) < ((m.pickers.length:Nat):Int))) rfl (fun b65=>?_) (fun b65=>?_))))
 ·have q65:=of_decide_eq_true b65
  refine Al (k60 _ _ _ _ ?_)
  refine Ai fun K66 k66=>Ao (Ag rfl rfl (l_v (Ah (v:=(iV (n))) h59_3) (Arw (Ay Morn.f_pickers Bhz rfl rfl Atm (by decide) h59_1 r2) fun v67 r67=>Arw (Ax Atm rfl r67) fun v68 r68=>l_v (Ah (v:=(iV ((i:Int)))) h59_6) ?_)))
  obtain ⟨a70,ha70⟩:=Ed (xs:=m.pickers) (i:=i) (by omega)
  refine Arw (Ch i Bja Atz rfl r68 (q:=(i:Int)) rfl rfl ha70) fun v69 r69=>Arw (Ay Picker.f_name Bik rfl rfl ty9 (by decide) rfl r69) fun v71 r71=>?_
  have g72:=At.slen r71
  refine l_v (Pk ty9 rfl r71) (l_v (Afz Bih (s:=a70.name) rfl) (l_v (Br rfl rfl (z:=(IntKind.i64.wrap (n + ((a70.name.size:Nat):Int)))) rfl) (Lo (iV ((IntKind.i64.wrap (n + ((a70.name.size:Nat):Int))))) (l_k k66 (Ag rfl rfl (l_v (Ah (v:=(iV ((i:Int)))) h59_6) (l_v (Br rfl rfl (z:=(((i + 1):Nat):Int)) wrE) (Lo (iV ((((i + 1):Nat):Int))) (Ac ?_)))))))))
  refine ⟨_,?_,((i + 1)),((IntKind.i64.wrap (n + ((a70.name.size:Nat):Int)))),rfl,rfl,rfl,rfl,h59_1,rfl,rfl,(by omega),trivial⟩
  omega
 have q65:=of_decide_eq_false b65
 refine Bx (k57 _ _ _ _ ?_)
 refine w_q rfl rfl fun K73 k73=>l_v (Ah (v:=(iV (n))) h59_3) (l_v (Gl rfl rfl) (Lo (.bool (decide (n > 1000))) (l_k k73 (Aj (Bmi l2) (Aq (hret _ _ _ (⟨rfl,rfl,_,rfl⟩)))))))
theorem Axx {m:Morn} {vm:Value} (rm:Val ρ vm m):CallsH (CX mn X) 10 #[vm] ρ σ (fun w ρ' σ'=>ρ' = ρ∧σ' = σ∧∃ f:Int,w = .int .i64 f∧(f = 0→Ayn m)):=by
 refine Bh (n:=90) (args:=[vm]) [2] Tryd.func10 rfl rfl rfl rfl fun Q hret hnor=>w_q rfl rfl fun K1 k1=>Arv (Eb (v:=vm) rfl fun k2=>?_)
 refine Bb (a:=m) rm fun ρ2 l2 r2=>Lo (iV (0)) (Ary rfl rfl k1 fun K3 K4 k3 k4=>Arw (Ay Morn.f_houses Bhz rfl rfl Hw (by decide) rfl r2) fun v5 r5=>Arw (Ax Hw rfl r5) fun v6 r6=>?_)
 have g7:=Bmn r6
 refine l_v (Ci (el:=9) Bic rfl r6) (l_v (Gl rfl rfl) (l_k k4 (Asg (t:=decide (((m.houses.length:Nat):Int) > 4)) rfl (fun b8=>?_) (fun b8=>?_))))
 ·have q8:=of_decide_eq_true b8
  refine w_q rfl rfl fun K9 k9=>Lo (iV (2)) (l_k k9 (Aj (Bmi l2) (Aq (hret _ _ _ (⟨rfl,rfl,_,rfl,fun h=>absurd h (by decide)⟩)))))
 have q8:=of_decide_eq_false b8
 refine Al (k3 _ _ _ _ ?_)
 refine Asb rfl rfl fun K10 K11 k10 k11=>Lo (iV (0)) (l_k k11 (Ao (Cc (fun mm ee dd ρ' σ'=>∃ (h:Nat),(m.houses.length - h) = mm∧[] = dd∧ρ2 = ρ'∧σ = σ'∧ee 1 = (.pointer (some ⟨k2,0,none⟩))∧ee 3 = (iV (((h:Nat):Int)))∧(h ≤ m.houses.length)∧(∀ j,j < h→Nh m.houses j = 0)∧True) (m:=_) ⟨0,rfl,rfl,rfl,rfl,rfl,rfl,(Nat.zero_le _),(fun j h=>absurd h (Nat.not_lt_zero _)),trivial⟩ ?_)))
 rintro m12 e12 _ _ _ ⟨h,rfl,rfl,rfl,rfl,h12_1,h12_3,p12_0,p12_1,_⟩
 refine Asb rfl rfl fun K13 K14 k13 k14=>l_v (Ah (v:=(iV ((h:Int)))) h12_3) (Arw (Ay Morn.f_houses Bhz rfl rfl Hw (by decide) h12_1 r2) fun v15 r15=>Arw (Ax Hw rfl r15) fun v16 r16=>?_)
 have g17:=Bmn r16
 refine l_v (Ci (el:=9) Bic rfl r16) (l_v (Da rfl rfl) (l_k k14 (Asg (t:=decide ((h:Int) < ((m.houses.length:Nat):Int))) rfl (fun b18=>?_) (fun b18=>?_))))
 ·have q18:=of_decide_eq_true b18
  refine Al (k13 _ _ _ _ ?_)
  refine Ai fun K19 k19=>Ao (Asb rfl rfl fun K20 K21 k20 k21=>Arw (Ay Morn.f_houses Bhz rfl rfl Hw (by decide) h12_1 r2) fun v22 r22=>Arw (Ax Hw rfl r22) fun v23 r23=>l_v (Ah (v:=(iV ((h:Int)))) h12_3) ?_)
  obtain ⟨a25,ha25⟩:=Ed (xs:=m.houses) (i:=h) (by omega)
  refine Arw (Ch h Bic ty9 rfl r23 (q:=(h:Int)) rfl rfl ha25) fun v24 r24=>?_
  have g26:=At.slen r24
  refine l_v (Pk ty9 rfl r24) (Arv (Bm (Awf) Bla rfl rfl ⟨rfl,trivial⟩ ?_))
  refine l_v (Iy rfl) (l_k k21 (Asg (t:=!(Hg a25)) rfl (fun b27=>?_) (fun b27=>?_)))
  ·have b28:=not_eq_t b27
   refine w_q rfl rfl fun K29 k29=>Lo (iV (4)) (l_k k29 (Aj (Bmi l2) (Aq (hret _ _ _ (⟨rfl,rfl,_,rfl,fun h=>absurd h (by decide)⟩)))))
  have b30:=not_eq_f b27
  refine Al (k20 _ _ _ _ ?_)
  refine Ai fun K31 k31=>Atd (Asj 0 Aob rfl (Ay Morn.f_houses Bhz rfl rfl Hw (by decide) h12_1 r2) fun v32 r32=>Asj 1 Aoc rfl (Ax Hw rfl r32) fun v33 r33=>Ash 2 Aod rfl (Ah (v:=(iV ((h:Int)))) h12_3) (Asj 3 Aoe rfl (Awv h Bic ty9 rfl r33 (q:=(h:Int)) rfl rfl (by omega)) fun v34 r34=>Asj 4 Aof rfl (Ay Morn.f_houses Bhz rfl rfl Hw (by decide) h12_1 r2) fun v35 r35=>Asj 5 Anr rfl (Ax Hw rfl r35) fun v36 r36=>Asi 6 zZ2 rfl (Ah (v:=(iV ((h:Int)))) h12_3) (Asn 7 zZ3 rfl (Ch h Bic ty9 rfl r36 (q:=(h:Int)) rfl rfl ha25) fun v37 r37=>?_)))
  have g38:=At.slen r37
  refine Asi 8 zZ4 rfl (Pk ty9 rfl r37) (Asm 9 zZ5 rfl (Bm (Bcc r34) Tryd.func33 rfl rfl ⟨rfl,rfl,trivial⟩ ⟨Bml,?_⟩))
  refine Asi 10 zZ6 rfl (Uy rfl rfl) (Ec rfl (k31 _ _ _ _ ?_))
  refine Asg (t:=decide (Aht ((m.houses.take h)) a25 ≥ 0)) rfl (fun b39=>?_) (fun b39=>?_)
  ·have q39:=of_decide_eq_true b39
   refine w_q rfl rfl fun K40 k40=>Lo (iV (5)) (l_k k40 (Aj (Bmi l2) (Aq (hret _ _ _ (⟨rfl,rfl,_,rfl,fun h=>absurd h (by decide)⟩)))))
  have q39:=of_decide_eq_false b39
  refine Al (k19 _ _ _ _ ?_)
  refine Ag rfl rfl (l_v (Ah (v:=(iV ((h:Int)))) h12_3) (l_v (Br rfl rfl (z:=(((h + 1):Nat):Int)) wrE) (Lo (iV ((((h + 1):Nat):Int))) (Ac ?_))))
  refine ⟨_,?_,((h + 1)),rfl,rfl,rfl,rfl,h12_1,rfl,(by omega),(Eg p12_1 (by simp only [Nh,ha25,b8,b18,b27,b30,b39]; first | rfl | omega | (simp; done) | (simp; omega))),trivial⟩
  omega
 have q18:=of_decide_eq_false b18
 refine Bx (k10 _ _ _ _ ?_)
 refine Asb rfl rfl fun K41 K42 k41 k42=>Arw (Ay Morn.f_fields Bhz rfl rfl Asw (by decide) h12_1 r2) fun v43 r43=>Arw (Ax Asw rfl r43) fun v44 r44=>?_
 have g45:=Bmn r44
 refine l_v (Ci (el:=55) Bim rfl r44) (l_v (Gl rfl rfl) (l_k k42 (Asg (t:=decide (((m.fields.length:Nat):Int) > 4)) rfl (fun b46=>?_) (fun b46=>?_))))
 ·have q46:=of_decide_eq_true b46
  refine w_q rfl rfl fun K47 k47=>Lo (iV (2)) (l_k k47 (Aj (Bmi l2) (Aq (hret _ _ _ (⟨rfl,rfl,_,rfl,fun h=>absurd h (by decide)⟩)))))
 have q46:=of_decide_eq_false b46
 refine Al (k41 _ _ _ _ ?_)
 refine Asb rfl rfl fun K48 K49 k48 k49=>Lo (iV (0)) (l_k k49 (Ao (Cc (fun mm ee dd ρ' σ'=>∃ (i:Nat),(m.fields.length - i) = mm∧[] = dd∧ρ2 = ρ'∧σ = σ'∧ee 1 = (.pointer (some ⟨k2,0,none⟩))∧ee 4 = (iV ((i:Int)))∧(i ≤ m.fields.length)∧(∀ j,j < i→Ayo m j)∧True) (m:=_) ⟨0,rfl,rfl,rfl,rfl,h12_1,rfl,(Nat.zero_le _),(fun j h=>absurd h (Nat.not_lt_zero _)),trivial⟩ ?_)))
 rintro m50 e50 _ _ _ ⟨i,rfl,rfl,rfl,rfl,h50_1,h50_4,p50_0,p50_1,_⟩
 refine Asb rfl rfl fun K51 K52 k51 k52=>l_v (Ah (v:=(iV ((i:Int)))) h50_4) (Arw (Ay Morn.f_fields Bhz rfl rfl Asw (by decide) h50_1 r2) fun v53 r53=>Arw (Ax Asw rfl r53) fun v54 r54=>?_)
 have g55:=Bmn r54
 refine l_v (Ci (el:=55) Bim rfl r54) (l_v (Da rfl rfl) (l_k k52 (Asg (t:=decide ((i:Int) < ((m.fields.length:Nat):Int))) rfl (fun b56=>?_) (fun b56=>?_))))
 ·have q56:=of_decide_eq_true b56
  refine Al (k51 _ _ _ _ ?_)
  refine Ai fun K57 k57=>Ao (Asb rfl rfl fun K58 K59 k58 k59=>Arw (Ay Morn.f_fields Bhz rfl rfl Asw (by decide) h50_1 r2) fun v60 r60=>Arw (Ax Asw rfl r60) fun v61 r61=>l_v (Ah (v:=(iV ((i:Int)))) h50_4) ?_)
  obtain ⟨a63,ha63⟩:=Ed (xs:=m.fields) (i:=i) (by omega)
  refine Arw (Ch i Bim Aty rfl r61 (q:=(i:Int)) rfl rfl ha63) fun v62 r62=>Arw (Ay PField.f_name Bix rfl rfl ty9 (by decide) rfl r62) fun v64 r64=>?_
  have g65:=At.slen r64
  refine l_v (Pk ty9 rfl r64) (Arv (Bm (Awf) Bla rfl rfl ⟨rfl,trivial⟩ ?_))
  refine l_v (Iy rfl) (l_k k59 (Asg (t:=!(Hg a63.name)) rfl (fun b66=>?_) (fun b66=>?_)))
  ·have b67:=not_eq_t b66
   refine w_q rfl rfl fun K68 k68=>Lo (iV (4)) (l_k k68 (Aj (Bmi l2) (Aq (hret _ _ _ (⟨rfl,rfl,_,rfl,fun h=>absurd h (by decide)⟩)))))
  have b69:=not_eq_f b66
  refine Al (k58 _ _ _ _ ?_)
  refine Asb rfl rfl fun K70 K71 k70 k71=>Lo (iV (0)) (l_k k71 (Ao (Cc (fun mm ee dd ρ' σ'=>∃ (k:Nat),(i - k) = mm∧[] = dd∧ρ2 = ρ'∧σ = σ'∧ee 1 = (.pointer (some ⟨k2,0,none⟩))∧ee 4 = (iV ((i:Int)))∧ee 5 = (iV ((k:Int)))∧(k ≤ i)∧(∀ j,j < k→∀ y,m.fields[j]? = some y→y.name.toList ≠ a63.name.toList)∧True) (m:=_) ⟨0,rfl,rfl,rfl,rfl,h50_1,h50_4,rfl,(Nat.zero_le _),(fun j h=>absurd h (Nat.not_lt_zero _)),trivial⟩ ?_)))
  rintro m72 e72 _ _ _ ⟨k,rfl,rfl,rfl,rfl,h72_1,h72_4,h72_5,p72_0,p72_1,_⟩
  refine Asb rfl rfl fun K73 K74 k73 k74=>l_v (Ah (v:=(iV ((k:Int)))) h72_5) (l_v (Ah (v:=(iV ((i:Int)))) h72_4) (l_v (Da rfl rfl) (l_k k74 (Asg (t:=decide ((k:Int) < (i:Int))) rfl (fun b75=>?_) (fun b75=>?_)))))
  ·have q75:=of_decide_eq_true b75
   refine Al (k73 _ _ _ _ ?_)
   refine Ai fun K76 k76=>Ao (Ai fun K77 k77=>Atd (Asj 0 Bhd rfl (Ay Morn.f_fields Bhz rfl rfl Asw (by decide) h72_1 r2) fun v78 r78=>Asj 1 Bhe rfl (Ax Asw rfl r78) fun v79 r79=>Ash 2 Bhf rfl (Ah (v:=(iV ((k:Int)))) h72_5) ?_))
   obtain ⟨a81,ha81⟩:=Ed (xs:=m.fields) (i:=k) (by omega)
   refine Asj 3 Bhg rfl (Ch k Bim Aty rfl r79 (q:=(k:Int)) rfl rfl ha81) fun v80 r80=>Asj 4 Bhh rfl (Ay PField.f_name Bix rfl rfl ty9 (by decide) rfl r80) fun v82 r82=>?_
   have g83:=At.slen r82
   refine Ash 5 Bhi rfl (Pk ty9 rfl r82) (Asj 6 Bey rfl (Ay Morn.f_fields Bhz rfl rfl Asw (by decide) h72_1 r2) fun v84 r84=>Asj 7 Bez rfl (Ax Asw rfl r84) fun v85 r85=>Asi 8 Bfa rfl (Ah (v:=(iV ((i:Int)))) h72_4) (Asn 9 Bfb rfl (Ch i Bim Aty rfl r85 (q:=(i:Int)) rfl rfl ha63) fun v86 r86=>Asn 10 Bfc rfl (Ay PField.f_name Bix rfl rfl ty9 (by decide) rfl r86) fun v87 r87=>?_))
   have g88:=At.slen r87
   refine Asi 11 Bfd rfl (Pk ty9 rfl r87) (Asi 12 Bfe rfl (Bav (p:=a81.name) (q:=a63.name) rfl rfl) (Ec rfl (k77 _ _ _ _ ?_)))
   refine Asg (t:=(a81.name).toList == (a63.name).toList) rfl (fun b89=>?_) (fun b89=>?_)
   ·have q89:=Jr b89
    refine w_q rfl rfl fun K90 k90=>Lo (iV (5)) (l_k k90 (Aj (Bmi l2) (Aq (hret _ _ _ (⟨rfl,rfl,_,rfl,fun h=>absurd h (by decide)⟩)))))
   have q89:=Jq b89
   refine Al (k76 _ _ _ _ ?_)
   refine Ag rfl rfl (l_v (Ah (v:=(iV ((k:Int)))) h72_5) (l_v (Br rfl rfl (z:=(((k + 1):Nat):Int)) wrE) (Lo (iV ((((k + 1):Nat):Int))) (Ac ?_))))
   refine ⟨_,?_,((k + 1)),rfl,rfl,rfl,rfl,h72_1,h72_4,rfl,(by omega),(Eg p72_1 (fun y hy=>by rw [ha81] at hy; cases hy; simpa using b89)),trivial⟩
   omega
  have q75:=of_decide_eq_false b75
  refine Bx (k70 _ _ _ _ ?_)
  refine w_q rfl rfl fun K91 k91=>Arw (Ay Morn.f_fields Bhz rfl rfl Asw (by decide) h72_1 r2) fun v92 r92=>Arw (Ax Asw rfl r92) fun v93 r93=>l_v (Ah (v:=(iV ((i:Int)))) h72_4) (Arw (Ch i Bim Aty rfl r93 (q:=(i:Int)) rfl rfl ha63) fun v94 r94=>Arw (Ay PField.f_far Bix rfl rfl ty3 (by decide) rfl r94) fun v95 r95=>?_)
  have ⟨g96a,g96b⟩:=At.rng r95
  refine l_v (Bc ty3 rfl r95) (Arv (Bm (Ave) Bjm rfl rfl ⟨rfl,rfl,rfl,trivial⟩ ?_))
  refine l_v (Iy rfl) (Asf (.bool (!(inR a63.far 0 24))) (Cn (!(inR a63.far 0 24)) (fun b97=>?_) (fun b97=>?_)))
  ·have b98:=not_eq_t b97
   have q98:=Tr.1 b98
   refine Ap (gN rfl b97) (Ap (gN rfl b97) (Ap (gN rfl b97) (Ap (gN rfl b97) (Ap (gN rfl b97) (Ap (gN rfl b97) (Ap (gN rfl b97) (Ap (gN rfl b97) (l_v (Bt rfl b97 (v:=(.bool (true))) rfl) (l_k k91 (Co rfl rfl (w_q rfl rfl fun K99 k99=>Lo (iV (1)) (l_k k99 (Aj (Bmi l2) (Aq (hret _ _ _ (⟨rfl,rfl,_,rfl,fun h=>absurd h (by decide)⟩))))))))))))))))
  have b100:=not_eq_f b97
  have q100:=Fz.1 b100
  refine Ak (gY rfl b97) (Ay Morn.f_fields Bhz rfl rfl Asw (by decide) h72_1 r2) fun v101 r101=>Ak (gY rfl b97) (Ax Asw rfl r101) fun v102 r102=>Aa (gY rfl b97) (Ah (v:=(iV ((i:Int)))) h72_4) (Ak (gY rfl b97) (Ch i Bim Aty rfl r102 (q:=(i:Int)) rfl rfl ha63) fun v103 r103=>Ak (gY rfl b97) (Ay PField.f_sun Bix rfl rfl ty3 (by decide) rfl r103) fun v104 r104=>?_)
  have ⟨g105a,g105b⟩:=At.rng r104
  refine Aa (gY rfl b97) (Bc ty3 rfl r104) (Ae (gY rfl b97) (Bm (Ave) Bjm rfl rfl ⟨rfl,rfl,rfl,trivial⟩ ?_))
  refine Aa (gY rfl b97) (Iy rfl) (l_v (Bn rfl b97 (v:=(.bool (!(inR a63.sun 0 10)))) rfl) (l_k k91 (Asg (t:=!(inR a63.sun 0 10)) rfl (fun b106=>?_) (fun b106=>?_))))
  ·have b107:=not_eq_t b106
   have q107:=Tr.1 b107
   refine w_q rfl rfl fun K108 k108=>Lo (iV (1)) (l_k k108 (Aj (Bmi l2) (Aq (hret _ _ _ (⟨rfl,rfl,_,rfl,fun h=>absurd h (by decide)⟩)))))
  have b109:=not_eq_f b106
  have q109:=Fz.1 b109
  refine Al (k57 _ _ _ _ ?_)
  refine Ag rfl rfl (l_v (Ah (v:=(iV ((i:Int)))) h72_4) (l_v (Br rfl rfl (z:=(((i + 1):Nat):Int)) wrE) (Lo (iV ((((i + 1):Nat):Int))) (Ac ?_))))
  refine ⟨_,?_,((i + 1)),rfl,rfl,rfl,rfl,h72_1,rfl,(by omega),(Eg p50_1 (fun x hx=>by rw [ha63] at hx; cases hx; exact ⟨by simp [b8,b18,b46,b56,b66,b69,b75,b97,b100,b106,b109],fun k y hk hy=>p72_1 k (by omega) y hy,by omega,by omega⟩)),trivial⟩
  omega
 have q56:=of_decide_eq_false b56
 refine Bx (k48 _ _ _ _ ?_)
 refine w_q rfl rfl fun K110 k110=>Lo (iV (0)) (l_k k110 (Aj (Bmi l2) (Aq (hret _ _ _ (⟨rfl,rfl,_,rfl,fun _=>⟨(by rw [Dd,if_neg (by omega),Fb fun j hj=>p12_1 j (by omega)]),by omega,fun j hj=>p50_1 j (by omega)⟩⟩)))))
theorem Axa {m:Morn} {vm:Value} (rm:Val ρ vm m):CallsH (CX mn X) 11 #[vm] ρ σ (fun w ρ' σ'=>ρ' = ρ∧σ' = σ∧∃ f:Int,w = .int .i64 f∧(f = 0→Axg m)):=by
 refine Bh (n:=63) (args:=[vm]) [2] Tryd.func11 rfl rfl rfl rfl fun Q hret hnor=>w_q rfl rfl fun K1 k1=>Arv (Eb (v:=vm) rfl fun k2=>?_)
 refine Bb (a:=m) rm fun ρ2 l2 r2=>Lo (iV (0)) (Ary rfl rfl k1 fun K3 K4 k3 k4=>Arw (Ay Morn.f_pickers Bhz rfl rfl Atm (by decide) rfl r2) fun v5 r5=>Arw (Ax Atm rfl r5) fun v6 r6=>?_)
 have g7:=Bmn r6
 refine l_v (Ci (el:=57) Bja rfl r6) (l_v (Gl rfl rfl) (l_k k4 (Asg (t:=decide (((m.pickers.length:Nat):Int) > 5)) rfl (fun b8=>?_) (fun b8=>?_))))
 ·have q8:=of_decide_eq_true b8
  refine w_q rfl rfl fun K9 k9=>Lo (iV (2)) (l_k k9 (Aj (Bmi l2) (Aq (hret _ _ _ (⟨rfl,rfl,_,rfl,fun h=>absurd h (by decide)⟩)))))
 have q8:=of_decide_eq_false b8
 refine Al (k3 _ _ _ _ ?_)
 refine Asb rfl rfl fun K10 K11 k10 k11=>Lo (iV (0)) (l_k k11 (Ao (Cc (fun mm ee dd ρ' σ'=>∃ (i:Nat),(m.pickers.length - i) = mm∧[] = dd∧ρ2 = ρ'∧σ = σ'∧ee 1 = (.pointer (some ⟨k2,0,none⟩))∧ee 3 = (iV ((i:Int)))∧(i ≤ m.pickers.length)∧(∀ j,j < i→Ayp m j)∧True) (m:=_) ⟨0,rfl,rfl,rfl,rfl,rfl,rfl,(Nat.zero_le _),(fun j h=>absurd h (Nat.not_lt_zero _)),trivial⟩ ?_)))
 rintro m12 e12 _ _ _ ⟨i,rfl,rfl,rfl,rfl,h12_1,h12_3,p12_0,p12_1,_⟩
 refine Asb rfl rfl fun K13 K14 k13 k14=>l_v (Ah (v:=(iV ((i:Int)))) h12_3) (Arw (Ay Morn.f_pickers Bhz rfl rfl Atm (by decide) h12_1 r2) fun v15 r15=>Arw (Ax Atm rfl r15) fun v16 r16=>?_)
 have g17:=Bmn r16
 refine l_v (Ci (el:=57) Bja rfl r16) (l_v (Da rfl rfl) (l_k k14 (Asg (t:=decide ((i:Int) < ((m.pickers.length:Nat):Int))) rfl (fun b18=>?_) (fun b18=>?_))))
 ·have q18:=of_decide_eq_true b18
  refine Al (k13 _ _ _ _ ?_)
  refine Ai fun K19 k19=>Ao (w_q rfl rfl fun K20 k20=>Arw (Ay Morn.f_pickers Bhz rfl rfl Atm (by decide) h12_1 r2) fun v21 r21=>Arw (Ax Atm rfl r21) fun v22 r22=>l_v (Ah (v:=(iV ((i:Int)))) h12_3) ?_)
  obtain ⟨a24,ha24⟩:=Ed (xs:=m.pickers) (i:=i) (by omega)
  refine Arw (Ch i Bja Atz rfl r22 (q:=(i:Int)) rfl rfl ha24) fun v23 r23=>Arw (Ax Atz rfl r23) fun v25 r25=>Arv (Ct Bap fun k26=>?_)
  refine Cx rfl (Dv (v:=v25) (a:=a24) (c:=Ban) Atz rfl rfl r25 rfl ?_)
  refine Bb (a:=a24) r25 fun ρ27 l27 r27=>?_
  replace r2:=Bmg l27 r2
  refine Ary rfl rfl k20 fun K28 K29 k28 k29=>Arw (Ay Picker.f_name Bik rfl rfl ty9 (by decide) rfl r27) fun v30 r30=>?_
  have g31:=At.slen r30
  refine l_v (Pk ty9 rfl r30) (Arv (Bm (Awf) Bla rfl rfl ⟨rfl,trivial⟩ ?_))
  refine l_v (Iy rfl) (l_k k29 (Asg (t:=!(Hg a24.name)) rfl (fun b32=>?_) (fun b32=>?_)))
  ·have b33:=not_eq_t b32
   refine w_q rfl rfl fun K34 k34=>Lo (iV (4)) (l_k k34 (Aj (Bmi (Bmm l2 l27)) (Aq (hret _ _ _ (⟨rfl,rfl,_,rfl,fun h=>absurd h (by decide)⟩)))))
  have b35:=not_eq_f b32
  refine Al (k28 _ _ _ _ ?_)
  refine Asb rfl rfl fun K36 K37 k36 k37=>Lo (iV (0)) (l_k k37 (Ao (Cc (fun mm ee dd ρ' σ'=>∃ (k:Nat),(i - k) = mm∧[] = dd∧ρ27 = ρ'∧σ = σ'∧ee 1 = (.pointer (some ⟨k2,0,none⟩))∧ee 3 = (iV ((i:Int)))∧ee 4 = (.pointer (some ⟨k26,0,none⟩))∧ee 5 = (iV ((k:Int)))∧(k ≤ i)∧(∀ j,j < k→∀ y,m.pickers[j]? = some y→y.name.toList ≠ a24.name.toList)∧True) (m:=_) ⟨0,rfl,rfl,rfl,rfl,h12_1,h12_3,rfl,rfl,(Nat.zero_le _),(fun j h=>absurd h (Nat.not_lt_zero _)),trivial⟩ ?_)))
  rintro m38 e38 _ _ _ ⟨k,rfl,rfl,rfl,rfl,h38_1,h38_3,h38_4,h38_5,p38_0,p38_1,_⟩
  refine Asb rfl rfl fun K39 K40 k39 k40=>l_v (Ah (v:=(iV ((k:Int)))) h38_5) (l_v (Ah (v:=(iV ((i:Int)))) h38_3) (l_v (Da rfl rfl) (l_k k40 (Asg (t:=decide ((k:Int) < (i:Int))) rfl (fun b41=>?_) (fun b41=>?_)))))
  ·have q41:=of_decide_eq_true b41
   refine Al (k39 _ _ _ _ ?_)
   refine Ai fun K42 k42=>Ao (Ai fun K43 k43=>Atd (Asj 0 Aqn rfl (Ay Morn.f_pickers Bhz rfl rfl Atm (by decide) h38_1 r2) fun v44 r44=>Asj 1 Aqo rfl (Ax Atm rfl r44) fun v45 r45=>Ash 2 Aqp rfl (Ah (v:=(iV ((k:Int)))) h38_5) ?_))
   obtain ⟨a47,ha47⟩:=Ed (xs:=m.pickers) (i:=k) (by omega)
   refine Asj 3 Aqq rfl (Ch k Bja Atz rfl r45 (q:=(k:Int)) rfl rfl ha47) fun v46 r46=>Asj 4 Aqr rfl (Ay Picker.f_name Bik rfl rfl ty9 (by decide) rfl r46) fun v48 r48=>?_
   have g49:=At.slen r48
   refine Ash 5 Aqs rfl (Pk ty9 rfl r48) (Asn 6 Aqt rfl (Ay Picker.f_name Bik rfl rfl ty9 (by decide) h38_4 r27) fun v50 r50=>?_)
   have g51:=At.slen r50
   refine Asi 7 Aqu rfl (Pk ty9 rfl r50) (Asi 8 Aqv rfl (Bav (p:=a47.name) (q:=a24.name) rfl rfl) (Ec rfl (k43 _ _ _ _ ?_)))
   refine Asg (t:=(a47.name).toList == (a24.name).toList) rfl (fun b52=>?_) (fun b52=>?_)
   ·have q52:=Jr b52
    refine w_q rfl rfl fun K53 k53=>Lo (iV (5)) (l_k k53 (Aj (Bmi (Bmm l2 l27)) (Aq (hret _ _ _ (⟨rfl,rfl,_,rfl,fun h=>absurd h (by decide)⟩)))))
   have q52:=Jq b52
   refine Al (k42 _ _ _ _ ?_)
   refine Ag rfl rfl (l_v (Ah (v:=(iV ((k:Int)))) h38_5) (l_v (Br rfl rfl (z:=(((k + 1):Nat):Int)) wrE) (Lo (iV ((((k + 1):Nat):Int))) (Ac ?_))))
   refine ⟨_,?_,((k + 1)),rfl,rfl,rfl,rfl,h38_1,h38_3,h38_4,rfl,(by omega),(Eg p38_1 (fun y hy=>by rw [ha47] at hy; cases hy; simpa using b52)),trivial⟩
   omega
  have q41:=of_decide_eq_false b41
  refine Bx (k36 _ _ _ _ ?_)
  refine Asb rfl rfl fun K54 K55 k54 k55=>Arw (Ay Picker.f_house Bik rfl rfl ty3 (by decide) h38_4 r27) fun v56 r56=>?_
  have ⟨g57a,g57b⟩:=At.rng r56
  refine l_v (Bc ty3 rfl r56) (Arw (Ay Morn.f_houses Bhz rfl rfl Hw (by decide) h38_1 r2) fun v58 r58=>Arw (Ax Hw rfl r58) fun v59 r59=>?_)
  have g60:=Bmn r59
  refine l_v (Ci (el:=9) Bic rfl r59) (l_v (Ou rfl rfl (z:=(((m.houses.length:Nat):Int) - 1)) wrE) (Arv (Bm (Ave) Bjm rfl rfl ⟨rfl,rfl,rfl,trivial⟩ ?_)))
  refine l_v (Iy rfl) (l_k k55 (Asg (t:=!(inR a24.house 0 ((((m.houses.length:Nat):Int) - 1)))) rfl (fun b61=>?_) (fun b61=>?_)))
  ·have b62:=not_eq_t b61
   have q62:=Tr.1 b62
   refine w_q rfl rfl fun K63 k63=>Lo (iV (6)) (l_k k63 (Aj (Bmi (Bmm l2 l27)) (Aq (hret _ _ _ (⟨rfl,rfl,_,rfl,fun h=>absurd h (by decide)⟩)))))
  have b64:=not_eq_f b61
  have q64:=Fz.1 b64
  refine Al (k54 _ _ _ _ ?_)
  refine Asb rfl rfl fun K65 K66 k65 k66=>Arw (Ay Picker.f_from_ Bik rfl rfl ty3 (by decide) h38_4 r27) fun v67 r67=>?_
  have ⟨g68a,g68b⟩:=At.rng r67
  refine l_v (Bc ty3 rfl r67) (Arv (Bm (Ave) Bjm rfl rfl ⟨rfl,rfl,rfl,trivial⟩ ?_))
  refine l_v (Iy rfl) (Asf (.bool (!(inR a24.from_ 0 24))) (Cn (!(inR a24.from_ 0 24)) (fun b69=>?_) (fun b69=>?_)))
  ·have b70:=not_eq_t b69
   have q70:=Tr.1 b70
   refine Ap (gN rfl b69) (Ap (gN rfl b69) (Ap (gN rfl b69) (Ap (gN rfl b69) (l_v (Bt rfl b69 (v:=(.bool (true))) rfl) (l_k k66 (Co rfl rfl (w_q rfl rfl fun K71 k71=>Lo (iV (1)) (l_k k71 (Aj (Bmi (Bmm l2 l27)) (Aq (hret _ _ _ (⟨rfl,rfl,_,rfl,fun h=>absurd h (by decide)⟩))))))))))))
  have b72:=not_eq_f b69
  have q72:=Fz.1 b72
  refine Ak (gY rfl b69) (Ay Picker.f_till Bik rfl rfl ty3 (by decide) h38_4 r27) fun v73 r73=>?_
  have ⟨g74a,g74b⟩:=At.rng r73
  refine Aa (gY rfl b69) (Bc ty3 rfl r73) (Ae (gY rfl b69) (Bm (Ave) Bjm rfl rfl ⟨rfl,rfl,rfl,trivial⟩ ?_))
  refine Aa (gY rfl b69) (Iy rfl) (l_v (Bn rfl b69 (v:=(.bool (!(inR a24.till 0 24)))) rfl) (l_k k66 (Asg (t:=!(inR a24.till 0 24)) rfl (fun b75=>?_) (fun b75=>?_))))
  ·have b76:=not_eq_t b75
   have q76:=Tr.1 b76
   refine w_q rfl rfl fun K77 k77=>Lo (iV (1)) (l_k k77 (Aj (Bmi (Bmm l2 l27)) (Aq (hret _ _ _ (⟨rfl,rfl,_,rfl,fun h=>absurd h (by decide)⟩)))))
  have b78:=not_eq_f b75
  have q78:=Fz.1 b78
  refine Al (k65 _ _ _ _ ?_)
  refine w_q rfl rfl fun K79 k79=>Arw (Ay Picker.f_till Bik rfl rfl ty3 (by decide) h38_4 r27) fun v80 r80=>?_
  have ⟨g81a,g81b⟩:=At.rng r80
  refine l_v (Bc ty3 rfl r80) (Arw (Ay Picker.f_from_ Bik rfl rfl ty3 (by decide) h38_4 r27) fun v82 r82=>?_)
  have ⟨g83a,g83b⟩:=At.rng r82
  refine l_v (Bc ty3 rfl r82) (l_v (Da rfl rfl) (l_k k79 (Asg (t:=decide (a24.till < a24.from_)) rfl (fun b84=>?_) (fun b84=>?_))))
  ·have q84:=of_decide_eq_true b84
   refine w_q rfl rfl fun K85 k85=>Lo (iV (7)) (l_k k85 (Aj (Bmi (Bmm l2 l27)) (Aq (hret _ _ _ (⟨rfl,rfl,_,rfl,fun h=>absurd h (by decide)⟩)))))
  have q84:=of_decide_eq_false b84
  refine Al (k19 _ _ _ _ ?_)
  refine Ag rfl rfl (l_v (Ah (v:=(iV ((i:Int)))) h38_3) (l_v (Br rfl rfl (z:=(((i + 1):Nat):Int)) wrE) (Lo (iV ((((i + 1):Nat):Int))) (Bj (Bmi l27) (Ac ?_)))))
  refine ⟨_,?_,((i + 1)),rfl,rfl,rfl,rfl,h38_1,rfl,(by omega),(Eg p12_1 (fun x hx=>by rw [ha24] at hx; cases hx; exact ⟨by simp [b8,b18,b32,b35,b41,b61,b64,b69,b72,b75,b78,b84],fun k y hk hy=>p38_1 k (by omega) y hy,by omega,by omega,by omega,by omega⟩)),trivial⟩
  omega
 have q18:=of_decide_eq_false b18
 refine Bx (k10 _ _ _ _ ?_)
 refine w_q rfl rfl fun K86 k86=>Lo (iV (0)) (l_k k86 (Aj (Bmi l2) (Aq (hret _ _ _ (⟨rfl,rfl,_,rfl,fun _=>⟨by omega,fun j hj=>p12_1 j (by omega)⟩⟩)))))
theorem Bbi {m:Morn} {vm:Value} (rm:Val ρ vm m):CallsH (CX mn X) 5 #[vm] ρ σ (fun w ρ' σ'=>ρ' = ρ∧σ' = σ∧∃ f:Int,w = .int .i64 f∧(f = 0→MornOk m)):=by
 refine Bh (n:=77) (args:=[vm]) [2] Tryd.func5 rfl rfl rfl rfl fun Q hret hnor=>w_q rfl rfl fun K1 k1=>Arv (Eb (v:=vm) rfl fun k2=>?_)
 refine Bb (a:=m) rm fun ρ2 l2 r2=>Lo (iV (0)) (Ary rfl rfl k1 fun K3 K4 k3 k4=>Arw (Ax Ata rfl r2) fun v5 r5=>Arv (Cm (vs:=[v5]) (Axx r5) Tryd.func10 rfl rfl ⟨rfl,trivial⟩ fun w6 ρ6 σ6 hc6=>?_))
 obtain ⟨hr6,hs6,f6_,hw6,hz6⟩:=hc6
 replace hr6:=hr6.symm; replace hs6:=hs6.symm; subst hr6 hs6 hw6
 refine Lo (iV (f6_)) (Arx rfl rfl k4 fun K7 k7=>Asf (iV (f6_)) (l_v (Dg rfl rfl) (l_k k7 (Asg (t:=f6_ != 0) rfl (fun b8=>?_) (fun b8=>?_)))))
 ·have q8:=Ls b8
  refine w_q rfl rfl fun K9 k9=>Asf (iV (f6_)) (Lo (iV (f6_)) (l_k k9 (Aj (Bmi l2) (Aq (hret _ _ _ (⟨rfl,rfl,_,rfl,fun h=>absurd h q8⟩))))))
 have q8:=Jh b8
 refine Al (k3 _ _ _ _ ?_)
 refine Asb rfl rfl fun K10 K11 k10 k11=>Arw (Ax Ata rfl r2) fun v12 r12=>Arv (Cm (vs:=[v12]) (Axa r12) Tryd.func11 rfl rfl ⟨rfl,trivial⟩ fun w13 ρ13 σ13 hc13=>?_)
 obtain ⟨hr13,hs13,f13_,hw13,hz13⟩:=hc13
 replace hr13:=hr13.symm; replace hs13:=hs13.symm; subst hr13 hs13 hw13
 refine Lo (iV (f13_)) (Arx rfl rfl k11 fun K14 k14=>Asf (iV (f13_)) (l_v (Dg rfl rfl) (l_k k14 (Asg (t:=f13_ != 0) rfl (fun b15=>?_) (fun b15=>?_)))))
 ·have q15:=Ls b15
  refine w_q rfl rfl fun K16 k16=>Asf (iV (f13_)) (Lo (iV (f13_)) (l_k k16 (Aj (Bmi l2) (Aq (hret _ _ _ (⟨rfl,rfl,_,rfl,fun h=>absurd h q15⟩))))))
 have q15:=Jh b15
 refine Al (k10 _ _ _ _ ?_)
 refine Asb rfl rfl fun K17 K18 k17 k18=>Arw (Ay Morn.f_baskets Bhz rfl rfl Asu (by decide) rfl r2) fun v19 r19=>Arw (Ax Asu rfl r19) fun v20 r20=>?_
 have g21:=Bmn r20
 refine l_v (Ci (el:=47) Bip rfl r20) (l_v (Gl rfl rfl) (l_k k18 (Asg (t:=decide (((m.baskets.length:Nat):Int) > 9)) rfl (fun b22=>?_) (fun b22=>?_))))
 ·have q22:=of_decide_eq_true b22
  refine w_q rfl rfl fun K23 k23=>Lo (iV (2)) (l_k k23 (Aj (Bmi l2) (Aq (hret _ _ _ (⟨rfl,rfl,_,rfl,fun h=>absurd h (by decide)⟩)))))
 have q22:=of_decide_eq_false b22
 refine Al (k17 _ _ _ _ ?_)
 refine Asb rfl rfl fun K24 K25 k24 k25=>Lo (iV (0)) (l_k k25 (Ao (Cc (fun mm ee dd ρ' σ'=>∃ (i:Nat),(m.baskets.length - i) = mm∧[] = dd∧ρ2 = ρ'∧σ = σ'∧ee 1 = (.pointer (some ⟨k2,0,none⟩))∧ee 5 = (iV ((i:Int)))∧(i ≤ m.baskets.length)∧(∀ j,j < i→Aym m j)∧True) (m:=_) ⟨0,rfl,rfl,rfl,rfl,rfl,rfl,(Nat.zero_le _),(fun j h=>absurd h (Nat.not_lt_zero _)),trivial⟩ ?_)))
 rintro m26 e26 _ _ _ ⟨i,rfl,rfl,rfl,rfl,h26_1,h26_5,p26_0,p26_1,_⟩
 refine Asb rfl rfl fun K27 K28 k27 k28=>l_v (Ah (v:=(iV ((i:Int)))) h26_5) (Arw (Ay Morn.f_baskets Bhz rfl rfl Asu (by decide) h26_1 r2) fun v29 r29=>Arw (Ax Asu rfl r29) fun v30 r30=>?_)
 have g31:=Bmn r30
 refine l_v (Ci (el:=47) Bip rfl r30) (l_v (Da rfl rfl) (l_k k28 (Asg (t:=decide ((i:Int) < ((m.baskets.length:Nat):Int))) rfl (fun b32=>?_) (fun b32=>?_))))
 ·have q32:=of_decide_eq_true b32
  refine Al (k27 _ _ _ _ ?_)
  refine Ai fun K33 k33=>Ao (w_q rfl rfl fun K34 k34=>Arw (Ay Morn.f_baskets Bhz rfl rfl Asu (by decide) h26_1 r2) fun v35 r35=>Arw (Ax Asu rfl r35) fun v36 r36=>l_v (Ah (v:=(iV ((i:Int)))) h26_5) ?_)
  obtain ⟨a38,ha38⟩:=Ed (xs:=m.baskets) (i:=i) (by omega)
  refine Arw (Ch i Bip Ati rfl r36 (q:=(i:Int)) rfl rfl ha38) fun v37 r37=>Arw (Ax Ati rfl r37) fun v39 r39=>Arv (Ct Awx fun k40=>?_)
  refine Cx rfl (Dv (v:=v39) (a:=a38) (c:=Aww) Ati rfl rfl r39 rfl ?_)
  refine Bb (a:=a38) r39 fun ρ41 l41 r41=>?_
  replace r2:=Bmg l41 r2
  refine Ary rfl rfl k34 fun K42 K43 k42 k43=>Arw (Ay Basket.f_field Bid rfl rfl ty3 (by decide) rfl r41) fun v44 r44=>?_
  have ⟨g45a,g45b⟩:=At.rng r44
  refine l_v (Bc ty3 rfl r44) (Arw (Ay Morn.f_fields Bhz rfl rfl Asw (by decide) h26_1 r2) fun v46 r46=>Arw (Ax Asw rfl r46) fun v47 r47=>?_)
  have g48:=Bmn r47
  refine l_v (Ci (el:=55) Bim rfl r47) (l_v (Ou rfl rfl (z:=(((m.fields.length:Nat):Int) - 1)) wrE) (Arv (Bm (Ave) Bjm rfl rfl ⟨rfl,rfl,rfl,trivial⟩ ?_)))
  refine l_v (Iy rfl) (Asf (.bool (!(inR a38.field 0 ((((m.fields.length:Nat):Int) - 1))))) (Cn (!(inR a38.field 0 ((((m.fields.length:Nat):Int) - 1)))) (fun b49=>?_) (fun b49=>?_)))
  ·have b50:=not_eq_t b49
   have q50:=Tr.1 b50
   refine Ap (gN rfl b49) (Ap (gN rfl b49) (Ap (gN rfl b49) (Ap (gN rfl b49) (Ap (gN rfl b49) (Ap (gN rfl b49) (Ap (gN rfl b49) (Ap (gN rfl b49) (l_v (Bt rfl b49 (v:=(.bool (true))) rfl) (l_k k43 (Co rfl rfl (w_q rfl rfl fun K51 k51=>Lo (iV (6)) (l_k k51 (Aj (Bmi (Bmm l2 l41)) (Aq (hret _ _ _ (⟨rfl,rfl,_,rfl,fun h=>absurd h (by decide)⟩))))))))))))))))
  have b52:=not_eq_f b49
  have q52:=Fz.1 b52
  refine Ak (gY rfl b49) (Ay Basket.f_house Bid rfl rfl ty3 (by decide) rfl r41) fun v53 r53=>?_
  have ⟨g54a,g54b⟩:=At.rng r53
  refine Aa (gY rfl b49) (Bc ty3 rfl r53) (Ak (gY rfl b49) (Ay Morn.f_houses Bhz rfl rfl Hw (by decide) h26_1 r2) fun v55 r55=>Ak (gY rfl b49) (Ax Hw rfl r55) fun v56 r56=>?_)
  have g57:=Bmn r56
  refine Aa (gY rfl b49) (Ci (el:=9) Bic rfl r56) (Aa (gY rfl b49) (Ou rfl rfl (z:=(((m.houses.length:Nat):Int) - 1)) wrE) (Ae (gY rfl b49) (Bm (Ave) Bjm rfl rfl ⟨rfl,rfl,rfl,trivial⟩ ?_)))
  refine Aa (gY rfl b49) (Iy rfl) (l_v (Bn rfl b49 (v:=(.bool (!(inR a38.house 0 ((((m.houses.length:Nat):Int) - 1)))))) rfl) (l_k k43 (Asg (t:=!(inR a38.house 0 ((((m.houses.length:Nat):Int) - 1)))) rfl (fun b58=>?_) (fun b58=>?_))))
  ·have b59:=not_eq_t b58
   have q59:=Tr.1 b59
   refine w_q rfl rfl fun K60 k60=>Lo (iV (6)) (l_k k60 (Aj (Bmi (Bmm l2 l41)) (Aq (hret _ _ _ (⟨rfl,rfl,_,rfl,fun h=>absurd h (by decide)⟩)))))
  have b61:=not_eq_f b58
  have q61:=Fz.1 b61
  refine Al (k42 _ _ _ _ ?_)
  refine w_q rfl rfl fun K62 k62=>Arw (Ay Basket.f_opens Bid rfl rfl ty3 (by decide) rfl r41) fun v63 r63=>?_
  have ⟨g64a,g64b⟩:=At.rng r63
  refine l_v (Bc ty3 rfl r63) (Arv (Bm (Ave) Bjm rfl rfl ⟨rfl,rfl,rfl,trivial⟩ ?_))
  refine l_v (Iy rfl) (Asf (.bool (!(inR a38.opens 0 23))) (Cn (!(inR a38.opens 0 23)) (fun b65=>?_) (fun b65=>?_)))
  ·have b66:=not_eq_t b65
   have q66:=Tr.1 b66
   refine Ap (gN rfl b65) (Ap (gN rfl b65) (Ap (gN rfl b65) (Ap (gN rfl b65) (l_v (Bt rfl b65 (v:=(.bool (true))) rfl) (Asf (.bool (true)) (Ap (gN rfl rfl) (Ap (gN rfl rfl) (Ap (gN rfl rfl) (Ap (gN rfl rfl) (l_v (Bt rfl rfl (v:=(.bool (true))) rfl) (Asf (.bool (true)) (Ap (gN rfl rfl) (Ap (gN rfl rfl) (Ap (gN rfl rfl) (Ap (gN rfl rfl) (l_v (Bt rfl rfl (v:=(.bool (true))) rfl) (l_k k62 (Co rfl rfl (w_q rfl rfl fun K67 k67=>Lo (iV (1)) (l_k k67 (Aj (Bmi (Bmm l2 l41)) (Aq (hret _ _ _ (⟨rfl,rfl,_,rfl,fun h=>absurd h (by decide)⟩))))))))))))))))))))))))
  have b68:=not_eq_f b65
  have q68:=Fz.1 b68
  refine Ak (gY rfl b65) (Ay Basket.f_keeps Bid rfl rfl Mx (by decide) rfl r41) fun v69 r69=>Ak (gY rfl b65) (Ax Mx rfl r69) fun v70 r70=>Ae (gY rfl b65) (Bm (Avf r70) Bli rfl rfl ⟨rfl,rfl,rfl,trivial⟩ ?_)
  refine Aa (gY rfl b65) (Iy rfl) (l_v (Bn rfl b65 (v:=(.bool (!(Ef a38.keeps 0 24)))) rfl) (Asf (.bool (!(Ef a38.keeps 0 24))) (Cn (!(Ef a38.keeps 0 24)) (fun b71=>?_) (fun b71=>?_))))
  ·have b72:=not_eq_t b71
   have q72:=trivial
   refine Ap (gN rfl b71) (Ap (gN rfl b71) (Ap (gN rfl b71) (Ap (gN rfl b71) (l_v (Bt rfl b71 (v:=(.bool (true))) rfl) (Asf (.bool (true)) (Ap (gN rfl rfl) (Ap (gN rfl rfl) (Ap (gN rfl rfl) (Ap (gN rfl rfl) (l_v (Bt rfl rfl (v:=(.bool (true))) rfl) (l_k k62 (Co rfl rfl (w_q rfl rfl fun K73 k73=>Lo (iV (1)) (l_k k73 (Aj (Bmi (Bmm l2 l41)) (Aq (hret _ _ _ (⟨rfl,rfl,_,rfl,fun h=>absurd h (by decide)⟩))))))))))))))))))
  have b74:=not_eq_f b71
  have q74:=Re.1 b74
  refine Ak (gY rfl b71) (Ay Basket.f_worth Bid rfl rfl ty3 (by decide) rfl r41) fun v75 r75=>?_
  have ⟨g76a,g76b⟩:=At.rng r75
  refine Aa (gY rfl b71) (Bc ty3 rfl r75) (Ae (gY rfl b71) (Bm (Ave) Bjm rfl rfl ⟨rfl,rfl,rfl,trivial⟩ ?_))
  refine Aa (gY rfl b71) (Iy rfl) (l_v (Bn rfl b71 (v:=(.bool (!(inR a38.worth 0 10000)))) rfl) (Asf (.bool (!(inR a38.worth 0 10000))) (Cn (!(inR a38.worth 0 10000)) (fun b77=>?_) (fun b77=>?_))))
  ·have b78:=not_eq_t b77
   have q78:=Tr.1 b78
   refine Ap (gN rfl b77) (Ap (gN rfl b77) (Ap (gN rfl b77) (Ap (gN rfl b77) (l_v (Bt rfl b77 (v:=(.bool (true))) rfl) (l_k k62 (Co rfl rfl (w_q rfl rfl fun K79 k79=>Lo (iV (1)) (l_k k79 (Aj (Bmi (Bmm l2 l41)) (Aq (hret _ _ _ (⟨rfl,rfl,_,rfl,fun h=>absurd h (by decide)⟩))))))))))))
  have b80:=not_eq_f b77
  have q80:=Fz.1 b80
  refine Ak (gY rfl b77) (Ay Basket.f_stays Bid rfl rfl ty3 (by decide) rfl r41) fun v81 r81=>?_
  have ⟨g82a,g82b⟩:=At.rng r81
  refine Aa (gY rfl b77) (Bc ty3 rfl r81) (Ae (gY rfl b77) (Bm (Ave) Bjm rfl rfl ⟨rfl,rfl,rfl,trivial⟩ ?_))
  refine Aa (gY rfl b77) (Iy rfl) (l_v (Bn rfl b77 (v:=(.bool (!(inR a38.stays 0 10000)))) rfl) (l_k k62 (Asg (t:=!(inR a38.stays 0 10000)) rfl (fun b83=>?_) (fun b83=>?_))))
  ·have b84:=not_eq_t b83
   have q84:=Tr.1 b84
   refine w_q rfl rfl fun K85 k85=>Lo (iV (1)) (l_k k85 (Aj (Bmi (Bmm l2 l41)) (Aq (hret _ _ _ (⟨rfl,rfl,_,rfl,fun h=>absurd h (by decide)⟩)))))
  have b86:=not_eq_f b83
  have q86:=Fz.1 b86
  refine Al (k33 _ _ _ _ ?_)
  refine Ag rfl rfl (l_v (Ah (v:=(iV ((i:Int)))) h26_5) (l_v (Br rfl rfl (z:=(((i + 1):Nat):Int)) wrE) (Lo (iV ((((i + 1):Nat):Int))) (Bj (Bmi l41) (Ac ?_)))))
  refine ⟨_,?_,((i + 1)),rfl,rfl,rfl,rfl,h26_1,rfl,(by omega),(Eg p26_1 (fun x hx=>by rw [ha38] at hx; cases hx; exact ⟨by omega,by omega,by omega,q74,by omega,by omega⟩)),trivial⟩
  omega
 have q32:=of_decide_eq_false b32
 refine Bx (k24 _ _ _ _ ?_)
 refine Asb rfl rfl fun K87 K88 k87 k88=>Arw (Ay Morn.f_warm Bhz rfl rfl Mx (by decide) h26_1 r2) fun v89 r89=>Arw (Ax Mx rfl r89) fun v90 r90=>Arv (Bm (Avf r90) Bli rfl rfl ⟨rfl,rfl,rfl,trivial⟩ ?_)
 refine l_v (Iy rfl) (l_k k88 (Asg (t:=!(Ef m.warm 0 40)) rfl (fun b91=>?_) (fun b91=>?_)))
 ·have b92:=not_eq_t b91
  have q92:=trivial
  refine w_q rfl rfl fun K93 k93=>Lo (iV (1)) (l_k k93 (Aj (Bmi l2) (Aq (hret _ _ _ (⟨rfl,rfl,_,rfl,fun h=>absurd h (by decide)⟩)))))
 have b94:=not_eq_f b91
 have q94:=Re.1 b94
 refine Al (k87 _ _ _ _ ?_)
 refine w_q rfl rfl fun K95 k95=>Lo (iV (0)) (l_k k95 (Aj (Bmi l2) (Aq (hret _ _ _ (⟨rfl,rfl,_,rfl,fun _=>⟨(hz6 q8),(hz13 q15),by omega,fun j hj=>p26_1 j (by omega),q94⟩⟩)))))
end
section
set_option maxHeartbeats 1000000
open Go
theorem Aui {α:Type} {l:List α} {i:Nat} {x:α} (h:l[i]? = some x):i < l.length:=(List.getElem?_eq_some_iff.1 h).1
theorem Bai {l:List ByteArray} {m:Int} (h:Dd l m = 0):(l.length:Int) ≤ m:=by
 unfold Dd at h
 split at h
 ·cases h
 ·omega
theorem Awl {s:ByteArray} (h:Hg s = true):s.size ≤ 14:=by
 unfold Hg at h
 rw [Bool.and_eq_true,Bool.and_eq_true] at h
 have:=Fz.1 h.1.1
 omega
theorem Axj {l:List ByteArray} {i:Nat} {x:ByteArray} (h:∀ (k:Nat) (y:ByteArray),k < i→l[k]? = some y→y.toList ≠ x.toList):inL (l.take i) x = false:=by
 unfold inL
 rw [List.any_eq_false]
 intro y hy
 obtain ⟨k,hk⟩:=List.mem_iff_getElem?.1 hy
 rw [List.getElem?_take] at hk
 split at hk
 ·rename_i hki
  simpa using fun e=>h k y hki hk e.symm
 ·cases hk
theorem Awk {α:Type} {f:α→ByteArray} {l:List α} {i:Nat} {x:α} (hx:l[i]? = some x) (h:∀ (k:Nat) (y:α),k < i→l[k]? = some y→(f y).toList ≠ (f x).toList):inL ((l.map f).take i) (f x) = false:=Axj fun k y hk hy=>by
 rw [List.getElem?_map] at hy
 obtain ⟨z,hz,rfl⟩:=Option.map_eq_some_iff.1 hy
 exact h k z hk hz
end
section
open Go
theorem Asq {α β:Type} [Dat α] [Dat β] {ρ:Ro} {c1 c2:List Value} {a:α} {b:β} (h1:Dat.rep ρ c1 a) (h2:Dat.rep ρ c2 b):Dat.rep ρ (c1 ++ c2) (a,b):=⟨c1,c2,rfl,h1,h2⟩
theorem Asx {ρ:Ro} {a:Int} (h:I64 a):Dat.rep ρ [.int .i64 a] a:=⟨rfl,h⟩
theorem Auo {α:Type} [Dat α] {ρ:Ro} {c:Value} {a:List α} (h:Val ρ c a):Dat.rep ρ [c] a:=⟨c,rfl,Cs.1 h⟩
theorem Bhp {ρ:Ro} {c:Value} {a:MapRef} (h:Val ρ c a):Dat.rep ρ [c] a:=by
 obtain ⟨cs,h1,h2⟩:=h
 have h3:cs = [.map (some a.r)]:=h1
 subst h3; subst h2; exact h1
structure WTurn where
 holder:Int
 hours:Int
deriving DecidableEq
instance:Dat WTurn:=.iso fun x=>(x.holder,x.hours)
theorem WTurn.open_ {ρ:Ro} {v:Value} {x:WTurn} (h:Val ρ v x):v = .agg #[.int .i64 x.holder,.int .i64 x.hours]∧I64 x.holder∧I64 x.hours:=by
 obtain ⟨cs,⟨q0,r0,f0,⟨a1,b1⟩,⟨a2,b2⟩⟩,hv⟩:=h
 subst f0
 subst a1
 subst a2
 exact ⟨hv,b1,b2⟩
theorem WTurn.shut {ρ:Ro} {x:WTurn} (h0:I64 x.holder) (h1:I64 x.hours):Val ρ (.agg #[.int .i64 x.holder,.int .i64 x.hours]) x:=⟨[.int .i64 x.holder,.int .i64 x.hours],⟨[.int .i64 x.holder],[.int .i64 x.hours],rfl,⟨rfl,h0⟩,⟨rfl,h1⟩⟩,rfl⟩
structure WSwap where
 cycle:Int
 a:Int
 b:Int
deriving DecidableEq
instance:Dat WSwap:=.iso fun x=>(x.cycle,(x.a,x.b))
theorem WSwap.open_ {ρ:Ro} {v:Value} {x:WSwap} (h:Val ρ v x):v = .agg #[.int .i64 x.cycle,.int .i64 x.a,.int .i64 x.b]∧I64 x.cycle∧I64 x.a∧I64 x.b:=by
 obtain ⟨cs,⟨q0,r0,f0,⟨a1,b1⟩,⟨q2,r2,f2,⟨a3,b3⟩,⟨a4,b4⟩⟩⟩,hv⟩:=h
 subst f0
 subst f2
 subst a1
 subst a3
 subst a4
 exact ⟨hv,b1,b3,b4⟩
theorem WSwap.shut {ρ:Ro} {x:WSwap} (h0:I64 x.cycle) (h1:I64 x.a) (h2:I64 x.b):Val ρ (.agg #[.int .i64 x.cycle,.int .i64 x.a,.int .i64 x.b]) x:=⟨[.int .i64 x.cycle,.int .i64 x.a,.int .i64 x.b],⟨[.int .i64 x.cycle],([.int .i64 x.a] ++ [.int .i64 x.b]),rfl,⟨rfl,h0⟩,⟨[.int .i64 x.a],[.int .i64 x.b],rfl,⟨rfl,h1⟩,⟨rfl,h2⟩⟩⟩,rfl⟩
structure WLoan where
 cycle:Int
 turn:Int
 to:Int
deriving DecidableEq
instance:Dat WLoan:=.iso fun x=>(x.cycle,(x.turn,x.to))
theorem WLoan.open_ {ρ:Ro} {v:Value} {x:WLoan} (h:Val ρ v x):v = .agg #[.int .i64 x.cycle,.int .i64 x.turn,.int .i64 x.to]∧I64 x.cycle∧I64 x.turn∧I64 x.to:=by
 obtain ⟨cs,⟨q0,r0,f0,⟨a1,b1⟩,⟨q2,r2,f2,⟨a3,b3⟩,⟨a4,b4⟩⟩⟩,hv⟩:=h
 subst f0
 subst f2
 subst a1
 subst a3
 subst a4
 exact ⟨hv,b1,b3,b4⟩
theorem WLoan.shut {ρ:Ro} {x:WLoan} (h0:I64 x.cycle) (h1:I64 x.turn) (h2:I64 x.to):Val ρ (.agg #[.int .i64 x.cycle,.int .i64 x.turn,.int .i64 x.to]) x:=⟨[.int .i64 x.cycle,.int .i64 x.turn,.int .i64 x.to],⟨[.int .i64 x.cycle],([.int .i64 x.turn] ++ [.int .i64 x.to]),rfl,⟨rfl,h0⟩,⟨[.int .i64 x.turn],[.int .i64 x.to],rfl,⟨rfl,h1⟩,⟨rfl,h2⟩⟩⟩,rfl⟩
structure WPlot where
 name:ByteArray
 holder:Int
 far:Int
 needs:Span
 worth:Int
deriving DecidableEq
instance:Dat WPlot:=.iso fun x=>(x.name,(x.holder,(x.far,(x.needs,x.worth))))
theorem WPlot.f_name:Fld WPlot (ByteArray) 0 WPlot.name:=⟨fun ρ cs x=>(Fld.fst:Fld ((ByteArray) × (Int) × (Int) × (Span) × (Int)) (ByteArray) 0 _).at_ ρ cs (x.name,(x.holder,(x.far,(x.needs,x.worth))))⟩
theorem WPlot.f_far:Fld WPlot (Int) 2 WPlot.far:=⟨fun ρ cs x=>((.snd (.snd Fld.fst)):Fld ((ByteArray) × (Int) × (Int) × (Span) × (Int)) (Int) 2 _).at_ ρ cs (x.name,(x.holder,(x.far,(x.needs,x.worth))))⟩
theorem WPlot.f_worth:Fld WPlot (Int) 5 WPlot.worth:=⟨fun ρ cs x=>((.snd (.snd (.snd (.snd Fld.self)))):Fld ((ByteArray) × (Int) × (Int) × (Span) × (Int)) (Int) 5 _).at_ ρ cs (x.name,(x.holder,(x.far,(x.needs,x.worth))))⟩
theorem WPlot.open_ {ρ:Ro} {v:Value} {x:WPlot} (h:Val ρ v x):v = .agg #[.string x.name,.int .i64 x.holder,.int .i64 x.far,.int .i64 x.needs.low,.int .i64 x.needs.high,.int .i64 x.worth]∧x.name.size < 2 ^ 60∧I64 x.holder∧I64 x.far∧I64 x.needs.low∧I64 x.needs.high∧I64 x.worth:=by
 obtain ⟨cs,⟨q0,r0,f0,⟨a1,b1⟩,⟨q2,r2,f2,⟨a3,b3⟩,⟨q4,r4,f4,⟨a5,b5⟩,⟨q6,r6,f6,⟨q7,r7,f7,⟨a8,b8⟩,⟨a9,b9⟩⟩,⟨a10,b10⟩⟩⟩⟩⟩,hv⟩:=h
 subst f0
 subst f2
 subst f4
 subst f7
 subst f6
 subst a1
 subst a3
 subst a5
 subst a8
 subst a9
 subst a10
 exact ⟨hv,b1,b3,b5,b8,b9,b10⟩
theorem WPlot.shut {ρ:Ro} {x:WPlot} (h0:x.name.size < 2 ^ 60) (h1:I64 x.holder) (h2:I64 x.far) (h3:I64 x.needs.low) (h4:I64 x.needs.high) (h5:I64 x.worth):Val ρ (.agg #[.string x.name,.int .i64 x.holder,.int .i64 x.far,.int .i64 x.needs.low,.int .i64 x.needs.high,.int .i64 x.worth]) x:=⟨[.string x.name,.int .i64 x.holder,.int .i64 x.far,.int .i64 x.needs.low,.int .i64 x.needs.high,.int .i64 x.worth],⟨[.string x.name],([.int .i64 x.holder] ++ ([.int .i64 x.far] ++ (([.int .i64 x.needs.low] ++ [.int .i64 x.needs.high]) ++ [.int .i64 x.worth]))),rfl,⟨rfl,h0⟩,⟨[.int .i64 x.holder],([.int .i64 x.far] ++ (([.int .i64 x.needs.low] ++ [.int .i64 x.needs.high]) ++ [.int .i64 x.worth])),rfl,⟨rfl,h1⟩,⟨[.int .i64 x.far],(([.int .i64 x.needs.low] ++ [.int .i64 x.needs.high]) ++ [.int .i64 x.worth]),rfl,⟨rfl,h2⟩,⟨([.int .i64 x.needs.low] ++ [.int .i64 x.needs.high]),[.int .i64 x.worth],rfl,⟨[.int .i64 x.needs.low],[.int .i64 x.needs.high],rfl,⟨rfl,h3⟩,⟨rfl,h4⟩⟩,⟨rfl,h5⟩⟩⟩⟩⟩,rfl⟩
structure Ditch where
 holders:List ByteArray
 turns:List WTurn
 begin_:Int
 week:Int
 restFrom:Int
 restLong:Int
 feasts:List Span
 swaps:List WSwap
 loans:List WLoan
 flow:Span
 loss:Span
 plots:List WPlot
deriving DecidableEq
instance:Dat Ditch:=.iso fun x=>(x.holders,(x.turns,(x.begin_,(x.week,(x.restFrom,(x.restLong,(x.feasts,(x.swaps,(x.loans,(x.flow,(x.loss,x.plots)))))))))))
theorem Ditch.open_ {ρ:Ro} {v:Value} {x:Ditch} (h:Val ρ v x):∃ c0 c1 c2 c3 c4 c5,v = .agg #[c0,c1,.int .i64 x.begin_,.int .i64 x.week,.int .i64 x.restFrom,.int .i64 x.restLong,c2,c3,c4,.int .i64 x.flow.low,.int .i64 x.flow.high,.int .i64 x.loss.low,.int .i64 x.loss.high,c5]∧Val ρ c0 x.holders∧Val ρ c1 x.turns∧I64 x.begin_∧I64 x.week∧I64 x.restFrom∧I64 x.restLong∧Val ρ c2 x.feasts∧Val ρ c3 x.swaps∧Val ρ c4 x.loans∧I64 x.flow.low∧I64 x.flow.high∧I64 x.loss.low∧I64 x.loss.high∧Val ρ c5 x.plots:=by
 obtain ⟨cs,⟨q0,r0,f0,⟨w1,a1,b1⟩,⟨q2,r2,f2,⟨w3,a3,b3⟩,⟨q4,r4,f4,⟨a5,b5⟩,⟨q6,r6,f6,⟨a7,b7⟩,⟨q8,r8,f8,⟨a9,b9⟩,⟨q10,r10,f10,⟨a11,b11⟩,⟨q12,r12,f12,⟨w13,a13,b13⟩,⟨q14,r14,f14,⟨w15,a15,b15⟩,⟨q16,r16,f16,⟨w17,a17,b17⟩,⟨q18,r18,f18,⟨q19,r19,f19,⟨a20,b20⟩,⟨a21,b21⟩⟩,⟨q22,r22,f22,⟨q23,r23,f23,⟨a24,b24⟩,⟨a25,b25⟩⟩,⟨w26,a26,b26⟩⟩⟩⟩⟩⟩⟩⟩⟩⟩⟩⟩,hv⟩:=h
 subst f0
 subst f2
 subst f4
 subst f6
 subst f8
 subst f10
 subst f12
 subst f14
 subst f16
 subst f19
 subst f18
 subst f23
 subst f22
 subst a1
 subst a3
 subst a5
 subst a7
 subst a9
 subst a11
 subst a13
 subst a15
 subst a17
 subst a20
 subst a21
 subst a24
 subst a25
 subst a26
 exact ⟨w1,w3,w13,w15,w17,w26,hv,Cs.2 b1,Cs.2 b3,b5,b7,b9,b11,Cs.2 b13,Cs.2 b15,Cs.2 b17,b20,b21,b24,b25,Cs.2 b26⟩
theorem Ditch.shut {ρ:Ro} {x:Ditch} {c0 c1 c2 c3 c4 c5:Value} (h0:Val ρ c0 x.holders) (h1:Val ρ c1 x.turns) (h2:I64 x.begin_) (h3:I64 x.week) (h4:I64 x.restFrom) (h5:I64 x.restLong) (h6:Val ρ c2 x.feasts) (h7:Val ρ c3 x.swaps) (h8:Val ρ c4 x.loans) (h9:I64 x.flow.low) (h10:I64 x.flow.high) (h11:I64 x.loss.low) (h12:I64 x.loss.high) (h13:Val ρ c5 x.plots):Val ρ (.agg #[c0,c1,.int .i64 x.begin_,.int .i64 x.week,.int .i64 x.restFrom,.int .i64 x.restLong,c2,c3,c4,.int .i64 x.flow.low,.int .i64 x.flow.high,.int .i64 x.loss.low,.int .i64 x.loss.high,c5]) x:=⟨_,(show Dat.rep ρ _ (x.holders,(x.turns,(x.begin_,(x.week,(x.restFrom,(x.restLong,(x.feasts,(x.swaps,(x.loans,(x.flow,(x.loss,x.plots))))))))))) from (Asq (Auo h0) (Asq (Auo h1) (Asq (Asx h2) (Asq (Asx h3) (Asq (Asx h4) (Asq (Asx h5) (Asq (Auo h6) (Asq (Auo h7) (Asq (Auo h8) (Asq (show Dat.rep ρ _ x.flow from (Asq (Asx h9) (Asx h10))) (Asq (show Dat.rep ρ _ x.loss from (Asq (Asx h11) (Asx h12))) (Auo h13))))))))))))),rfl⟩
structure WOpen where
 holder:Int
 from_:Int
 till:Int
deriving DecidableEq
instance:Dat WOpen:=.iso fun x=>(x.holder,(x.from_,x.till))
theorem WOpen.f_from_:Fld WOpen (Int) 1 WOpen.from_:=⟨fun ρ cs x=>((.snd Fld.fst):Fld ((Int) × (Int) × (Int)) (Int) 1 _).at_ ρ cs (x.holder,(x.from_,x.till))⟩
theorem WOpen.f_till:Fld WOpen (Int) 2 WOpen.till:=⟨fun ρ cs x=>((.snd (.snd Fld.self)):Fld ((Int) × (Int) × (Int)) (Int) 2 _).at_ ρ cs (x.holder,(x.from_,x.till))⟩
theorem WOpen.open_ {ρ:Ro} {v:Value} {x:WOpen} (h:Val ρ v x):v = .agg #[.int .i64 x.holder,.int .i64 x.from_,.int .i64 x.till]∧I64 x.holder∧I64 x.from_∧I64 x.till:=by
 obtain ⟨cs,⟨q0,r0,f0,⟨a1,b1⟩,⟨q2,r2,f2,⟨a3,b3⟩,⟨a4,b4⟩⟩⟩,hv⟩:=h
 subst f0
 subst f2
 subst a1
 subst a3
 subst a4
 exact ⟨hv,b1,b3,b4⟩
theorem WOpen.shut {ρ:Ro} {x:WOpen} (h0:I64 x.holder) (h1:I64 x.from_) (h2:I64 x.till):Val ρ (.agg #[.int .i64 x.holder,.int .i64 x.from_,.int .i64 x.till]) x:=⟨[.int .i64 x.holder,.int .i64 x.from_,.int .i64 x.till],⟨[.int .i64 x.holder],([.int .i64 x.from_] ++ [.int .i64 x.till]),rfl,⟨rfl,h0⟩,⟨[.int .i64 x.from_],[.int .i64 x.till],rfl,⟨rfl,h1⟩,⟨rfl,h2⟩⟩⟩,rfl⟩
structure WLog where
 clock:Span
 openings:List WOpen
deriving DecidableEq
instance:Dat WLog:=.iso fun x=>(x.clock,x.openings)
theorem WLog.open_ {ρ:Ro} {v:Value} {x:WLog} (h:Val ρ v x):∃ c0,v = .agg #[.int .i64 x.clock.low,.int .i64 x.clock.high,c0]∧I64 x.clock.low∧I64 x.clock.high∧Val ρ c0 x.openings:=by
 obtain ⟨cs,⟨q0,r0,f0,⟨q1,r1,f1,⟨a2,b2⟩,⟨a3,b3⟩⟩,⟨w4,a4,b4⟩⟩,hv⟩:=h
 subst f1
 subst f0
 subst a2
 subst a3
 subst a4
 exact ⟨w4,hv,b2,b3,Cs.2 b4⟩
theorem WLog.shut {ρ:Ro} {x:WLog} {c0:Value} (h0:I64 x.clock.low) (h1:I64 x.clock.high) (h2:Val ρ c0 x.openings):Val ρ (.agg #[.int .i64 x.clock.low,.int .i64 x.clock.high,c0]) x:=⟨[.int .i64 x.clock.low,.int .i64 x.clock.high,c0],⟨([.int .i64 x.clock.low] ++ [.int .i64 x.clock.high]),[c0],rfl,⟨[.int .i64 x.clock.low],[.int .i64 x.clock.high],rfl,⟨rfl,h0⟩,⟨rfl,h1⟩⟩,⟨c0,rfl,Cs.1 h2⟩⟩,rfl⟩
structure DitchP where
 d:Ditch
deriving DecidableEq
instance:Dat DitchP:=.iso fun x=>x.d
theorem DitchP.open_ {ρ:Ro} {v:Value} {x:DitchP} (h:Val ρ v x):∃ c0 c1 c2 c3 c4 c5,v = .agg #[c0,c1,.int .i64 x.d.begin_,.int .i64 x.d.week,.int .i64 x.d.restFrom,.int .i64 x.d.restLong,c2,c3,c4,.int .i64 x.d.flow.low,.int .i64 x.d.flow.high,.int .i64 x.d.loss.low,.int .i64 x.d.loss.high,c5]∧Val ρ c0 x.d.holders∧Val ρ c1 x.d.turns∧I64 x.d.begin_∧I64 x.d.week∧I64 x.d.restFrom∧I64 x.d.restLong∧Val ρ c2 x.d.feasts∧Val ρ c3 x.d.swaps∧Val ρ c4 x.d.loans∧I64 x.d.flow.low∧I64 x.d.flow.high∧I64 x.d.loss.low∧I64 x.d.loss.high∧Val ρ c5 x.d.plots:=by
 obtain ⟨cs,⟨q0,r0,f0,⟨w1,a1,b1⟩,⟨q2,r2,f2,⟨w3,a3,b3⟩,⟨q4,r4,f4,⟨a5,b5⟩,⟨q6,r6,f6,⟨a7,b7⟩,⟨q8,r8,f8,⟨a9,b9⟩,⟨q10,r10,f10,⟨a11,b11⟩,⟨q12,r12,f12,⟨w13,a13,b13⟩,⟨q14,r14,f14,⟨w15,a15,b15⟩,⟨q16,r16,f16,⟨w17,a17,b17⟩,⟨q18,r18,f18,⟨q19,r19,f19,⟨a20,b20⟩,⟨a21,b21⟩⟩,⟨q22,r22,f22,⟨q23,r23,f23,⟨a24,b24⟩,⟨a25,b25⟩⟩,⟨w26,a26,b26⟩⟩⟩⟩⟩⟩⟩⟩⟩⟩⟩⟩,hv⟩:=h
 subst f0
 subst f2
 subst f4
 subst f6
 subst f8
 subst f10
 subst f12
 subst f14
 subst f16
 subst f19
 subst f18
 subst f23
 subst f22
 subst a1
 subst a3
 subst a5
 subst a7
 subst a9
 subst a11
 subst a13
 subst a15
 subst a17
 subst a20
 subst a21
 subst a24
 subst a25
 subst a26
 exact ⟨w1,w3,w13,w15,w17,w26,hv,Cs.2 b1,Cs.2 b3,b5,b7,b9,b11,Cs.2 b13,Cs.2 b15,Cs.2 b17,b20,b21,b24,b25,Cs.2 b26⟩
theorem DitchP.shut {ρ:Ro} {x:DitchP} {c0 c1 c2 c3 c4 c5:Value} (h0:Val ρ c0 x.d.holders) (h1:Val ρ c1 x.d.turns) (h2:I64 x.d.begin_) (h3:I64 x.d.week) (h4:I64 x.d.restFrom) (h5:I64 x.d.restLong) (h6:Val ρ c2 x.d.feasts) (h7:Val ρ c3 x.d.swaps) (h8:Val ρ c4 x.d.loans) (h9:I64 x.d.flow.low) (h10:I64 x.d.flow.high) (h11:I64 x.d.loss.low) (h12:I64 x.d.loss.high) (h13:Val ρ c5 x.d.plots):Val ρ (.agg #[c0,c1,.int .i64 x.d.begin_,.int .i64 x.d.week,.int .i64 x.d.restFrom,.int .i64 x.d.restLong,c2,c3,c4,.int .i64 x.d.flow.low,.int .i64 x.d.flow.high,.int .i64 x.d.loss.low,.int .i64 x.d.loss.high,c5]) x:=⟨_,(show Dat.rep ρ _ x.d from (show Dat.rep ρ _ x.d from (Asq (Auo h0) (Asq (Auo h1) (Asq (Asx h2) (Asq (Asx h3) (Asq (Asx h4) (Asq (Asx h5) (Asq (Auo h6) (Asq (Auo h7) (Asq (Auo h8) (Asq (show Dat.rep ρ _ x.d.flow from (Asq (Asx h9) (Asx h10))) (Asq (show Dat.rep ρ _ x.d.loss from (Asq (Asx h11) (Asx h12))) (Auo h13)))))))))))))),rfl⟩
structure Ends where
 e0:Int
 e1:Int
 e2:Int
 e3:Int
 e4:Int
 e5:Int
 e6:Int
 e7:Int
 e8:Int
 e9:Int
 e10:Int
 e11:Int
deriving DecidableEq
instance:Dat Ends:=.iso fun x=>(x.e0,(x.e1,(x.e2,(x.e3,(x.e4,(x.e5,(x.e6,(x.e7,(x.e8,(x.e9,(x.e10,x.e11)))))))))))
theorem Ends.open_ {ρ:Ro} {v:Value} {x:Ends} (h:Val ρ v x):v = .agg #[.int .i64 x.e0,.int .i64 x.e1,.int .i64 x.e2,.int .i64 x.e3,.int .i64 x.e4,.int .i64 x.e5,.int .i64 x.e6,.int .i64 x.e7,.int .i64 x.e8,.int .i64 x.e9,.int .i64 x.e10,.int .i64 x.e11]∧I64 x.e0∧I64 x.e1∧I64 x.e2∧I64 x.e3∧I64 x.e4∧I64 x.e5∧I64 x.e6∧I64 x.e7∧I64 x.e8∧I64 x.e9∧I64 x.e10∧I64 x.e11:=by
 obtain ⟨cs,⟨q0,r0,f0,⟨a1,b1⟩,⟨q2,r2,f2,⟨a3,b3⟩,⟨q4,r4,f4,⟨a5,b5⟩,⟨q6,r6,f6,⟨a7,b7⟩,⟨q8,r8,f8,⟨a9,b9⟩,⟨q10,r10,f10,⟨a11,b11⟩,⟨q12,r12,f12,⟨a13,b13⟩,⟨q14,r14,f14,⟨a15,b15⟩,⟨q16,r16,f16,⟨a17,b17⟩,⟨q18,r18,f18,⟨a19,b19⟩,⟨q20,r20,f20,⟨a21,b21⟩,⟨a22,b22⟩⟩⟩⟩⟩⟩⟩⟩⟩⟩⟩⟩,hv⟩:=h
 subst f0
 subst f2
 subst f4
 subst f6
 subst f8
 subst f10
 subst f12
 subst f14
 subst f16
 subst f18
 subst f20
 subst a1
 subst a3
 subst a5
 subst a7
 subst a9
 subst a11
 subst a13
 subst a15
 subst a17
 subst a19
 subst a21
 subst a22
 exact ⟨hv,b1,b3,b5,b7,b9,b11,b13,b15,b17,b19,b21,b22⟩
theorem Ends.shut {ρ:Ro} {x:Ends} (h0:I64 x.e0) (h1:I64 x.e1) (h2:I64 x.e2) (h3:I64 x.e3) (h4:I64 x.e4) (h5:I64 x.e5) (h6:I64 x.e6) (h7:I64 x.e7) (h8:I64 x.e8) (h9:I64 x.e9) (h10:I64 x.e10) (h11:I64 x.e11):Val ρ (.agg #[.int .i64 x.e0,.int .i64 x.e1,.int .i64 x.e2,.int .i64 x.e3,.int .i64 x.e4,.int .i64 x.e5,.int .i64 x.e6,.int .i64 x.e7,.int .i64 x.e8,.int .i64 x.e9,.int .i64 x.e10,.int .i64 x.e11]) x:=⟨_,(show Dat.rep ρ _ (x.e0,(x.e1,(x.e2,(x.e3,(x.e4,(x.e5,(x.e6,(x.e7,(x.e8,(x.e9,(x.e10,x.e11))))))))))) from (Asq (Asx h0) (Asq (Asx h1) (Asq (Asx h2) (Asq (Asx h3) (Asq (Asx h4) (Asq (Asx h5) (Asq (Asx h6) (Asq (Asx h7) (Asq (Asx h8) (Asq (Asx h9) (Asq (Asx h10) (Asx h11))))))))))))),rfl⟩
structure Water where
 ditch:DitchP
 ends:Ends
 long:Int
 usual:List Int
 others:MapRef
instance:Dat Water:=.iso fun x=>(x.ditch,(x.ends,(x.long,(x.usual,x.others))))
theorem Water.shut {ρ:Ro} {x:Water} {c0 c1 c2 c3 c4 c5 c6 c7:Value} (h0:Val ρ c0 x.ditch.d.holders) (h1:Val ρ c1 x.ditch.d.turns) (h2:I64 x.ditch.d.begin_) (h3:I64 x.ditch.d.week) (h4:I64 x.ditch.d.restFrom) (h5:I64 x.ditch.d.restLong) (h6:Val ρ c2 x.ditch.d.feasts) (h7:Val ρ c3 x.ditch.d.swaps) (h8:Val ρ c4 x.ditch.d.loans) (h9:I64 x.ditch.d.flow.low) (h10:I64 x.ditch.d.flow.high) (h11:I64 x.ditch.d.loss.low) (h12:I64 x.ditch.d.loss.high) (h13:Val ρ c5 x.ditch.d.plots) (h14:I64 x.ends.e0) (h15:I64 x.ends.e1) (h16:I64 x.ends.e2) (h17:I64 x.ends.e3) (h18:I64 x.ends.e4) (h19:I64 x.ends.e5) (h20:I64 x.ends.e6) (h21:I64 x.ends.e7) (h22:I64 x.ends.e8) (h23:I64 x.ends.e9) (h24:I64 x.ends.e10) (h25:I64 x.ends.e11) (h26:I64 x.long) (h27:Val ρ c6 x.usual) (h28:Val ρ c7 x.others):Val ρ (.agg #[c0,c1,.int .i64 x.ditch.d.begin_,.int .i64 x.ditch.d.week,.int .i64 x.ditch.d.restFrom,.int .i64 x.ditch.d.restLong,c2,c3,c4,.int .i64 x.ditch.d.flow.low,.int .i64 x.ditch.d.flow.high,.int .i64 x.ditch.d.loss.low,.int .i64 x.ditch.d.loss.high,c5,.int .i64 x.ends.e0,.int .i64 x.ends.e1,.int .i64 x.ends.e2,.int .i64 x.ends.e3,.int .i64 x.ends.e4,.int .i64 x.ends.e5,.int .i64 x.ends.e6,.int .i64 x.ends.e7,.int .i64 x.ends.e8,.int .i64 x.ends.e9,.int .i64 x.ends.e10,.int .i64 x.ends.e11,.int .i64 x.long,c6,c7]) x:=⟨_,(show Dat.rep ρ _ (x.ditch,(x.ends,(x.long,(x.usual,x.others)))) from (Asq (show Dat.rep ρ _ x.ditch from (show Dat.rep ρ _ x.ditch.d from (Asq (Auo h0) (Asq (Auo h1) (Asq (Asx h2) (Asq (Asx h3) (Asq (Asx h4) (Asq (Asx h5) (Asq (Auo h6) (Asq (Auo h7) (Asq (Auo h8) (Asq (show Dat.rep ρ _ x.ditch.d.flow from (Asq (Asx h9) (Asx h10))) (Asq (show Dat.rep ρ _ x.ditch.d.loss from (Asq (Asx h11) (Asx h12))) (Auo h13)))))))))))))) (Asq (show Dat.rep ρ _ x.ends from (Asq (Asx h14) (Asq (Asx h15) (Asq (Asx h16) (Asq (Asx h17) (Asq (Asx h18) (Asq (Asx h19) (Asq (Asx h20) (Asq (Asx h21) (Asq (Asx h22) (Asq (Asx h23) (Asq (Asx h24) (Asx h25))))))))))))) (Asq (Asx h26) (Asq (Auo h27) (Bhp h28)))))),rfl⟩
def Bgj (d:Ditch) (i:Nat):Int:=((d.turns.take i).map (·.hours)).sum
def Bgm (d:Ditch):Int:=Bgj d d.turns.length
def Bdb (d:Ditch):List Int:=d.turns.map (·.holder)
abbrev Oth:=List (Int × List Int)
def Bhm (L:Oth) (c:Int):Bool:=L.any (fun z=>z.1 == c)
def Bbj (d:Ditch) (L:Oth) (c:Int):Oth:=if Bhm L c then L else L ++ [(c,Bdb d)]
def atO (L:Oth) (c:Int):List Int:=match L.find? (fun z=>z.1 == c) with | some z=>z.2 | none=>[]
/-- A cycle's owners,set. -/
def Bft (L:Oth) (c:Int) (l:List Int):Oth:=L.map fun z=>if z.1 = c then (z.1,l) else z
def Bgs (d:Ditch) (L:Oth) (s:WSwap):Oth :=
 Bft (Bbj d L s.cycle) s.cycle (((atO (Bbj d L s.cycle) s.cycle).set s.a.toNat ((atO (Bbj d L s.cycle) s.cycle).getD s.b.toNat 0)).set s.b.toNat ((atO (Bbj d L s.cycle) s.cycle).getD s.a.toNat 0))
def Bgl (d:Ditch) (L:Oth) (s:WLoan):Oth:=Bft (Bbj d L s.cycle) s.cycle ((atO (Bbj d L s.cycle) s.cycle).set s.turn.toNat s.to)
def Bfw (d:Ditch) (i:Nat):Oth:=(d.swaps.take i).foldl (Bgs d) []
def Bfr (d:Ditch) (i:Nat):Oth:=(d.loans.take i).foldl (Bgl d) (Bfw d d.swaps.length)
def Bho (d:Ditch):Oth:=Bfr d d.loans.length
theorem Axl {l:List ByteArray} {m:Int} (h:Dd l m = 0):(∀ (i:Nat) (x:ByteArray),l[i]? = some x→Hg x = true)∧∀ (i k:Nat) (x y:ByteArray),l[i]? = some x→k < i→l[k]? = some y→y.toList ≠ x.toList:=by
 unfold Dd at h
 split at h
 ·cases h
 ·rw [Fx] at h
  refine ⟨fun i x hx=>?_,fun i k x y hx hk hy e=>?_⟩
  ·have h1:=h i (List.getElem?_eq_some_iff.1 hx).1
   simp only [Nh,hx] at h1
   split at h1
   ·assumption
   ·cases h1
  ·have hi:=(List.getElem?_eq_some_iff.1 hx).1
   have h1:=h i hi
   simp only [Nh,hx] at h1
   split at h1
   ·split at h1
    ·cases h1
    ·rename_i h2
     unfold Aht at h2
     rcases Ft (n:=(l.take i).length) (p:=Xi (l.take i) x) with ⟨j,hj,_,_,he⟩ | ⟨h3,he⟩
     ·rw [he] at h2; simp only at h2; omega
     ·have h4:=h3 k (by rw [List.length_take]; omega)
      have h5:(l.take i)[k]? = some y:=by rw [List.getElem?_take,if_pos hk]; exact hy
      simp only [Xi,h5] at h4
      rw [e] at h4
      simp at h4
   ·cases h1
end
section
set_option maxHeartbeats 1000000
open Go
variable {mn:Bool} {X:Frame→List Frame→Ro→Own→Cy→Prop} {ρ:Ro} {σ:Own}
theorem Asy {n low high:Int} :CallsH (CX mn X) 120 #[(iV (n)),(iV (low)),(iV (high))] ρ σ (rP ρ σ (.bool (inR n low high))):=by
 refine Bh (n:=15) (args:=[(iV (n)),(iV (low)),(iV (high))]) [6] Bju rfl rfl rfl rfl fun Q hret hnor=>w_q rfl rfl fun K1 k1=>Lo (.bool (false)) (Arx rfl rfl k1 fun K2 k2=>Asf (iV (low)) (Asf (iV (n)) (l_v (Uz rfl rfl) (Asf (.bool (decide (low ≤ n))) (Cn (decide (low ≤ n)) (fun b3=>?_) (fun b3=>?_))))))
 ·have q3:=of_decide_eq_true b3
  refine l_M (iV (n)) (gY rfl b3) rfl (l_M (iV (high)) (gY rfl b3) rfl (Aa (gY rfl b3) (Uz rfl rfl) (l_v (Bt rfl b3 (v:=(.bool (decide (n ≤ high)))) rfl) (Lo (.bool (decide (n ≤ high))) (l_k k2 (Aq (hret _ _ _ ⟨rfl,rfl,eT (.bool (decide (n ≤ high))) ?_⟩)))))))
  simp only [inR,b3,Bool.true_and,Bool.false_and,Bool.and_true,Bool.and_false,Bool.true_or,Bool.false_or,Bool.or_true,Bool.or_false,Bool.not_true,Bool.not_false]
 have q3:=of_decide_eq_false b3
 refine Ap (gN rfl b3) (Ap (gN rfl b3) (Ap (gN rfl b3) (l_v (Bn rfl b3 (v:=(.bool (false))) rfl) (Lo (.bool (false)) (l_k k2 (Aq (hret _ _ _ ⟨rfl,rfl,eT (.bool (false)) ?_⟩)))))))
 simp only [inR,b3,Bool.true_and,Bool.false_and,Bool.and_true,Bool.and_false,Bool.true_or,Bool.false_or,Bool.or_true,Bool.or_false,Bool.not_true,Bool.not_false]
theorem Axh {x:Span} {vx:Value} {low high:Int} (rx:Val ρ vx x):CallsH (CX mn X) 121 #[vx,(iV (low)),(iV (high))] ρ σ (rP ρ σ (.bool (Ef x low high))):=by
 refine Bh (n:=24) (args:=[vx,(iV (low)),(iV (high))]) [6] Tryd.func121 rfl rfl rfl rfl fun Q hret hnor=>w_q rfl rfl fun K1 k1=>Arv (Eb (v:=vx) rfl fun k2=>?_)
 refine Bb (a:=x) rx fun ρ2 l2 r2=>Lo (.bool (false)) (Arx rfl rfl k1 fun K3 k3=>Asf (iV (low)) (Arw (Ay Span.f_low Bie rfl rfl ty3 (by decide) rfl r2) fun v4 r4=>?_))
 have ⟨g5a,g5b⟩:=At.rng r4
 refine l_v (Bc ty3 rfl r4) (l_v (Uz rfl rfl) (Asf (.bool (decide (low ≤ x.low))) (Cn (decide (low ≤ x.low)) (fun b6=>?_) (fun b6=>?_))))
 ·have q6:=of_decide_eq_true b6
  refine Ak (gY rfl b6) (Ay Span.f_low Bie rfl rfl ty3 (by decide) rfl r2) fun v7 r7=>?_
  have ⟨g8a,g8b⟩:=At.rng r7
  refine Aa (gY rfl b6) (Bc ty3 rfl r7) (Ak (gY rfl b6) (Ay Span.f_high Bie rfl rfl ty3 (by decide) rfl r2) fun v9 r9=>?_)
  have ⟨g10a,g10b⟩:=At.rng r9
  refine Aa (gY rfl b6) (Bc ty3 rfl r9) (Aa (gY rfl b6) (Uz rfl rfl) (l_v (Bt rfl b6 (v:=(.bool (decide (x.low ≤ x.high)))) rfl) (Asf (.bool (decide (x.low ≤ x.high))) (Cn (decide (x.low ≤ x.high)) (fun b11=>?_) (fun b11=>?_)))))
  ·have q11:=of_decide_eq_true b11
   refine Ak (gY rfl b11) (Ay Span.f_high Bie rfl rfl ty3 (by decide) rfl r2) fun v12 r12=>?_
   have ⟨g13a,g13b⟩:=At.rng r12
   refine Aa (gY rfl b11) (Bc ty3 rfl r12) (l_M (iV (high)) (gY rfl b11) rfl (Aa (gY rfl b11) (Uz rfl rfl) (l_v (Bt rfl b11 (v:=(.bool (decide (x.high ≤ high)))) rfl) (Lo (.bool (decide (x.high ≤ high))) (l_k k3 (Aj (Bmi l2) (Aq (hret _ _ _ ⟨rfl,rfl,eT (.bool (decide (x.high ≤ high))) ?_⟩))))))))
   simp only [Ef,b6,b11,Bool.true_and,Bool.false_and,Bool.and_true,Bool.and_false,Bool.true_or,Bool.false_or,Bool.or_true,Bool.or_false,Bool.not_true,Bool.not_false]
  have q11:=of_decide_eq_false b11
  refine Ap (gN rfl b11) (Ap (gN rfl b11) (Ap (gN rfl b11) (Ap (gN rfl b11) (l_v (Bn rfl b11 (v:=(.bool (false))) rfl) (Lo (.bool (false)) (l_k k3 (Aj (Bmi l2) (Aq (hret _ _ _ ⟨rfl,rfl,eT (.bool (false)) ?_⟩)))))))))
  simp only [Ef,b6,b11,Bool.true_and,Bool.false_and,Bool.and_true,Bool.and_false,Bool.true_or,Bool.false_or,Bool.or_true,Bool.or_false,Bool.not_true,Bool.not_false]
 have q6:=of_decide_eq_false b6
 refine Ap (gN rfl b6) (Ap (gN rfl b6) (Ap (gN rfl b6) (Ap (gN rfl b6) (Ap (gN rfl b6) (l_v (Bn rfl b6 (v:=(.bool (false))) rfl) (Asf (.bool (false)) (Ap (gN rfl rfl) (Ap (gN rfl rfl) (Ap (gN rfl rfl) (Ap (gN rfl rfl) (l_v (Bn rfl rfl (v:=(.bool (false))) rfl) (Lo (.bool (false)) (l_k k3 (Aj (Bmi l2) (Aq (hret _ _ _ ⟨rfl,rfl,eT (.bool (false)) ?_⟩))))))))))))))))
 simp only [Ef,b6,Bool.true_and,Bool.false_and,Bool.and_true,Bool.and_false,Bool.true_or,Bool.false_or,Bool.or_true,Bool.or_false,Bool.not_true,Bool.not_false]
theorem Bbh {c:UInt8} :CallsH (CX mn X) 132 #[(.int .u8 (((c.toNat:Nat):Int)))] ρ σ (rP ρ σ (.bool (Ov ((c.toNat:Nat):Int)))):=by
 refine Bh (n:=21) (args:=[(.int .u8 (((c.toNat:Nat):Int)))]) [2] Tryd.func132 rfl rfl rfl rfl fun Q hret hnor=>w_q rfl rfl fun K1 k1=>Lo (.bool (false)) (Arx rfl rfl k1 fun K2 k2=>Asf (.int .u8 (((c.toNat:Nat):Int))) (l_v (Da rfl rfl) (Asf (.bool (decide (((c.toNat:Nat):Int) < 97))) (Cn (decide (((c.toNat:Nat):Int) < 97)) (fun b3=>?_) (fun b3=>?_)))))
 ·have q3:=of_decide_eq_true b3
  refine Ap (gN rfl b3) (Ap (gN rfl b3) (l_v (Bt rfl b3 (v:=(.bool (true))) rfl) (Asf (.bool (true)) (l_M (.int .u8 (((c.toNat:Nat):Int))) (gY rfl rfl) rfl (Aa (gY rfl rfl) (Da rfl rfl) (l_M (.bool (decide (((c.toNat:Nat):Int) < 48))) (gY rfl rfl) rfl (Cn (decide (((c.toNat:Nat):Int) < 48)) (fun b4=>?_) (fun b4=>?_))))))))
  ·have q4:=of_decide_eq_true b4
   refine Ap (gN rfl b4) (Ap (gN rfl b4) (Aa (gY rfl rfl) (Bt rfl b4 (v:=(.bool (true))) rfl) (l_v (Bt rfl rfl (v:=(.bool (true))) rfl) (Asf (.bool (true)) (l_M (.int .u8 (((c.toNat:Nat):Int))) (gY rfl rfl) rfl (Aa (gY rfl rfl) (Dg rfl rfl) (l_v (Bt rfl rfl (v:=(.bool (((c.toNat:Nat):Int) != 45))) rfl) (Lo (.bool (((c.toNat:Nat):Int) != 45)) (l_k k2 (Aq (hret _ _ _ ⟨rfl,rfl,eT (.bool (((c.toNat:Nat):Int) != 45)) ?_⟩)))))))))))
   simp only [Ov,b3,b4,Bool.true_and,Bool.false_and,Bool.and_true,Bool.and_false,Bool.true_or,Bool.false_or,Bool.or_true,Bool.or_false,Bool.not_true,Bool.not_false]
  have q4:=of_decide_eq_false b4
  refine l_M (.int .u8 (((c.toNat:Nat):Int))) (gY rfl b4) rfl (Aa (gY rfl b4) (Gl (p:=((c.toNat:Nat):Int)) (q:=57) rfl rfl) (Aa (gY rfl rfl) (Bn rfl b4 (v:=(.bool (decide (((c.toNat:Nat):Int) > 57)))) rfl) (l_v (Bt rfl rfl (v:=(.bool (decide (((c.toNat:Nat):Int) > 57)))) rfl) (Asf (.bool (decide (((c.toNat:Nat):Int) > 57))) (Cn (decide (((c.toNat:Nat):Int) > 57)) (fun b5=>?_) (fun b5=>?_))))))
  ·have q5:=of_decide_eq_true b5
   refine l_M (.int .u8 (((c.toNat:Nat):Int))) (gY rfl b5) rfl (Aa (gY rfl b5) (Dg rfl rfl) (l_v (Bt rfl b5 (v:=(.bool (((c.toNat:Nat):Int) != 45))) rfl) (Lo (.bool (((c.toNat:Nat):Int) != 45)) (l_k k2 (Aq (hret _ _ _ ⟨rfl,rfl,eT (.bool (((c.toNat:Nat):Int) != 45)) ?_⟩))))))
   simp only [Ov,b3,b4,b5,Bool.true_and,Bool.false_and,Bool.and_true,Bool.and_false,Bool.true_or,Bool.false_or,Bool.or_true,Bool.or_false,Bool.not_true,Bool.not_false]
  have q5:=of_decide_eq_false b5
  refine Ap (gN rfl b5) (Ap (gN rfl b5) (l_v (Bn rfl b5 (v:=(.bool (false))) rfl) (Lo (.bool (false)) (l_k k2 (Aq (hret _ _ _ ⟨rfl,rfl,eT (.bool (false)) ?_⟩))))))
  simp only [Ov,b3,b4,b5,Bool.true_and,Bool.false_and,Bool.and_true,Bool.and_false,Bool.true_or,Bool.false_or,Bool.or_true,Bool.or_false,Bool.not_true,Bool.not_false]
 have q3:=of_decide_eq_false b3
 refine l_M (.int .u8 (((c.toNat:Nat):Int))) (gY rfl b3) rfl (Aa (gY rfl b3) (Gl (p:=((c.toNat:Nat):Int)) (q:=122) rfl rfl) (l_v (Bn rfl b3 (v:=(.bool (decide (((c.toNat:Nat):Int) > 122)))) rfl) (Asf (.bool (decide (((c.toNat:Nat):Int) > 122))) (Cn (decide (((c.toNat:Nat):Int) > 122)) (fun b6=>?_) (fun b6=>?_)))))
 ·have q6:=of_decide_eq_true b6
  refine l_M (.int .u8 (((c.toNat:Nat):Int))) (gY rfl b6) rfl (Aa (gY rfl b6) (Da rfl rfl) (l_M (.bool (decide (((c.toNat:Nat):Int) < 48))) (gY rfl b6) rfl (Cn (decide (((c.toNat:Nat):Int) < 48)) (fun b7=>?_) (fun b7=>?_))))
  ·have q7:=of_decide_eq_true b7
   refine Ap (gN rfl b7) (Ap (gN rfl b7) (Aa (gY rfl b6) (Bt rfl b7 (v:=(.bool (true))) rfl) (l_v (Bt rfl b6 (v:=(.bool (true))) rfl) (Asf (.bool (true)) (l_M (.int .u8 (((c.toNat:Nat):Int))) (gY rfl rfl) rfl (Aa (gY rfl rfl) (Dg rfl rfl) (l_v (Bt rfl rfl (v:=(.bool (((c.toNat:Nat):Int) != 45))) rfl) (Lo (.bool (((c.toNat:Nat):Int) != 45)) (l_k k2 (Aq (hret _ _ _ ⟨rfl,rfl,eT (.bool (((c.toNat:Nat):Int) != 45)) ?_⟩)))))))))))
   simp only [Ov,b3,b6,b7,Bool.true_and,Bool.false_and,Bool.and_true,Bool.and_false,Bool.true_or,Bool.false_or,Bool.or_true,Bool.or_false,Bool.not_true,Bool.not_false]
  have q7:=of_decide_eq_false b7
  refine l_M (.int .u8 (((c.toNat:Nat):Int))) (gY rfl b7) rfl (Aa (gY rfl b7) (Gl (p:=((c.toNat:Nat):Int)) (q:=57) rfl rfl) (Aa (gY rfl b6) (Bn rfl b7 (v:=(.bool (decide (((c.toNat:Nat):Int) > 57)))) rfl) (l_v (Bt rfl b6 (v:=(.bool (decide (((c.toNat:Nat):Int) > 57)))) rfl) (Asf (.bool (decide (((c.toNat:Nat):Int) > 57))) (Cn (decide (((c.toNat:Nat):Int) > 57)) (fun b8=>?_) (fun b8=>?_))))))
  ·have q8:=of_decide_eq_true b8
   refine l_M (.int .u8 (((c.toNat:Nat):Int))) (gY rfl b8) rfl (Aa (gY rfl b8) (Dg rfl rfl) (l_v (Bt rfl b8 (v:=(.bool (((c.toNat:Nat):Int) != 45))) rfl) (Lo (.bool (((c.toNat:Nat):Int) != 45)) (l_k k2 (Aq (hret _ _ _ ⟨rfl,rfl,eT (.bool (((c.toNat:Nat):Int) != 45)) ?_⟩))))))
   simp only [Ov,b3,b6,b7,b8,Bool.true_and,Bool.false_and,Bool.and_true,Bool.and_false,Bool.true_or,Bool.false_or,Bool.or_true,Bool.or_false,Bool.not_true,Bool.not_false]
  have q8:=of_decide_eq_false b8
  refine Ap (gN rfl b8) (Ap (gN rfl b8) (l_v (Bn rfl b8 (v:=(.bool (false))) rfl) (Lo (.bool (false)) (l_k k2 (Aq (hret _ _ _ ⟨rfl,rfl,eT (.bool (false)) ?_⟩))))))
  simp only [Ov,b3,b6,b7,b8,Bool.true_and,Bool.false_and,Bool.and_true,Bool.and_false,Bool.true_or,Bool.false_or,Bool.or_true,Bool.or_false,Bool.not_true,Bool.not_false]
 have q6:=of_decide_eq_false b6
 refine Ap (gN rfl b6) (Ap (gN rfl b6) (Ap (gN rfl b6) (Ap (Jf rfl rfl rfl) (Ap (Jf rfl rfl rfl) (Ap (gN rfl b6) (l_v (Bn rfl b6 (v:=(.bool (false))) rfl) (Asf (.bool (false)) (Ap (gN rfl rfl) (Ap (gN rfl rfl) (l_v (Bn rfl rfl (v:=(.bool (false))) rfl) (Lo (.bool (false)) (l_k k2 (Aq (hret _ _ _ ⟨rfl,rfl,eT (.bool (false)) ?_⟩))))))))))))))
 simp only [Ov,b3,b6,Bool.true_and,Bool.false_and,Bool.and_true,Bool.and_false,Bool.true_or,Bool.false_or,Bool.or_true,Bool.or_false,Bool.not_true,Bool.not_false]
theorem Awg {s:ByteArray} (hs:s.size < 2 ^ 60):CallsH (CX mn X) 131 #[(.string (s))] ρ σ (rP ρ σ (.bool (Hg s))):=by
 refine Bh (n:=21) (args:=[(.string (s))]) [2] Bls rfl rfl rfl rfl fun Q hret hnor=>w_q rfl rfl fun K1 k1=>Lo (.bool (false)) (Ary rfl rfl k1 fun K2 K3 k2 k3=>Asf (.string (s)) (l_v (Afz Bih (s:=s) rfl) (Arv (Bm (Asy) Bju rfl rfl ⟨rfl,rfl,rfl,trivial⟩ ?_))))
 refine l_v (Iy rfl) (Asf (.bool (!(inR (((s.size:Nat):Int)) 1 14))) (Cn (!(inR (((s.size:Nat):Int)) 1 14)) (fun b4=>?_) (fun b4=>?_)))
 ·have b5:=not_eq_t b4
  have q5:=Tr.1 b5
  refine Ap (gN rfl b4) (Ap (gN rfl b4) (Ap (gN rfl b4) (l_v (Bt rfl b4 (v:=(.bool (true))) rfl) (Asf (.bool (true)) (Ap (gN rfl rfl) (Ap (gN rfl rfl) (Ap (gN rfl rfl) (l_v (Bt rfl rfl (v:=(.bool (true))) rfl) (l_k k3 (Co rfl rfl (w_q rfl rfl fun K6 k6=>Lo (.bool (false)) (l_k k6 (Aq (hret _ _ _ ⟨rfl,rfl,eT (.bool (false)) ?_⟩))))))))))))))
  simp only [Hg,Qb,b4,b5,Bool.true_and,Bool.false_and,Bool.and_true,Bool.and_false,Bool.true_or,Bool.false_or,Bool.or_true,Bool.or_false,Bool.not_true,Bool.not_false]
 have b7:=not_eq_f b4
 have q7:=Fz.1 b7
 refine l_M (.string (s)) (gY rfl b4) rfl ?_
 obtain ⟨c8,hc8⟩:=Alc (s:=s) (i:=0) (by omega)
 refine Aa (gY rfl b4) (Ace 0 c8 Bih rfl (q:=0) rfl rfl hc8) (Aa (gY rfl b4) (Da rfl rfl) (l_v (Bn rfl b4 (v:=(.bool (decide (((c8.toNat:Nat):Int) < 97)))) rfl) (Asf (.bool (decide (((c8.toNat:Nat):Int) < 97))) (Cn (decide (((c8.toNat:Nat):Int) < 97)) (fun b9=>?_) (fun b9=>?_)))))
 ·have q9:=of_decide_eq_true b9
  refine Ap (gN rfl b9) (Ap (gN rfl b9) (Ap (gN rfl b9) (l_v (Bt rfl b9 (v:=(.bool (true))) rfl) (l_k k3 (Co rfl rfl (w_q rfl rfl fun K10 k10=>Lo (.bool (false)) (l_k k10 (Aq (hret _ _ _ ⟨rfl,rfl,eT (.bool (false)) ?_⟩)))))))))
  simp only [Hg,Qb,hc8,b4,b7,b9,Bool.true_and,Bool.false_and,Bool.and_true,Bool.and_false,Bool.true_or,Bool.false_or,Bool.or_true,Bool.or_false,Bool.not_true,Bool.not_false]
 have q9:=of_decide_eq_false b9
 refine l_M (.string (s)) (gY rfl b9) rfl (Aa (gY rfl b9) (Ace 0 c8 Bih rfl (q:=0) rfl rfl hc8) (Aa (gY rfl b9) (Gl (p:=((c8.toNat:Nat):Int)) (q:=122) rfl rfl) (l_v (Bn rfl b9 (v:=(.bool (decide (((c8.toNat:Nat):Int) > 122)))) rfl) (l_k k3 (Asg (t:=decide (((c8.toNat:Nat):Int) > 122)) rfl (fun b12=>?_) (fun b12=>?_))))))
 ·have q12:=of_decide_eq_true b12
  refine w_q rfl rfl fun K13 k13=>Lo (.bool (false)) (l_k k13 (Aq (hret _ _ _ ⟨rfl,rfl,eT (.bool (false)) ?_⟩)))
  simp only [Hg,Qb,hc8,b4,b7,b9,b12,Bool.true_and,Bool.false_and,Bool.and_true,Bool.and_false,Bool.true_or,Bool.false_or,Bool.or_true,Bool.or_false,Bool.not_true,Bool.not_false]
 have q12:=of_decide_eq_false b12
 refine Al (k2 _ _ _ _ ?_)
 refine w_q rfl rfl fun K14 k14=>Asf (.string (s)) (Arv (Amd (s:=s) Bih Bky Bkh rfl (by omega) fun k15 cap15 cs15 rs15 fz15 R15 hc15=>?_))
 refine Alh R15 hc15 (by omega) fun ρ15 l15 r15=>Arv (Bm (Ta r15 (⟨132,Tryd.f132,[],rfl,Tryd.func132,rfl,rfl,fun mn X ρ σ v x hv=>by rw [Uq.1 hv]; exact Bbh⟩:Su (.func (.func 132) #[] #[]) (fun c:UInt8=>Ov ((c.toNat:Nat):Int)))) Tryd.func96 rfl rfl ⟨rfl,rfl,trivial⟩ ?_)
 refine l_v (Iy rfl) (Lo (.bool (!(s.data.toList.any (fun c:UInt8=>Ov ((c.toNat:Nat):Int))))) (l_k k14 (Aj (Bmi l15) (Aq (hret _ _ _ ⟨rfl,rfl,eT (.bool (!(s.data.toList.any (fun c:UInt8=>Ov ((c.toNat:Nat):Int))))) ?_⟩)))))
 rw [Akl,Bool.not_not]
 simp only [Hg,Qb,hc8,b4,b7,b9,b12,Bool.true_and,Bool.false_and,Bool.and_true,Bool.and_false,Bool.true_or,Bool.false_or,Bool.or_true,Bool.or_false,Bool.not_true,Bool.not_false]
theorem Bbg {s:ByteArray} (hs:s.size < 2 ^ 60):CallsH (CX mn X) 123 #[(.string (s))] ρ σ (rP ρ σ (.string (s))):=by
 refine Bh (n:=4) (args:=[(.string (s))]) [2] Tryd.func123 rfl rfl rfl rfl fun Q hret hnor=>w_q rfl rfl fun K1 k1=>Lo (.string ((ByteArray.mk #[]))) (Arx rfl rfl k1 fun K2 k2=>Asf (.string (s)) (Lo (.string (s)) (l_k k2 (Aq (hret _ _ _ ⟨rfl,rfl,eT (.string (s)) ?_⟩)))))
 rfl
theorem Bdy {s:ByteArray} :CallsH (CX mn X) 124 #[(.string (s))] ρ σ (rP ρ σ (iV (0))):=by
 refine Bh (n:=3) (args:=[(.string (s))]) [2] Tryd.func124 rfl rfl rfl rfl fun Q hret hnor=>w_q rfl rfl fun K1 k1=>Lo (iV (0)) (Arx rfl rfl k1 fun K2 k2=>Lo (iV (0)) (l_k k2 (Aq (hret _ _ _ ⟨rfl,rfl,eT (iV (0)) ?_⟩))))
 rfl
theorem Baa {l:List ByteArray} {vl:Value} (rl:Val ρ vl l) (h0:Dd l 4 = 0):CallsH (CX mn X) 122 #[vl,(iV (4)),(.func (.func 123) #[] #[]),(.func (.func 124) #[] #[])] ρ σ (rP ρ σ (iV (0))):=by
 have nms:=Axl h0
 have hlm:=Bai h0
 refine Bh (n:=45) (args:=[vl,(iV (4)),(.func (.func 123) #[] #[]),(.func (.func 124) #[] #[])]) [8] Tryd.func122 rfl rfl rfl rfl fun Q hret hnor=>w_q rfl rfl fun K1 k1=>Lo (iV (0)) (Ary rfl rfl k1 fun K2 K3 k2 k3=>Asf vl ?_)
 have g4:l.length < 2 ^ 60:=Bmn rl
 refine l_v (Ci (el:=9) Bic rfl rl) (Asf (iV (4)) (l_v (Gl (p:=((l.length:Nat):Int)) (q:=4) rfl rfl) (l_k k3 (Cg rfl (decide_eq_false (by omega)) (Al (k2 _ _ _ _ ?_))))))
 refine w_q rfl rfl fun K5 k5=>Arv (Oh fun k6=>?_)
 refine Lo (.map (some k6)) (Ary rfl rfl k5 fun K7 K8 k7 k8=>Asf vl ?_)
 have g9:l.length < 2 ^ 60:=Bmn rl
 refine l_v (Ci (el:=9) Bic rfl rl) (Asf (iV (0)) (l_k k8 (Ao (Cc (fun mm ee dd ρ' σ'=>∃ (i:Nat) (es10_9:Array MapEntry) (ck10_9:Nat),(l.length - i) = mm∧[] = dd∧ρ = ρ'∧((k6,Res.obj (Obj.map es10_9 ck10_9)) :: σ) = σ'∧ee 2 = (.func (.func 123) #[] #[])∧ee 3 = (.func (.func 124) #[] #[])∧ee 19 = vl∧ee 20 = (iV (((l.length:Nat):Int)))∧ee 9 = (.map (some k6))∧ee 21 = (iV ((i:Int)))∧(i ≤ l.length)∧Mu es10_9 (inL (l.take i))∧True) (m:=_) ⟨0,#[],0,rfl,rfl,rfl,rfl,rfl,rfl,rfl,rfl,rfl,rfl,(Nat.zero_le _),(Rl (fun k=>by simp [inL]) Uh),trivial⟩ ?_))))
 rintro m10 e10 _ _ _ ⟨i,es10_9,ck10_9,rfl,rfl,rfl,rfl,h10_2,h10_3,h10_19,h10_20,h10_9,h10_21,p10_0,MS10_9,_⟩
 refine w_q rfl rfl fun K11 k11=>l_v (Da h10_21 h10_20) (Asa k11 fun K12 k12=>Asg (t:=decide ((i:Int) < ((l.length:Nat):Int))) rfl (fun b13=>?_) (fun b13=>?_))
 ·have q13:=of_decide_eq_true b13
  refine Al (k12 _ _ _ _ ?_)
  refine Ai fun K14 k14=>Ao (w_q rfl rfl fun K15 k15=>?_)
  obtain ⟨a17,ha17⟩:=Ed (xs:=l) (i:=i) (by omega)
  have nfa17:=nms.1 _ _ ha17; have nda17:=Axj fun k y hk hy=>nms.2 _ k _ _ ha17 hk hy
  refine Arw (Ch i Bic ty9 h10_19 rl (q:=(i:Int)) h10_21 rfl ha17) fun v16 r16=>?_
  have g18:=At.slen r16
  refine l_v (Pk ty9 rfl r16) (Lo (.string (a17)) (Arx rfl rfl k15 fun K19 k19=>l_v (Ah (v:=(.func (.func 123) #[] #[])) h10_2) (Asf (.string (a17)) (Arv (Ur (caps:=[]) (vs:=[(.string (a17))]) (v:=(.string (a17))) rfl (Bbg (by omega)) Tryd.func123 rfl rfl ⟨rfl,trivial⟩ ?_)))))
  refine Lo (.string (a17)) (Asa k19 fun K20 k20=>Ao (w_q rfl rfl fun K21 k21=>Asf (.string (a17)) (Arv (Bm (Awg (by omega)) Bls rfl rfl ⟨rfl,trivial⟩ ?_))))
  refine l_v (Iy rfl) (Lo (.bool (!(Hg a17))) (l_k k21 (Cg rfl (not_t nfa17) (w_q rfl rfl fun K22 k22=>l_v (Ah (v:=(.map (some k6))) h10_9) (Asf (.string (a17)) (Arv (Xq (i:=0) (kt:=9) (et:=4) (k:=a17) (pr:=inL (l.take i)) Bkj Bih zr4 MS10_9 rfl rfl rfl ?_)))))))
  refine Lo (.bool ((inL (l.take i)) a17)) (l_k k22 (Cg rfl nda17 (Al (k20 _ _ _ _ ?_))))
  refine Asb rfl rfl fun K23 K24 k23 k24=>l_v (Ah (v:=(.func (.func 124) #[] #[])) h10_3) (Asf (.string (a17)) (Arv (Ur (caps:=[]) (vs:=[(.string (a17))]) (v:=(iV (0))) rfl (Bdy) Tryd.func124 rfl rfl ⟨rfl,trivial⟩ ?_)))
  refine Lo (iV (0)) (Arx rfl rfl k24 fun K25 k25=>Asf (iV (0)) (l_v (Dg rfl rfl) (l_k k25 (Cg rfl rfl (Al (k23 _ _ _ _ ?_))))))
  refine Ag rfl rfl (l_v (Ah (v:=(.map (some k6))) h10_9) (Asf (.string (a17)) (Cx rfl (Afq (i:=0) (kt:=9) (et:=4) (k:=a17) (pr:=inL (l.take i)) Bkj Bih MS10_9 nda17 rfl rfl rfl rfl fun es26 ck26 S26=>?_))))
  refine l_k k14 (Ag rfl rfl (l_v (Br h10_21 rfl (z:=(((i + 1):Nat):Int)) wrE) (Asf (iV ((((i + 1):Nat):Int))) (Ac ?_))))
  refine ⟨_,?_,((i + 1)),es26,ck26,rfl,rfl,rfl,rfl,h10_2,h10_3,h10_19,h10_20,h10_9,rfl,(by omega),(Rl (Tq ha17) S26),trivial⟩
  omega
 have q13:=of_decide_eq_false b13
 refine Bx (k7 _ _ _ _ ?_)
 refine w_q rfl rfl fun K27 k27=>Lo (iV (0)) (l_k k27 (Aj Bmh (Aq (hret _ _ _ ⟨rfl,rfl,eT (iV (0)) ?_⟩))))
 rfl
theorem Bbd {m:Morn} {vp:Value} (rp:At ρ vp (⟨m⟩:MornP)) (ok:MornOk m):CallsH (CX mn X) 117 #[vp] ρ σ (rP ρ σ (iV (0))):=by
 refine Bh (n:=9) (args:=[vp]) [2] Tryd.func117 rfl rfl rfl rfl fun Q hret hnor=>w_q rfl rfl fun K1 k1=>Lo (iV (0)) (Arx rfl rfl k1 fun K2 k2=>Asf vp (l_v (Hj rfl rp) (Arw (Ay MornP.f_m Bir rfl rfl Ata (by decide) rfl rp) fun v3 r3=>Arw (Ay Morn.f_houses Bhz rfl rfl Hw (by decide) rfl r3) fun v4 r4=>Arw (Ax Hw rfl r4) fun v5 r5=>Arv (Bm (Baa r5 ok.fields.1) Tryd.func122 rfl rfl ⟨rfl,rfl,rfl,rfl,trivial⟩ ?_))))
 refine Lo (iV (0)) (l_k k2 (Aq (hret _ _ _ ⟨rfl,rfl,eT (iV (0)) ?_⟩)))
 rfl
theorem Bbe {x:PField} {vx:Value} (rx:Val ρ vx x):CallsH (CX mn X) 126 #[vx] ρ σ (rP ρ σ (.string (x.name))):=by
 refine Bh (n:=5) (args:=[vx]) [2] Tryd.func126 rfl rfl rfl rfl fun Q hret hnor=>w_q rfl rfl fun K1 k1=>Arv (Eb (v:=vx) rfl fun k2=>?_)
 refine Bb (a:=x) rx fun ρ2 l2 r2=>Lo (.string ((ByteArray.mk #[]))) (Arx rfl rfl k1 fun K3 k3=>Arw (Ay PField.f_name Bix rfl rfl ty9 (by decide) rfl r2) fun v4 r4=>?_)
 have g5:=At.slen r4
 refine l_v (Pk ty9 rfl r4) (Lo (.string (x.name)) (l_k k3 (Aj (Bmi l2) (Aq (hret _ _ _ ⟨rfl,rfl,eT (.string (x.name)) ?_⟩)))))
 rfl
theorem Bdw {x:PField} {vx:Value} (rx:Val ρ vx x) (h1:0 ≤ x.far∧x.far ≤ 24) (h2:0 ≤ x.sun∧x.sun ≤ 10):CallsH (CX mn X) 127 #[vx] ρ σ (rP ρ σ (iV (0))):=by
 refine Bh (n:=13) (args:=[vx]) [2] Tryd.func127 rfl rfl rfl rfl fun Q hret hnor=>w_q rfl rfl fun K1 k1=>Arv (Eb (v:=vx) rfl fun k2=>?_)
 refine Bb (a:=x) rx fun ρ2 l2 r2=>Lo (iV (0)) (Ary rfl rfl k1 fun K3 K4 k3 k4=>Arw (Ay PField.f_far Bix rfl rfl ty3 (by decide) rfl r2) fun v5 r5=>?_)
 have ⟨g6a,g6b⟩:=At.rng r5
 refine l_v (Bc ty3 rfl r5) (Arv (Bm (Asy) Bju rfl rfl ⟨rfl,rfl,rfl,trivial⟩ ?_))
 refine l_v (Iy rfl) (Asf (.bool (!(inR x.far 0 24))) (Ak (gY rfl (not_t (Fz.2 (by first | omega | (simp only; omega))))) (Ay PField.f_sun Bix rfl rfl ty3 (by decide) rfl r2) fun v7 r7=>?_))
 have ⟨g8a,g8b⟩:=At.rng r7
 refine Aa (gY rfl (not_t (Fz.2 (by first | omega | (simp only; omega))))) (Bc ty3 rfl r7) (Ae (gY rfl (not_t (Fz.2 (by first | omega | (simp only; omega))))) (Bm (Asy) Bju rfl rfl ⟨rfl,rfl,rfl,trivial⟩ ?_))
 refine Aa (gY rfl (not_t (Fz.2 (by first | omega | (simp only; omega))))) (Iy rfl) (l_v (Bn rfl (not_t (Fz.2 (by first | omega | (simp only; omega)))) (v:=(.bool (!(inR x.sun 0 10)))) rfl) (l_k k4 (Cg rfl (not_t (Fz.2 (by first | omega | (simp only; omega)))) (Al (k3 _ _ _ _ ?_)))))
 refine w_q rfl rfl fun K9 k9=>Lo (iV (0)) (l_k k9 (Aj (Bmi l2) (Aq (hret _ _ _ ⟨rfl,rfl,eT (iV (0)) ?_⟩))))
 rfl
theorem Azy {m:Morn} {vl:Value} (rl:Val ρ vl m.fields) (ok:MornOk m):CallsH (CX mn X) 125 #[vl,(iV (4)),(.func (.func 126) #[] #[]),(.func (.func 127) #[] #[])] ρ σ (rP ρ σ (iV (0))):=by
 have hnf:=ok.fields.2.1
 refine Bh (n:=45) (args:=[vl,(iV (4)),(.func (.func 126) #[] #[]),(.func (.func 127) #[] #[])]) [8] Tryd.func125 rfl rfl rfl rfl fun Q hret hnor=>w_q rfl rfl fun K1 k1=>Lo (iV (0)) (Ary rfl rfl k1 fun K2 K3 k2 k3=>Asf vl ?_)
 have g4:m.fields.length < 2 ^ 60:=Bmn rl
 refine l_v (Ci (el:=55) Bim rfl rl) (Asf (iV (4)) (l_v (Gl (p:=((m.fields.length:Nat):Int)) (q:=4) rfl rfl) (l_k k3 (Cg rfl (decide_eq_false (by omega)) (Al (k2 _ _ _ _ ?_))))))
 refine w_q rfl rfl fun K5 k5=>Arv (Oh fun k6=>?_)
 refine Lo (.map (some k6)) (Ary rfl rfl k5 fun K7 K8 k7 k8=>Asf vl ?_)
 have g9:m.fields.length < 2 ^ 60:=Bmn rl
 refine l_v (Ci (el:=55) Bim rfl rl) (Asf (iV (0)) (l_k k8 (Ao (Cc (fun mm ee dd ρ' σ'=>∃ (i:Nat) (es10_9:Array MapEntry) (ck10_9:Nat),(m.fields.length - i) = mm∧[] = dd∧ρ = ρ'∧((k6,Res.obj (Obj.map es10_9 ck10_9)) :: σ) = σ'∧ee 2 = (.func (.func 126) #[] #[])∧ee 3 = (.func (.func 127) #[] #[])∧ee 19 = vl∧ee 20 = (iV (((m.fields.length:Nat):Int)))∧ee 9 = (.map (some k6))∧ee 21 = (iV ((i:Int)))∧(i ≤ m.fields.length)∧Mu es10_9 (inL ((m.fields.map PField.name).take i))∧True) (m:=_) ⟨0,#[],0,rfl,rfl,rfl,rfl,rfl,rfl,rfl,rfl,rfl,rfl,(Nat.zero_le _),(Rl (fun k=>by simp [inL]) Uh),trivial⟩ ?_))))
 rintro m10 e10 _ _ _ ⟨i,es10_9,ck10_9,rfl,rfl,rfl,rfl,h10_2,h10_3,h10_19,h10_20,h10_9,h10_21,p10_0,MS10_9,_⟩
 refine w_q rfl rfl fun K11 k11=>l_v (Da h10_21 h10_20) (Asa k11 fun K12 k12=>Asg (t:=decide ((i:Int) < ((m.fields.length:Nat):Int))) rfl (fun b13=>?_) (fun b13=>?_))
 ·have q13:=of_decide_eq_true b13
  refine Al (k12 _ _ _ _ ?_)
  refine Ai fun K14 k14=>Ao (w_q rfl rfl fun K15 k15=>?_)
  obtain ⟨a17,ha17⟩:=Ed (xs:=m.fields) (i:=i) (by omega)
  obtain ⟨nfa17,nd0a17,paa17,pba17⟩:=ok.fields.2.2 _ (Aui ha17) _ ha17; have nda17:=Awk (f:=PField.name) ha17 nd0a17; have nla17:=Awl nfa17
  refine Arw (Ch i Bim Aty h10_19 rl (q:=(i:Int)) h10_21 rfl ha17) fun v16 r16=>Arw (Ax Aty rfl r16) fun v18 r18=>Arv (Ct Bge fun k19=>?_)
  refine Cx rfl (Dv (v:=v18) (a:=a17) (c:=Bgb) Aty rfl rfl r18 rfl ?_)
  refine Bb (a:=a17) r18 fun ρ20 l20 r20=>Arx rfl rfl k15 fun K21 k21=>l_v (Ah (v:=(.func (.func 126) #[] #[])) h10_2) (Arw (Ax Aty rfl r20) fun v22 r22=>Arv (Ur (caps:=[]) (vs:=[v22]) (v:=(.string (a17.name))) rfl (Bbe r22) Tryd.func126 rfl rfl ⟨rfl,trivial⟩ ?_))
  refine Lo (.string (a17.name)) (Asa k21 fun K23 k23=>Ao (w_q rfl rfl fun K24 k24=>Asf (.string (a17.name)) (Arv (Bm (Awg (by omega)) Bls rfl rfl ⟨rfl,trivial⟩ ?_))))
  refine l_v (Iy rfl) (Lo (.bool (!(Hg a17.name))) (l_k k24 (Cg rfl (not_t nfa17) (w_q rfl rfl fun K25 k25=>l_v (Ah (v:=(.map (some k6))) h10_9) (Asf (.string (a17.name)) (Arv (Xq (i:=0) (kt:=9) (et:=4) (k:=a17.name) (pr:=inL ((m.fields.map PField.name).take i)) Bkj Bih zr4 MS10_9 rfl rfl rfl ?_)))))))
  refine Lo (.bool ((inL ((m.fields.map PField.name).take i)) a17.name)) (l_k k25 (Cg rfl nda17 (Al (k23 _ _ _ _ ?_))))
  refine Asb rfl rfl fun K26 K27 k26 k27=>l_v (Ah (v:=(.func (.func 127) #[] #[])) h10_3) (Arw (Ax Aty rfl r20) fun v28 r28=>Arv (Ur (caps:=[]) (vs:=[v28]) (v:=(iV (0))) rfl (Bdw r28 paa17 pba17) Tryd.func127 rfl rfl ⟨rfl,trivial⟩ ?_))
  refine Lo (iV (0)) (Arx rfl rfl k27 fun K29 k29=>Asf (iV (0)) (l_v (Dg rfl rfl) (l_k k29 (Cg rfl rfl (Al (k26 _ _ _ _ ?_))))))
  refine Ag rfl rfl (l_v (Ah (v:=(.map (some k6))) h10_9) (Asf (.string (a17.name)) (Cx rfl (Afq (i:=0) (kt:=9) (et:=4) (k:=a17.name) (pr:=inL ((m.fields.map PField.name).take i)) Bkj Bih MS10_9 nda17 rfl rfl rfl rfl fun es30 ck30 S30=>?_))))
  refine l_k k14 (Ag rfl rfl (l_v (Br h10_21 rfl (z:=(((i + 1):Nat):Int)) wrE) (Asf (iV ((((i + 1):Nat):Int))) (Bj (Bmi l20) (Ac ?_)))))
  refine ⟨_,?_,((i + 1)),es30,ck30,rfl,rfl,rfl,rfl,h10_2,h10_3,h10_19,h10_20,h10_9,rfl,(by omega),(Rl (Tq (by rw [List.getElem?_map,ha17]; rfl)) S30),trivial⟩
  omega
 have q13:=of_decide_eq_false b13
 refine Bx (k7 _ _ _ _ ?_)
 refine w_q rfl rfl fun K31 k31=>Lo (iV (0)) (l_k k31 (Aj Bmh (Aq (hret _ _ _ ⟨rfl,rfl,eT (iV (0)) ?_⟩))))
 rfl
theorem Azw {m:Morn} {vp:Value} (rp:At ρ vp (⟨m⟩:MornP)) (ok:MornOk m):CallsH (CX mn X) 118 #[vp] ρ σ (rP ρ σ (iV (0))):=by
 refine Bh (n:=9) (args:=[vp]) [2] Tryd.func118 rfl rfl rfl rfl fun Q hret hnor=>w_q rfl rfl fun K1 k1=>Lo (iV (0)) (Arx rfl rfl k1 fun K2 k2=>Asf vp (l_v (Hj rfl rp) (Arw (Ay MornP.f_m Bir rfl rfl Ata (by decide) rfl rp) fun v3 r3=>Arw (Ay Morn.f_fields Bhz rfl rfl Asw (by decide) rfl r3) fun v4 r4=>Arw (Ax Asw rfl r4) fun v5 r5=>Arv (Bm (Azy r5 ok) Tryd.func125 rfl rfl ⟨rfl,rfl,rfl,rfl,trivial⟩ ?_))))
 refine Lo (iV (0)) (l_k k2 (Aq (hret _ _ _ ⟨rfl,rfl,eT (iV (0)) ?_⟩)))
 rfl
theorem Bbf {x:Picker} {vx:Value} (rx:Val ρ vx x):CallsH (CX mn X) 129 #[vx] ρ σ (rP ρ σ (.string (x.name))):=by
 refine Bh (n:=5) (args:=[vx]) [2] Tryd.func129 rfl rfl rfl rfl fun Q hret hnor=>w_q rfl rfl fun K1 k1=>Arv (Eb (v:=vx) rfl fun k2=>?_)
 refine Bb (a:=x) rx fun ρ2 l2 r2=>Lo (.string ((ByteArray.mk #[]))) (Arx rfl rfl k1 fun K3 k3=>Arw (Ay Picker.f_name Bik rfl rfl ty9 (by decide) rfl r2) fun v4 r4=>?_)
 have g5:=At.slen r4
 refine l_v (Pk ty9 rfl r4) (Lo (.string (x.name)) (l_k k3 (Aj (Bmi l2) (Aq (hret _ _ _ ⟨rfl,rfl,eT (.string (x.name)) ?_⟩)))))
 rfl
theorem Bdx {x:Picker} {m:Morn} {vx vc:Value} (rx:Val ρ vx x) (rc:At ρ vc (Ptr.mk (⟨m⟩:MornP))) (h1:0 ≤ x.house∧x.house ≤ (m.houses.length:Int) - 1) (h2:0 ≤ x.from_∧x.from_ ≤ 24) (h3:0 ≤ x.till∧x.till ≤ 24) (h4:x.from_ ≤ x.till):CallsH (CX mn X) 130 #[vx,vc] ρ σ (rP ρ σ (iV (0))):=by
 refine Bh (n:=33) (args:=[vx,vc]) [3] Tryd.func130 rfl rfl rfl rfl fun Q hret hnor=>w_q rfl rfl fun K1 k1=>Arv (Eb (v:=vx) rfl fun k2=>?_)
 refine Bb (a:=x) rx fun ρ2 l2 r2=>?_
 replace rc:=Bmg l2 rc
 refine Lo (iV (0)) (Asa k1 fun K3 k3=>Ao (Ai fun K4 k4=>Atd (Asj 0 Aqy rfl (Ay Picker.f_house Bik rfl rfl ty3 (by decide) rfl r2) fun v5 r5=>?_)))
 have ⟨g6a,g6b⟩:=At.rng r5
 refine Ash 1 Aoo rfl (Bc ty3 rfl r5) (Asn 2 Aop rfl (Ax Bda rfl rc) fun v7 r7=>?_)
 replace r7:=Ir.1 r7
 refine Asi 3 Aqz rfl (Hj rfl r7) (Asn 4 Ara rfl (Ay MornP.f_m Bir rfl rfl Ata (by decide) rfl r7) fun v8 r8=>Asn 5 Arb rfl (Ay Morn.f_houses Bhz rfl rfl Hw (by decide) rfl r8) fun v9 r9=>Asn 6 Arc rfl (Ax Hw rfl r9) fun v10 r10=>?_)
 have g11:m.houses.length < 2 ^ 60:=Bmn r10
 refine Asi 7 Aok rfl (Ci (el:=9) Bic rfl r10) (Asi 8 Ans rfl (Ou rfl rfl (z:=(((m.houses.length:Nat):Int) - 1)) wrE) (Asm 9 zZ7 rfl (Bm (Asy) Bju rfl rfl ⟨rfl,rfl,rfl,trivial⟩ ⟨Bml,?_⟩)))
 refine Asi 10 zZ0 rfl (Iy rfl) (Asi 11 zZ1 rfl (Cp (v:=(.bool (!(inR x.house 0 ((((m.houses.length:Nat):Int) - 1)))))) rfl) (Ec rfl (k4 _ _ _ _ ?_)))
 refine Cg rfl (not_t (Fz.2 (by first | omega | (simp only; omega)))) (w_q rfl rfl fun K12 k12=>Arw (Ay Picker.f_from_ Bik rfl rfl ty3 (by decide) rfl r2) fun v13 r13=>?_)
 have ⟨g14a,g14b⟩:=At.rng r13
 refine l_v (Bc ty3 rfl r13) (Arv (Bm (Asy) Bju rfl rfl ⟨rfl,rfl,rfl,trivial⟩ ?_))
 refine l_v (Iy rfl) (Asf (.bool (!(inR x.from_ 0 24))) (Ak (gY rfl (not_t (Fz.2 (by first | omega | (simp only; omega))))) (Ay Picker.f_till Bik rfl rfl ty3 (by decide) rfl r2) fun v15 r15=>?_))
 have ⟨g16a,g16b⟩:=At.rng r15
 refine Aa (gY rfl (not_t (Fz.2 (by first | omega | (simp only; omega))))) (Bc ty3 rfl r15) (Ae (gY rfl (not_t (Fz.2 (by first | omega | (simp only; omega))))) (Bm (Asy) Bju rfl rfl ⟨rfl,rfl,rfl,trivial⟩ ?_))
 refine Aa (gY rfl (not_t (Fz.2 (by first | omega | (simp only; omega))))) (Iy rfl) (l_v (Bn rfl (not_t (Fz.2 (by first | omega | (simp only; omega)))) (v:=(.bool (!(inR x.till 0 24)))) rfl) (Lo (.bool (!(inR x.till 0 24))) (l_k k12 (Cg rfl (not_t (Fz.2 (by first | omega | (simp only; omega)))) (w_q rfl rfl fun K17 k17=>Arw (Ay Picker.f_till Bik rfl rfl ty3 (by decide) rfl r2) fun v18 r18=>?_)))))
 have ⟨g19a,g19b⟩:=At.rng r18
 refine l_v (Bc ty3 rfl r18) (Arw (Ay Picker.f_from_ Bik rfl rfl ty3 (by decide) rfl r2) fun v20 r20=>?_)
 have ⟨g21a,g21b⟩:=At.rng r20
 refine l_v (Bc ty3 rfl r20) (l_v (Da rfl rfl) (Lo (.bool (decide (x.till < x.from_))) (l_k k17 (Cg rfl (decide_eq_false (by omega)) (Al (k3 _ _ _ _ ?_))))))
 refine w_q rfl rfl fun K22 k22=>Lo (iV (0)) (l_k k22 (Aj (Bmi l2) (Aq (hret _ _ _ ⟨rfl,rfl,eT (iV (0)) ?_⟩))))
 rfl
theorem Azz {m:Morn} {vl vc:Value} (rl:Val ρ vl m.pickers) (rc:At ρ vc (Ptr.mk (⟨m⟩:MornP))) (ok:MornOk m):CallsH (CX mn X) 128 #[vl,(iV (5)),(.func (.func 129) #[] #[]),(.func (.func 130) #[] #[vc])] ρ σ (rP ρ σ (iV (0))):=by
 have hnp:=ok.pickers.1
 refine Bh (n:=45) (args:=[vl,(iV (5)),(.func (.func 129) #[] #[]),(.func (.func 130) #[] #[vc])]) [8] Tryd.func128 rfl rfl rfl rfl fun Q hret hnor=>w_q rfl rfl fun K1 k1=>Lo (iV (0)) (Ary rfl rfl k1 fun K2 K3 k2 k3=>Asf vl ?_)
 have g4:m.pickers.length < 2 ^ 60:=Bmn rl
 refine l_v (Ci (el:=57) Bja rfl rl) (Asf (iV (5)) (l_v (Gl (p:=((m.pickers.length:Nat):Int)) (q:=5) rfl rfl) (l_k k3 (Cg rfl (decide_eq_false (by omega)) (Al (k2 _ _ _ _ ?_))))))
 refine w_q rfl rfl fun K5 k5=>Arv (Oh fun k6=>?_)
 refine Lo (.map (some k6)) (Ary rfl rfl k5 fun K7 K8 k7 k8=>Asf vl ?_)
 have g9:m.pickers.length < 2 ^ 60:=Bmn rl
 refine l_v (Ci (el:=57) Bja rfl rl) (Asf (iV (0)) (l_k k8 (Ao (Cc (fun mm ee dd ρ' σ'=>∃ (i:Nat) (es10_9:Array MapEntry) (ck10_9:Nat),(m.pickers.length - i) = mm∧[] = dd∧ρ = ρ'∧((k6,Res.obj (Obj.map es10_9 ck10_9)) :: σ) = σ'∧ee 2 = (.func (.func 129) #[] #[])∧ee 3 = (.func (.func 130) #[] #[vc])∧ee 19 = vl∧ee 20 = (iV (((m.pickers.length:Nat):Int)))∧ee 9 = (.map (some k6))∧ee 21 = (iV ((i:Int)))∧(i ≤ m.pickers.length)∧Mu es10_9 (inL ((m.pickers.map Picker.name).take i))∧True) (m:=_) ⟨0,#[],0,rfl,rfl,rfl,rfl,rfl,rfl,rfl,rfl,rfl,rfl,(Nat.zero_le _),(Rl (fun k=>by simp [inL]) Uh),trivial⟩ ?_))))
 rintro m10 e10 _ _ _ ⟨i,es10_9,ck10_9,rfl,rfl,rfl,rfl,h10_2,h10_3,h10_19,h10_20,h10_9,h10_21,p10_0,MS10_9,_⟩
 refine w_q rfl rfl fun K11 k11=>l_v (Da h10_21 h10_20) (Asa k11 fun K12 k12=>Asg (t:=decide ((i:Int) < ((m.pickers.length:Nat):Int))) rfl (fun b13=>?_) (fun b13=>?_))
 ·have q13:=of_decide_eq_true b13
  refine Al (k12 _ _ _ _ ?_)
  refine Ai fun K14 k14=>Ao (w_q rfl rfl fun K15 k15=>?_)
  obtain ⟨a17,ha17⟩:=Ed (xs:=m.pickers) (i:=i) (by omega)
  obtain ⟨nfa17,nd0a17,paa17,pba17,pca17,pda17⟩:=ok.pickers.2 _ (Aui ha17) _ ha17; have nda17:=Awk (f:=Picker.name) ha17 nd0a17; have nla17:=Awl nfa17
  refine Arw (Ch i Bja Atz h10_19 rl (q:=(i:Int)) h10_21 rfl ha17) fun v16 r16=>Arw (Ax Atz rfl r16) fun v18 r18=>Arv (Ct Bap fun k19=>?_)
  refine Cx rfl (Dv (v:=v18) (a:=a17) (c:=Ban) Atz rfl rfl r18 rfl ?_)
  refine Bb (a:=a17) r18 fun ρ20 l20 r20=>?_
  replace rc:=Bmg l20 rc
  refine Arx rfl rfl k15 fun K21 k21=>l_v (Ah (v:=(.func (.func 129) #[] #[])) h10_2) (Arw (Ax Atz rfl r20) fun v22 r22=>Arv (Ur (caps:=[]) (vs:=[v22]) (v:=(.string (a17.name))) rfl (Bbf r22) Tryd.func129 rfl rfl ⟨rfl,trivial⟩ ?_))
  refine Lo (.string (a17.name)) (Asa k21 fun K23 k23=>Ao (w_q rfl rfl fun K24 k24=>Asf (.string (a17.name)) (Arv (Bm (Awg (by omega)) Bls rfl rfl ⟨rfl,trivial⟩ ?_))))
  refine l_v (Iy rfl) (Lo (.bool (!(Hg a17.name))) (l_k k24 (Cg rfl (not_t nfa17) (w_q rfl rfl fun K25 k25=>l_v (Ah (v:=(.map (some k6))) h10_9) (Asf (.string (a17.name)) (Arv (Xq (i:=0) (kt:=9) (et:=4) (k:=a17.name) (pr:=inL ((m.pickers.map Picker.name).take i)) Bkj Bih zr4 MS10_9 rfl rfl rfl ?_)))))))
  refine Lo (.bool ((inL ((m.pickers.map Picker.name).take i)) a17.name)) (l_k k25 (Cg rfl nda17 (Al (k23 _ _ _ _ ?_))))
  refine Asb rfl rfl fun K26 K27 k26 k27=>l_v (Ah (v:=(.func (.func 130) #[] #[vc])) h10_3) (Arw (Ax Atz rfl r20) fun v28 r28=>Arv (Ur (caps:=[vc]) (vs:=[v28]) (v:=(iV (0))) rfl (Bdx r28 rc paa17 pba17 pca17 pda17) Tryd.func130 rfl rfl ⟨rfl,trivial⟩ ?_))
  refine Lo (iV (0)) (Arx rfl rfl k27 fun K29 k29=>Asf (iV (0)) (l_v (Dg rfl rfl) (l_k k29 (Cg rfl rfl (Al (k26 _ _ _ _ ?_))))))
  refine Ag rfl rfl (l_v (Ah (v:=(.map (some k6))) h10_9) (Asf (.string (a17.name)) (Cx rfl (Afq (i:=0) (kt:=9) (et:=4) (k:=a17.name) (pr:=inL ((m.pickers.map Picker.name).take i)) Bkj Bih MS10_9 nda17 rfl rfl rfl rfl fun es30 ck30 S30=>?_))))
  refine l_k k14 (Ag rfl rfl (l_v (Br h10_21 rfl (z:=(((i + 1):Nat):Int)) wrE) (Asf (iV ((((i + 1):Nat):Int))) (Bj (Bmi l20) (Ac ?_)))))
  refine ⟨_,?_,((i + 1)),es30,ck30,rfl,rfl,rfl,rfl,h10_2,h10_3,h10_19,h10_20,h10_9,rfl,(by omega),(Rl (Tq (by rw [List.getElem?_map,ha17]; rfl)) S30),trivial⟩
  omega
 have q13:=of_decide_eq_false b13
 refine Bx (k7 _ _ _ _ ?_)
 refine w_q rfl rfl fun K31 k31=>Lo (iV (0)) (l_k k31 (Aj Bmh (Aq (hret _ _ _ ⟨rfl,rfl,eT (iV (0)) ?_⟩))))
 rfl
theorem Ayw {m:Morn} {vp:Value} (rp:At ρ vp (⟨m⟩:MornP)) (ok:MornOk m):CallsH (CX mn X) 119 #[vp] ρ σ (rP ρ σ (iV (0))):=by
 refine Bh (n:=10) (args:=[vp]) [2] Tryd.func119 rfl rfl rfl rfl fun Q hret hnor=>w_q rfl rfl fun K1 k1=>Arv (Eb (v:=vp) rfl fun k2=>?_)
 refine Bb (a:=(Ptr.mk ((⟨m⟩:MornP)))) (Ir.2 rp) fun ρ2 l2 r2=>Lo (iV (0)) (Arx rfl rfl k1 fun K3 k3=>Arw (Ax Bda rfl r2) fun v4 r4=>?_)
 replace r4:=Ir.1 r4
 refine l_v (Hj rfl r4) (Arw (Ay MornP.f_m Bir rfl rfl Ata (by decide) rfl r4) fun v5 r5=>Arw (Ay Morn.f_pickers Bhz rfl rfl Atm (by decide) rfl r5) fun v6 r6=>Arw (Ax Atm rfl r6) fun v7 r7=>l_v (Il (fn:=.func 130) (caps:=[.tmp 1]) (vs:=[(.pointer (some ⟨k2,0,none⟩))]) ⟨rfl,trivial⟩) (Arv (Bm (Azz r7 r2 ok) Tryd.func128 rfl rfl ⟨rfl,rfl,rfl,rfl,trivial⟩ ?_)))
 refine Lo (iV (0)) (l_k k3 (Aj (Bmi l2) (Aq (hret _ _ _ ⟨rfl,rfl,eT (iV (0)) ?_⟩))))
 rfl
theorem Ayv {m:Morn} {vp:Value} (rp:At ρ vp (⟨m⟩:MornP)) (ok:MornOk m):CallsH (CX mn X) 114 #[vp] ρ σ (rP ρ σ (iV (0))):=by
 have hnb:=ok.nbaskets
 have hwm:=ok.warm
 refine Bh (n:=77) (args:=[vp]) [2] Tryd.func114 rfl rfl rfl rfl fun Q hret hnor=>w_q rfl rfl fun K1 k1=>Lo (iV (0)) (Ary rfl rfl k1 fun K2 K3 k2 k3=>Asf vp (l_v (Hj rfl rp) (Arw (Ay MornP.f_m Bir rfl rfl Ata (by decide) rfl rp) fun v4 r4=>Arw (Ay Morn.f_baskets Bhz rfl rfl Asu (by decide) rfl r4) fun v5 r5=>Arw (Ax Asu rfl r5) fun v6 r6=>?_)))
 have g7:m.baskets.length < 2 ^ 60:=Bmn r6
 refine l_v (Ci (el:=47) Bip rfl r6) (l_v (Gl (p:=((m.baskets.length:Nat):Int)) (q:=9) rfl rfl) (l_k k3 (Cg rfl (decide_eq_false (by omega)) (Al (k2 _ _ _ _ ?_)))))
 refine Asb rfl rfl fun K8 K9 k8 k9=>Asf vp (l_v (Hj rfl rp) (Arw (Ay MornP.f_m Bir rfl rfl Ata (by decide) rfl rp) fun v10 r10=>Arw (Ay Morn.f_baskets Bhz rfl rfl Asu (by decide) rfl r10) fun v11 r11=>Arw (Ax Asu rfl r11) fun v12 r12=>?_))
 have g13:m.baskets.length < 2 ^ 60:=Bmn r12
 refine l_v (Ci (el:=47) Bip rfl r12) (Asf (iV (0)) (l_k k9 (Ao (Cc (fun mm ee dd ρ' σ'=>∃ (i:Nat),(m.baskets.length - i) = mm∧[] = dd∧ρ = ρ'∧σ = σ'∧ee 0 = vp∧ee 16 = v12∧ee 17 = (iV (((m.baskets.length:Nat):Int)))∧ee 18 = (iV ((i:Int)))∧(i ≤ m.baskets.length)∧True) (m:=_) ⟨0,rfl,rfl,rfl,rfl,rfl,rfl,rfl,rfl,(Nat.zero_le _),trivial⟩ ?_))))
 rintro m14 e14 _ _ _ ⟨i,rfl,rfl,rfl,rfl,h14_0,h14_16,h14_17,h14_18,p14_0,_⟩
 refine w_q rfl rfl fun K15 k15=>l_v (Da h14_18 h14_17) (Asa k15 fun K16 k16=>Asg (t:=decide ((i:Int) < ((m.baskets.length:Nat):Int))) rfl (fun b17=>?_) (fun b17=>?_))
 ·have q17:=of_decide_eq_true b17
  refine Al (k16 _ _ _ _ ?_)
  refine Ai fun K18 k18=>Ao (w_q rfl rfl fun K19 k19=>?_)
  obtain ⟨a21,ha21⟩:=Ed (xs:=m.baskets) (i:=i) (by omega)
  obtain ⟨paa21,pba21,pca21,pda21,pea21,pfa21⟩:=ok.basket _ (Aui ha21) _ ha21
  refine Arw (Ch i Bip Ati h14_16 r12 (q:=(i:Int)) h14_18 rfl ha21) fun v20 r20=>Arw (Ax Ati rfl r20) fun v22 r22=>Arv (Ct Awx fun k23=>?_)
  refine Cx rfl (Dv (v:=v22) (a:=a21) (c:=Aww) Ati rfl rfl r22 rfl ?_)
  refine Bb (a:=a21) r22 fun ρ24 l24 r24=>?_
  replace rp:=Bmg l24 rp
  refine l_k k19 (Ao (Ai fun K25 k25=>Atd (Asj 0 [o1,o0,o0,o0,o0,o0,o0,o0,o0,o0,o0,o0,o0,o0,o0,o0,o0,o0,o0,o0,o0,o0,o0,o0,o0] rfl (Ay Basket.f_field Bid rfl rfl ty3 (by decide) rfl r24) fun v26 r26=>?_)))
  have ⟨g27a,g27b⟩:=At.rng r26
  refine Ash 1 [o1,o1,o0,o0,o0,o0,o0,o0,o0,o0,o0,o0,o0,o0,o0,o0,o0,o0,o0,o0,o0,o0,o0,o0,o0] rfl (Bc ty3 rfl r26) (Asi 2 [o1,o1,o1,o0,o0,o0,o0,o0,o0,o0,o0,o0,o0,o0,o0,o0,o0,o0,o0,o0,o0,o0,o0,o0,o0] rfl (Ah (v:=vp) h14_0) (Asi 3 [o1,o1,o1,o1,o0,o0,o0,o0,o0,o0,o0,o0,o0,o0,o0,o0,o0,o0,o0,o0,o0,o0,o0,o0,o0] rfl (Hj rfl rp) (Asn 4 [o1,o1,o1,o1,o1,o0,o0,o0,o0,o0,o0,o0,o0,o0,o0,o0,o0,o0,o0,o0,o0,o0,o0,o0,o0] rfl (Ay MornP.f_m Bir rfl rfl Ata (by decide) rfl rp) fun v28 r28=>Asn 5 [o1,o1,o1,o1,o1,o1,o0,o0,o0,o0,o0,o0,o0,o0,o0,o0,o0,o0,o0,o0,o0,o0,o0,o0,o0] rfl (Ay Morn.f_fields Bhz rfl rfl Asw (by decide) rfl r28) fun v29 r29=>Asn 6 [o1,o1,o1,o1,o1,o1,o1,o0,o0,o0,o0,o0,o0,o0,o0,o0,o0,o0,o0,o0,o0,o0,o0,o0,o0] rfl (Ax Asw rfl r29) fun v30 r30=>?_)))
  have g31:m.fields.length < 2 ^ 60:=Bmn r30
  refine Asi 7 [o1,o1,o1,o1,o1,o1,o1,o1,o0,o0,o0,o0,o0,o0,o0,o0,o0,o0,o0,o0,o0,o0,o0,o0,o0] rfl (Ci (el:=55) Bim rfl r30) (Asi 8 [o1,o1,o1,o1,o1,o1,o1,o1,o1,o0,o0,o0,o0,o0,o0,o0,o0,o0,o0,o0,o0,o0,o0,o0,o0] rfl (Ou rfl rfl (z:=(((m.fields.length:Nat):Int) - 1)) wrE) (Asm 9 [o1,o1,o1,o1,o1,o1,o1,o1,o1,o1,o0,o0,o0,o0,o0,o0,o0,o0,o0,o0,o0,o0,o0,o0,o0] rfl (Bm (Asy) Bju rfl rfl ⟨rfl,rfl,rfl,trivial⟩ ⟨Bml,?_⟩)))
  refine Asi 10 [o1,o1,o1,o1,o1,o1,o1,o1,o1,o1,o1,o0,o0,o0,o0,o0,o0,o0,o0,o0,o0,o0,o0,o0,o0] rfl (Iy rfl) (Asi 11 [o1,o1,o1,o1,o1,o1,o1,o1,o1,o1,o1,o1,o0,o0,o0,o0,o0,o0,o0,o0,o0,o0,o0,o0,o0] rfl (Ah (v:=(.bool (!(inR a21.field 0 ((((m.fields.length:Nat):Int) - 1)))))) rfl) (Atp 12 [o1,o1,o1,o1,o1,o1,o1,o1,o1,o1,o1,o1,o1,o0,o0,o0,o0,o0,o0,o0,o0,o0,o0,o0,o0] rfl Bml (gY rfl (not_t (Fz.2 (by first | omega | (simp only; omega))))) (Ay Basket.f_house Bid rfl rfl ty3 (by decide) rfl r24) fun v32 r32=>?_))
  have ⟨g33a,g33b⟩:=At.rng r32
  refine Auy 13 [o1,o1,o1,o1,o1,o1,o1,o1,o1,o1,o1,o1,o1,o1,o0,o0,o0,o0,o0,o0,o0,o0,o0,o0,o0] rfl Bml (gY rfl (not_t (Fz.2 (by first | omega | (simp only; omega))))) (Bc ty3 rfl r32) (Ass 14 [o1,o1,o1,o1,o1,o1,o1,o1,o1,o1,o1,o1,o1,o1,o1,o0,o0,o0,o0,o0,o0,o0,o0,o0,o0] rfl Bml (gY rfl (not_t (Fz.2 (by first | omega | (simp only; omega))))) (Ah (v:=vp) h14_0) (Ass 15 [o1,o1,o1,o1,o1,o1,o1,o1,o1,o1,o1,o1,o1,o1,o1,o1,o0,o0,o0,o0,o0,o0,o0,o0,o0] rfl Bml (gY rfl (not_t (Fz.2 (by first | omega | (simp only; omega))))) (Hj rfl rp) (Atv 16 [o1,o1,o1,o1,o1,o1,o1,o1,o1,o1,o1,o1,o1,o1,o1,o1,o1,o0,o0,o0,o0,o0,o0,o0,o0] rfl Bml (gY rfl (not_t (Fz.2 (by first | omega | (simp only; omega))))) (Ay MornP.f_m Bir rfl rfl Ata (by decide) rfl rp) fun v34 r34=>Atv 17 [o1,o1,o1,o1,o1,o1,o1,o1,o1,o1,o1,o1,o1,o1,o1,o1,o1,o1,o0,o0,o0,o0,o0,o0,o0] rfl Bml (gY rfl (not_t (Fz.2 (by first | omega | (simp only; omega))))) (Ay Morn.f_houses Bhz rfl rfl Hw (by decide) rfl r34) fun v35 r35=>Atv 18 [o1,o1,o1,o1,o1,o1,o1,o1,o1,o1,o1,o1,o1,o1,o1,o1,o1,o1,o1,o0,o0,o0,o0,o0,o0] rfl Bml (gY rfl (not_t (Fz.2 (by first | omega | (simp only; omega))))) (Ax Hw rfl r35) fun v36 r36=>?_)))
  have g37:m.houses.length < 2 ^ 60:=Bmn r36
  refine Ass 19 [o1,o1,o1,o1,o1,o1,o1,o1,o1,o1,o1,o1,o1,o1,o1,o1,o1,o1,o1,o1,o0,o0,o0,o0,o0] rfl Bml (gY rfl (not_t (Fz.2 (by first | omega | (simp only; omega))))) (Ci (el:=9) Bic rfl r36) (Ass 20 [o1,o1,o1,o1,o1,o1,o1,o1,o1,o1,o1,o1,o1,o1,o1,o1,o1,o1,o1,o1,o1,o0,o0,o0,o0] rfl Bml (gY rfl (not_t (Fz.2 (by first | omega | (simp only; omega))))) (Ou rfl rfl (z:=(((m.houses.length:Nat):Int) - 1)) wrE) (Azu 21 [o1,o1,o1,o1,o1,o1,o1,o1,o1,o1,o1,o1,o1,o1,o1,o1,o1,o1,o1,o1,o1,o1,o0,o0,o0] rfl (gY rfl (not_t (Fz.2 (by first | omega | (simp only; omega))))) (Bm (Asy) Bju rfl rfl ⟨rfl,rfl,rfl,trivial⟩ ⟨Bml,?_⟩)))
  refine Ass 22 [o1,o1,o1,o1,o1,o1,o1,o1,o1,o1,o1,o1,o1,o1,o1,o1,o1,o1,o1,o1,o1,o1,o1,o0,o0] rfl Bml (gY rfl (not_t (Fz.2 (by first | omega | (simp only; omega))))) (Iy rfl) (Asi 23 [o1,o1,o1,o1,o1,o1,o1,o1,o1,o1,o1,o1,o1,o1,o1,o1,o1,o1,o1,o1,o1,o1,o1,o1,o0] rfl (Bn rfl (not_t (Fz.2 (by first | omega | (simp only; omega)))) (v:=(.bool (!(inR a21.house 0 ((((m.houses.length:Nat):Int) - 1)))))) rfl) (Asi 24 [o1,o1,o1,o1,o1,o1,o1,o1,o1,o1,o1,o1,o1,o1,o1,o1,o1,o1,o1,o1,o1,o1,o1,o1,o1] rfl (Cp (v:=(.bool (!(inR a21.house 0 ((((m.houses.length:Nat):Int) - 1)))))) rfl) (Ec rfl (k25 _ _ _ _ ?_))))
  refine Cg rfl (not_t (Fz.2 (by first | omega | (simp only; omega)))) (w_q rfl rfl fun K38 k38=>Arw (Ay Basket.f_opens Bid rfl rfl ty3 (by decide) rfl r24) fun v39 r39=>?_)
  have ⟨g40a,g40b⟩:=At.rng r39
  refine l_v (Bc ty3 rfl r39) (Arv (Bm (Asy) Bju rfl rfl ⟨rfl,rfl,rfl,trivial⟩ ?_))
  refine l_v (Iy rfl) (Asf (.bool (!(inR a21.opens 0 23))) (Ak (gY rfl (not_t (Fz.2 (by first | omega | (simp only; omega))))) (Ay Basket.f_keeps Bid rfl rfl Mx (by decide) rfl r24) fun v41 r41=>Ak (gY rfl (not_t (Fz.2 (by first | omega | (simp only; omega))))) (Ax Mx rfl r41) fun v42 r42=>Ae (gY rfl (not_t (Fz.2 (by first | omega | (simp only; omega))))) (Bm (Axh r42) Tryd.func121 rfl rfl ⟨rfl,rfl,rfl,trivial⟩ ?_)))
  refine Aa (gY rfl (not_t (Fz.2 (by first | omega | (simp only; omega))))) (Iy rfl) (l_v (Bn rfl (not_t (Fz.2 (by first | omega | (simp only; omega)))) (v:=(.bool (!(Ef a21.keeps 0 24)))) rfl) (Lo (.bool (!(Ef a21.keeps 0 24))) (l_k k38 (Cg rfl (not_t (Re.2 (by first | omega | (simp only; omega)))) (w_q rfl rfl fun K43 k43=>Arw (Ay Basket.f_worth Bid rfl rfl ty3 (by decide) rfl r24) fun v44 r44=>?_)))))
  have ⟨g45a,g45b⟩:=At.rng r44
  refine l_v (Bc ty3 rfl r44) (Arv (Bm (Asy) Bju rfl rfl ⟨rfl,rfl,rfl,trivial⟩ ?_))
  refine l_v (Iy rfl) (Asf (.bool (!(inR a21.worth 0 10000))) (Ak (gY rfl (not_t (Fz.2 (by first | omega | (simp only; omega))))) (Ay Basket.f_stays Bid rfl rfl ty3 (by decide) rfl r24) fun v46 r46=>?_))
  have ⟨g47a,g47b⟩:=At.rng r46
  refine Aa (gY rfl (not_t (Fz.2 (by first | omega | (simp only; omega))))) (Bc ty3 rfl r46) (Ae (gY rfl (not_t (Fz.2 (by first | omega | (simp only; omega))))) (Bm (Asy) Bju rfl rfl ⟨rfl,rfl,rfl,trivial⟩ ?_))
  refine Aa (gY rfl (not_t (Fz.2 (by first | omega | (simp only; omega))))) (Iy rfl) (l_v (Bn rfl (not_t (Fz.2 (by first | omega | (simp only; omega)))) (v:=(.bool (!(inR a21.stays 0 10000)))) rfl) (Lo (.bool (!(inR a21.stays 0 10000))) (l_k k43 (Cg rfl (not_t (Fz.2 (by first | omega | (simp only; omega)))) (Al (k18 _ _ _ _ ?_))))))
  refine Ag rfl rfl (l_v (Br h14_18 rfl (z:=(((i + 1):Nat):Int)) wrE) (Asf (iV ((((i + 1):Nat):Int))) (Bj (Bmi l24) (Ac ?_))))
  refine ⟨_,?_,((i + 1)),rfl,rfl,rfl,rfl,h14_0,h14_16,h14_17,rfl,(by omega),trivial⟩
  omega
 have q17:=of_decide_eq_false b17
 refine Bx (k8 _ _ _ _ ?_)
 refine Asb rfl rfl fun K48 K49 k48 k49=>l_v (Ah (v:=vp) h14_0) (l_v (Hj rfl rp) (Arw (Ay MornP.f_m Bir rfl rfl Ata (by decide) rfl rp) fun v50 r50=>Arw (Ay Morn.f_warm Bhz rfl rfl Mx (by decide) rfl r50) fun v51 r51=>Arw (Ax Mx rfl r51) fun v52 r52=>Arv (Bm (Axh r52) Tryd.func121 rfl rfl ⟨rfl,rfl,rfl,trivial⟩ ?_)))
 refine l_v (Iy rfl) (l_k k49 (Cg rfl (not_t (Re.2 (by first | omega | (simp only; omega)))) (Al (k48 _ _ _ _ ?_))))
 refine w_q rfl rfl fun K53 k53=>Lo (iV (0)) (l_k k53 (Aq (hret _ _ _ ⟨rfl,rfl,eT (iV (0)) ?_⟩)))
 rfl
end
section
open Go
/-- An entry: key,slice,stamp; what the slice holds; the blocks of the slice. -/
structure OEnt where
 c:Int
 v:Value
 b:Nat
 l:List Int
 g:Own
def OEnt.e (z:OEnt):MapEntry:=⟨.int .i64 z.c,z.v,z.b⟩
def OEnt.p (z:OEnt):Int × List Int:=(z.c,z.l)
structure MapE (es:Array MapEntry) (ck:Nat) (E:List OEnt):Prop where
 es:es.toList = E.map OEnt.e
 keys:(E.map OEnt.c).Nodup
 born:(E.map OEnt.b).Nodup
 lt:∀ z ∈ E,z.b < ck
/-- A map and the slices that it holds,all owned. -/
def OthG (ρ:Ro) (r:Nat) (L:Oth) (g:Own):Prop :=
 ∃ es ck E,MapE es ck E∧L = E.map OEnt.p∧(∀ z ∈ E,Grow ρ 3 z.v z.l z.g∧z.l ≠ [])∧g = (r,Res.obj (.map es ck)) :: (E.map OEnt.g).flatten
theorem OthG.mono {ρ ρ':Ro} (hle:Ro.le ρ ρ') {r:Nat} {L:Oth} {g:Own} (h:OthG ρ r L g):OthG ρ' r L g :=
 let ⟨es,ck,E,h1,h2,h3,h4⟩:=h
 ⟨es,ck,E,h1,h2,fun z hz=>⟨(h3 z hz).1.mono hle,(h3 z hz).2⟩,h4⟩
/-- The same without the slice of a cycle,which is held elsewhere. -/
def OthH (ρ:Ro) (r:Nat) (L:Oth) (c:Int) (v:Value) (h:Own):Prop :=
 ∀ ρ' l' gr',Ro.le ρ ρ'→l' ≠ []→Grow ρ' 3 v l' gr'→∃ g',OthG ρ' r (Bft L c l') g'∧(gr' ++ h).Perm g'
theorem OthH.mono {ρ ρ':Ro} (hle:Ro.le ρ ρ') {r:Nat} {L:Oth} {c:Int} {v:Value} {h:Own} (hh:OthH ρ r L c v h):OthH ρ' r L c v h :=
 fun ρ'' l' gr' hle'=>hh ρ'' l' gr' (Bmm hle hle')
/-- The map and its slices,only read from here on. -/
def OthR (ρ:Ro) (r:Nat) (L:Oth):Prop :=
 ∃ es ck E,ρ r = some (.map es ck)∧MapE es ck E∧L = E.map OEnt.p∧∀ z ∈ E,Val ρ z.v z.l
theorem OthR.mono {ρ ρ':Ro} (hle:Ro.le ρ ρ') {r:Nat} {L:Oth} (h:OthR ρ r L):OthR ρ' r L :=
 let ⟨es,ck,E,h0,h1,h2,h3⟩:=h
 ⟨es,ck,E,hle _ _ h0,h1,h2,fun z hz=>(h3 z hz).mono hle⟩
section
variable {C:Ctx} {e:Env} {ds:List Deferred} {ρ:Ro} {σ:Own} {K:Value→List Deferred→Ro→Own→Prop} {rd:Option Nat} {dd:Option Tmp}
variable {ty:TypeId} {pos:String} {af:Array Edge} {g:Option (Nat × Bool)} {x y u:Operand} {v p:Value} {t t':TypeId} {P:Program}
end
end
section
open Go
def Ends.l (a:Ends):List Int:=[a.e0,a.e1,a.e2,a.e3,a.e4,a.e5,a.e6,a.e7,a.e8,a.e9,a.e10,a.e11]
def Avx (d:Ditch) (i j:Nat):Int:=if j < i then Bgj d (j + 1) else 0
def Bgk (d:Ditch) (i:Nat):Ends:=⟨Avx d i 0,Avx d i 1,Avx d i 2,Avx d i 3,Avx d i 4,Avx d i 5,Avx d i 6,Avx d i 7,Avx d i 8,Avx d i 9,Avx d i 10,Avx d i 11⟩
def Bfz (d:Ditch) (r:Nat):Water:=⟨⟨d⟩,Bgk d d.turns.length,Bgm d,Bdb d,⟨r⟩⟩
section
variable {C:Ctx} {bb:FB} {nn:Nat} {Q:Hu} {e:Env} {ds:List Deferred} {ρ:Ro} {σ:Own} {c:Code}
end
/-- What a walk reads of a ditch that runs. -/
def WaterAt (ρ:Ro) (p:Value) (d:Ditch):Prop:=∃ r,At ρ p (Bfz d r)∧OthR ρ r (Bho d)
theorem WaterAt.mono {ρ ρ':Ro} {p:Value} {d:Ditch} (hle:Ro.le ρ ρ') (h:WaterAt ρ p d):WaterAt ρ' p d:=let ⟨r,h1,h2⟩:=h; ⟨r,h1.mono hle,h2.mono hle⟩
end
section
open Go
section
variable {P:Program} {ρ:Ro} {e:Env} {ty t t' el:TypeId} {x y:Operand}
theorem Auj {len:Nat} {cs:List Value} {k:IntKind} {q:Int} {v:Value} (i:Nat) (hT:P.underlying t = some (.array len el)) (hE:∃ d,P.underlying el = some d∧Qv d = false) (hz:∃ i,P.info? el = some i∧i.size = 1) (hx:Af e x = .agg cs.toArray) (hy:Af e y = .int k q) (hq:q = (i:Int)) (hi:i < len) (hc:cs[i]? = some v):Yld P ρ e (.index t x y) ty v :=
 Mt (s:=Instr.index t (Af e x) (Af e y)) (fun _ _ _ _=>rfl) fun ρ' σ _=>by
 rw [hx,hy,hq]
 show wpS P ρ' ((underlying t).bind _) σ _
 rw [Ad]
 refine Az hT ?_
 show wpS P ρ' (if 0 ≤ (i:Int)∧(i:Int) < (len:Nat) then _ else _) σ _
 rw [if_pos (by omega)]
 show wpS P ρ' ((sizeOf el).bind _) σ _
 rw [Ad]
 refine Dx hz ?_
 show wpS P ρ' ((isAgg el).bind _) σ _
 rw [Ad]
 refine Hi hE ?_
 have e1:(cs.toArray)[(i:Int).toNat * 1]? = some v:=by simp [hc]
 simp only [e1]
 exact ⟨rfl,rfl⟩
end
structure FTab where
 l:List Value
instance:Dat FTab where
 k:=4
 agg:=true
 rep _ cs a:=cs = a.l∧a.l.length = 4∧∀ c ∈ a.l,single c = true
 mono _ h:=h
 len h:=by rw [h.1]; exact h.2.1
 sgl h:=by rw [h.1]; exact h.2.2
 one h:=by cases h
theorem Avi {ρ:Ro} {v:Value} {a:FTab} (h:Val ρ v a):v = .agg a.l.toArray:=by
 obtain ⟨cs,⟨h1,_,_⟩,rfl⟩:=h
 rw [h1]; rfl
def gA (k:Nat):Value:=.pointer (some ⟨k,0,none⟩)
end
section
set_option maxHeartbeats 1000000
open Go
theorem Bfx:GoTy Tryd.prog 146 FTab:=⟨⟨_,Bki,rfl⟩,⟨_,Ab Tryd.typeInfo146,rfl⟩⟩
def checksP:FTab:=⟨[.func (.func 117) #[] #[],.func (.func 118) #[] #[],.func (.func 119) #[] #[],.func (.func 114) #[] #[]]⟩
/-- The table of the checks of a morning,and no spot: nobody writes to them. -/
structure GlobP (ρ:Ro):Prop where
 g:Glob ρ
 checks:At ρ (gA 1) checksP
 nowhere:At ρ (gA 0) (⟨-1,-1⟩:Spot)
theorem GlobP.mono {ρ ρ':Ro} (h:Ro.le ρ ρ') (hg:GlobP ρ):GlobP ρ':=⟨hg.g.mono h,hg.checks.mono h,hg.nowhere.mono h⟩
theorem Awt {ρ:Ro} {v:Value} {m:Morn} (h:Val ρ v m):Val ρ v (⟨m⟩:MornP):=h
theorem Aum {ρ:Ro} {e:Env} {ty:TypeId} {x:Operand} {v:Value} {m:Morn} (hx:Af e x = v) (hv:Val ρ v m):Yld Tryd.prog ρ e (.build 96 [(0,x)].toArray) ty v:=by
 obtain ⟨cs,h1,rfl⟩:=hv
 have hl:cs.length = 6:=Dat.len h1
 have hm:Vu (Dat.agg Morn) cs = .agg cs.toArray:=rfl
 rw [hm] at hx ⊢
 obtain ⟨a0,a1,a2,a3,a4,a5,rfl⟩:∃ a0 a1 a2 a3 a4 a5,cs = [a0,a1,a2,a3,a4,a5]:=by
  match cs,hl with
  | [a0,a1,a2,a3,a4,a5],_=>exact ⟨_,_,_,_,_,_,rfl⟩
 exact Dn (ns:=[6]) (vs:=[(0,.agg #[a0,a1,a2,a3,a4,a5])]) (zc:=Bgc) (cs:=[a0,a1,a2,a3,a4,a5]) Bir Bgg rfl ⟨⟨_,Ab Bke,rfl⟩,trivial⟩ (EvB.map ⟨⟨rfl,hx⟩,trivial⟩) ((Be (cs:=[a0,a1,a2,a3,a4,a5]) rfl rfl (Nat.le_of_ble_eq_true rfl)).trans rfl)
section
variable {P:Program} {ρ:Ro} {e:Env} {ty t:TypeId} {x:Operand}
/-- A plain field of a struct's value. -/
theorem Bdh {fs:Array Field} {f:Field} {cs:List Value} {v:Value} {i:Nat} (hT:P.underlying t = some (.struct fs)) (hf:fs[i]? = some f) (hE:∃ d,P.underlying f.type = some d∧Qv d = false) (hx:Af e x = .agg cs.toArray) (hc:cs[f.offset]? = some v):Yld P ρ e (.field t x i) ty v :=
 Mt (s:=Instr.field t (Af e x) i) (fun _ _ _ _=>rfl) fun ρ' σ _=>by
 rw [hx]
 show wpS P ρ' ((underlying t).bind _) σ _
 rw [Ad]
 refine Az hT ?_
 simp only [hf]
 show wpS P ρ' ((isAgg f.type).bind _) σ _
 rw [Ad]
 refine Hi hE ?_
 have e1:(cs.toArray)[f.offset]? = some v:=by simp [hc]
 simp only [e1]
 exact ⟨rfl,rfl⟩
end
/-- A spot of a morning. -/
def Azt (s:Spot):Prop:=(0 ≤ s.slot∧s.slot ≤ 23)∧0 ≤ s.picker∧s.picker ≤ 4
def Aug (l:List Spot):Prop:=∀ (i:Nat) (s:Spot),l[i]? = some s→Azt s
theorem Bbu:Aug []:=fun _ _ h=>by simp at h
theorem Bbs {l:List Spot} {s:Spot} (h:Aug l) (hs:Azt s):Aug (l ++ [s]):=fun i x hx=>by
 rw [List.getElem?_append] at hx
 split at hx
 ·exact h i x hx
 ·have:i - l.length = 0:=by
   have:=(List.getElem?_eq_some_iff.1 hx).1
   simp at this; omega
  rw [this] at hx
  cases hx; exact hs
/-- The spots of all baskets. -/
def Avb (n:Nat) (a:List (List Spot)):Prop:=a.length = n∧∀ (i:Nat) (l:List Spot),a[i]? = some l→Aug l
theorem Bdt:Avb 0 []:=⟨rfl,fun _ _ h=>by simp at h⟩
theorem Bds {n:Nat} {a:List (List Spot)} {l:List Spot} (h:Avb n a) (hl:Aug l):Avb (n + 1) (a ++ [l]):=⟨by rw [List.length_append,h.1]; rfl,fun i x hx=>by
 rw [List.getElem?_append] at hx
 split at hx
 ·exact h.2 i x hx
 ·have:i - a.length = 0:=by
   have:=(List.getElem?_eq_some_iff.1 hx).1
   simp at this; omega
  rw [this] at hx
  cases hx; exact hl⟩
/-- What a basket loses by the sun. -/
theorem Ayh {w s:Int} (hw:0 ≤ w∧w ≤ 40) (hs:0 ≤ s∧s ≤ 10):0 ≤ w * s∧w * s ≤ 400∧0 ≤ (w * s).tdiv 10∧(w * s).tdiv 10 ≤ 40:=by
 have h1:0 ≤ w * s:=Int.mul_nonneg hw.1 hs.1
 have h2:w * s ≤ 40 * 10:=Int.mul_le_mul hw.2 hs.2 hs.1 (by omega)
 have e:(w * s).tdiv 10 = w * s / 10:=Int.tdiv_eq_ediv_of_nonneg h1
 omega
end
section
open Go
theorem Awm {ρ:Ro}:∀ (n:Nat),Rows ρ (List.replicate n (Value.int .i64 0)) (List.replicate n (0:Int))
 | 0=>rfl
 | n + 1=>⟨[.int .i64 0],List.replicate n (.int .i64 0),rfl,⟨rfl,by constructor <;> decide⟩,Awm n⟩
theorem Bbo {ρ:Ro} {el r n:Nat} (hn:n < 1073741824):Grow ρ el (.slice (some ⟨r,0,none⟩) n n) (List.replicate n (0:Int)) [(r,.obj (.cells ((List.replicate n (0:Int)).map (Value.int .i64)).toArray el (0,0)))]:=by
 refine ⟨fun p hp=>?_,by rw [List.length_replicate]; omega,.inr ⟨r,n,List.replicate n (.int .i64 0),[],[],by rw [List.length_replicate],by rw [List.map_replicate,List.append_nil],Awm n,?_,by rw [List.length_replicate]; exact Nat.le_refl _⟩⟩
 ·rw [List.mem_singleton.1 hp]; exact ⟨_,rfl⟩
 ·rw [List.append_nil,List.length_replicate]; exact (Nat.mul_one n).symm
section
variable {C:Ctx} {e:Env} {ds:List Deferred} {ρ:Ro} {σ:Own} {K:Value→List Deferred→Ro→Own→Prop} {rd:Option Nat} {dd:Option Tmp}
variable {ty:TypeId} {pos:String} {af:Array Edge} {g:Option (Nat × Bool)} {x y:Operand} {t:TypeId}
theorem Beo {el:TypeId} {ti:TypeInfo} {n:Nat} (hT:C.P.underlying t = some (.slice el)) (hi:C.P.info? el = some ti) (hik:ti.size = 1) (hib:ti.bytes ≤ 1000) (hz:ti.zero = some (.int .i64 0))
  (hx:Af e x = .int .i64 (n:Int)) (hy:Af e y = .int .i64 (n:Int)) (hn:n < 1073741824) (h:∀ v gr,Grow ρ el v (List.replicate n (0:Int)) gr→K v ds ρ (gr ++ σ)) :
  wpS C.P ρ (execOp (Af e) ⟨dd,.makeSlice t x y,ty,pos,af,g⟩) σ (NextH C K rd ds ρ) :=
 Baj hT hi hik hib hz hx hy hn fun _=>h _ _ (Bbo hn)
end
section
variable {P:Program} {ρ₀ ρ:Ro} {A:Own} {e:Env} {ty t t':TypeId} {x y:Operand} {v:Value}
end
end
section
set_option maxHeartbeats 1000000
open Go
def Ast (m:Morn) (l:List Int):Int:=(l.map fun b=>(m.baskets.getD b.toNat ⟨0,0,0,⟨0,0⟩,0,0⟩).worth).sum
def Att (m:Morn) (l:List Int):Prop:=∀ (i:Nat) (b:Int),l[i]? = some b→0 ≤ b∧b ≤ (m.baskets.length:Int) - 1
theorem Awu {m:Morn} {l:List Int} {i:Nat} {b:Int} {x:Basket} (hb:l[i]? = some b) (hx:m.baskets[b.toNat]? = some x):Ast m (l.take (i + 1)) = Ast m (l.take i) + x.worth:=by
 unfold Ast
 rw [List.take_add_one,hb]
 simp [List.map_append,List.sum_append,List.getD_eq_getElem?_getD,hx]
theorem Azr {m:Morn} (ok:MornOk m) {l:List Int} (hl:Att m l):∀ i:Nat,0 ≤ Ast m (l.take i)∧Ast m (l.take i) ≤ 10000 * (i:Int)
 | 0=>by simp [Ast]
 | i + 1=>by
  have h:=Azr ok hl i
  cases hb:l[i]? with
  | none=>rw [List.take_of_length_le (by have:=List.getElem?_eq_none_iff.1 hb; omega)]; rw [List.take_of_length_le (List.getElem?_eq_none_iff.1 hb)] at h; omega
  | some b =>
   have hr:=hl i b hb
   have hx:m.baskets[b.toNat]? = some (m.baskets[b.toNat]'(by omega)):=List.getElem?_eq_getElem _
   have hw:=(ok.basket b.toNat (by omega) _ hx).2.2.2.2.1
   rw [Awu hb hx]
   omega
variable {mn:Bool} {X:Frame→List Frame→Ro→Own→Cy→Prop} {ρ:Ro} {σ:Own}
theorem Ayu {m:Morn} {vm:Value} (hg:GlobP ρ) (rm:Val ρ vm m) (ok:MornOk m):CallsH (CX mn X) 25 #[vm] ρ σ (rP ρ σ (iV (0))):=by
 refine Bh (n:=19) (args:=[vm]) [2] Tryd.func25 rfl rfl rfl rfl fun Q hret hnor=>w_q rfl rfl fun K1 k1=>Arv (Eb (v:=vm) rfl fun k2=>?_)
 refine Bb (a:=m) rm fun ρ2 l2 r2=>?_
 replace hg:=GlobP.mono l2 hg
 refine Lo (iV (0)) (Ary rfl rfl k1 fun K3 K4 k3 k4=>Arw (Ax Bfx rfl hg.checks) fun v5 r5=>Asf (iV (0)) (l_k k4 (Ao (Cc (fun mm ee dd ρ' σ'=>∃ (i:Nat),(4 - i) = mm∧[] = dd∧ρ2 = ρ'∧σ = σ'∧ee 1 = (.pointer (some ⟨k2,0,none⟩))∧ee 6 = v5∧ee 7 = (iV ((i:Int)))∧(i ≤ 4)∧True) (m:=_) ⟨0,rfl,rfl,rfl,rfl,rfl,rfl,rfl,(Nat.zero_le _),trivial⟩ ?_))))
 rintro m6 e6 _ _ _ ⟨i,rfl,rfl,rfl,rfl,h6_1,h6_6,h6_7,p6_0,_⟩
 refine w_q rfl rfl fun K7 k7=>l_v (Da h6_7 rfl) (Asa k7 fun K8 k8=>Asg (t:=decide ((i:Int) < 4)) rfl (fun b9=>?_) (fun b9=>?_))
 ·have q9:=of_decide_eq_true b9
  refine Al (k8 _ _ _ _ ?_)
  refine Ai fun K10 k10=>Ao (w_q rfl rfl fun K11 k11=>?_)
  rcases (show i = 0∨i = 1∨i = 2∨i = 3 from by omega) with hi12 | hi12 | hi12 | hi12
  ·refine l_v (Auj (len:=4) (cs:=[(.func (.func 117) #[] #[]),(.func (.func 118) #[] #[]),(.func (.func 119) #[] #[]),(.func (.func 114) #[] #[])]) (v:=(.func (.func 117) #[] #[])) (i) Bki ⟨_,Bjy,rfl⟩ ⟨_,Ab Blc,rfl⟩ (h6_6.trans (Avi r5)) h6_7 rfl (by omega) (by rw [hi12]; rfl)) (Lo (.func (.func 117) #[] #[]) (Arx rfl rfl k11 fun K13 k13=>Asf (.func (.func 117) #[] #[]) (Arw (Ax Ata h6_1 r2) fun v14 r14=>l_v (Aum rfl r14) (Arv (Eb (v:=v14) rfl fun k15=>?_)))))
   refine Bb (a:=(⟨m⟩:MornP)) (Awt r14) fun ρ15 l15 r15=>Arv (Ur (caps:=[]) (vs:=[(.pointer (some ⟨k15,0,none⟩))]) (v:=(iV (0))) rfl (Bbd r15 ok) Tryd.func117 rfl rfl ⟨rfl,trivial⟩ ?_)
   refine Lo (iV (0)) (Arx rfl rfl k13 fun K16 k16=>Asf (iV (0)) (l_v (Dg rfl rfl) (l_k k16 (Cg rfl rfl (Al (k10 _ _ _ _ ?_))))))
   refine Ag rfl rfl (l_v (Br h6_7 rfl (z:=(((i + 1):Nat):Int)) wrE) (Asf (iV ((((i + 1):Nat):Int))) (Bj (Bmi l15) (Ac ?_))))
   refine ⟨_,?_,((i + 1)),rfl,rfl,rfl,rfl,h6_1,h6_6,rfl,(by omega),trivial⟩
   omega
  ·refine l_v (Auj (len:=4) (cs:=[(.func (.func 117) #[] #[]),(.func (.func 118) #[] #[]),(.func (.func 119) #[] #[]),(.func (.func 114) #[] #[])]) (v:=(.func (.func 118) #[] #[])) (i) Bki ⟨_,Bjy,rfl⟩ ⟨_,Ab Blc,rfl⟩ (h6_6.trans (Avi r5)) h6_7 rfl (by omega) (by rw [hi12]; rfl)) (Lo (.func (.func 118) #[] #[]) (Arx rfl rfl k11 fun K17 k17=>Asf (.func (.func 118) #[] #[]) (Arw (Ax Ata h6_1 r2) fun v18 r18=>l_v (Aum rfl r18) (Arv (Eb (v:=v18) rfl fun k19=>?_)))))
   refine Bb (a:=(⟨m⟩:MornP)) (Awt r18) fun ρ19 l19 r19=>Arv (Ur (caps:=[]) (vs:=[(.pointer (some ⟨k19,0,none⟩))]) (v:=(iV (0))) rfl (Azw r19 ok) Tryd.func118 rfl rfl ⟨rfl,trivial⟩ ?_)
   refine Lo (iV (0)) (Arx rfl rfl k17 fun K20 k20=>Asf (iV (0)) (l_v (Dg rfl rfl) (l_k k20 (Cg rfl rfl (Al (k10 _ _ _ _ ?_))))))
   refine Ag rfl rfl (l_v (Br h6_7 rfl (z:=(((i + 1):Nat):Int)) wrE) (Asf (iV ((((i + 1):Nat):Int))) (Bj (Bmi l19) (Ac ?_))))
   refine ⟨_,?_,((i + 1)),rfl,rfl,rfl,rfl,h6_1,h6_6,rfl,(by omega),trivial⟩
   omega
  ·refine l_v (Auj (len:=4) (cs:=[(.func (.func 117) #[] #[]),(.func (.func 118) #[] #[]),(.func (.func 119) #[] #[]),(.func (.func 114) #[] #[])]) (v:=(.func (.func 119) #[] #[])) (i) Bki ⟨_,Bjy,rfl⟩ ⟨_,Ab Blc,rfl⟩ (h6_6.trans (Avi r5)) h6_7 rfl (by omega) (by rw [hi12]; rfl)) (Lo (.func (.func 119) #[] #[]) (Arx rfl rfl k11 fun K21 k21=>Asf (.func (.func 119) #[] #[]) (Arw (Ax Ata h6_1 r2) fun v22 r22=>l_v (Aum rfl r22) (Arv (Eb (v:=v22) rfl fun k23=>?_)))))
   refine Bb (a:=(⟨m⟩:MornP)) (Awt r22) fun ρ23 l23 r23=>Arv (Ur (caps:=[]) (vs:=[(.pointer (some ⟨k23,0,none⟩))]) (v:=(iV (0))) rfl (Ayw r23 ok) Tryd.func119 rfl rfl ⟨rfl,trivial⟩ ?_)
   refine Lo (iV (0)) (Arx rfl rfl k21 fun K24 k24=>Asf (iV (0)) (l_v (Dg rfl rfl) (l_k k24 (Cg rfl rfl (Al (k10 _ _ _ _ ?_))))))
   refine Ag rfl rfl (l_v (Br h6_7 rfl (z:=(((i + 1):Nat):Int)) wrE) (Asf (iV ((((i + 1):Nat):Int))) (Bj (Bmi l23) (Ac ?_))))
   refine ⟨_,?_,((i + 1)),rfl,rfl,rfl,rfl,h6_1,h6_6,rfl,(by omega),trivial⟩
   omega
  refine l_v (Auj (len:=4) (cs:=[(.func (.func 117) #[] #[]),(.func (.func 118) #[] #[]),(.func (.func 119) #[] #[]),(.func (.func 114) #[] #[])]) (v:=(.func (.func 114) #[] #[])) (i) Bki ⟨_,Bjy,rfl⟩ ⟨_,Ab Blc,rfl⟩ (h6_6.trans (Avi r5)) h6_7 rfl (by omega) (by rw [hi12]; rfl)) (Lo (.func (.func 114) #[] #[]) (Arx rfl rfl k11 fun K25 k25=>Asf (.func (.func 114) #[] #[]) (Arw (Ax Ata h6_1 r2) fun v26 r26=>l_v (Aum rfl r26) (Arv (Eb (v:=v26) rfl fun k27=>?_)))))
  refine Bb (a:=(⟨m⟩:MornP)) (Awt r26) fun ρ27 l27 r27=>Arv (Ur (caps:=[]) (vs:=[(.pointer (some ⟨k27,0,none⟩))]) (v:=(iV (0))) rfl (Ayv r27 ok) Tryd.func114 rfl rfl ⟨rfl,trivial⟩ ?_)
  refine Lo (iV (0)) (Arx rfl rfl k25 fun K28 k28=>Asf (iV (0)) (l_v (Dg rfl rfl) (l_k k28 (Cg rfl rfl (Al (k10 _ _ _ _ ?_))))))
  refine Ag rfl rfl (l_v (Br h6_7 rfl (z:=(((i + 1):Nat):Int)) wrE) (Asf (iV ((((i + 1):Nat):Int))) (Bj (Bmi l27) (Ac ?_))))
  refine ⟨_,?_,((i + 1)),rfl,rfl,rfl,rfl,h6_1,h6_6,rfl,(by omega),trivial⟩
  omega
 have q9:=of_decide_eq_false b9
 refine Bx (k3 _ _ _ _ ?_)
 refine w_q rfl rfl fun K29 k29=>Lo (iV (0)) (l_k k29 (Aj (Bmi l2) (Aq (hret _ _ _ ⟨rfl,rfl,eT (iV (0)) ?_⟩))))
 rfl
theorem Ayx {m:Morn} {al:List (List Spot)} {vp vl:Value} {l:List Int} (rp:At ρ vp (⟨(⟨m⟩:MornP),al⟩:PPlan)) (rl:Val ρ vl l) (ok:MornOk m) (hl:Att m l) (hn:l.length ≤ 9):CallsH (CX mn X) 29 #[vp,vl] ρ σ (rP ρ σ (iV (Ast m l))):=by
 refine Bh (n:=28) (args:=[vp,vl]) [4] Tryd.func29 rfl rfl rfl rfl fun Q hret hnor=>w_q rfl rfl fun K1 k1=>Lo (iV (0)) (Arx rfl rfl k1 fun K2 k2=>Lo (iV (0)) (Ary rfl rfl k2 fun K3 K4 k3 k4=>Asf vl ?_))
 have g5:=Bmn rl
 refine l_v (Ci (el:=3) Bhy rfl rl) (Asf (iV (0)) (l_k k4 (Ao (Cc (fun mm ee dd ρ' σ'=>∃ (i:Nat) (n:Int),(l.length - i) = mm∧[] = dd∧ρ = ρ'∧σ = σ'∧ee 0 = vp∧ee 8 = vl∧ee 9 = (iV (((l.length:Nat):Int)))∧ee 5 = (iV (n))∧ee 10 = (iV ((i:Int)))∧(i ≤ l.length)∧(n = Ast m (l.take i))∧True) (m:=_) ⟨0,0,rfl,rfl,rfl,rfl,rfl,rfl,rfl,rfl,rfl,(Nat.zero_le _),(by rw [List.take_zero]; rfl),trivial⟩ ?_))))
 rintro m6 e6 _ _ _ ⟨i,n,rfl,rfl,rfl,rfl,h6_0,h6_8,h6_9,h6_5,h6_10,p6_0,p6_1,_⟩
 have hwb6:=Azr ok hl i
 refine w_q rfl rfl fun K7 k7=>l_v (Da h6_10 h6_9) (Asa k7 fun K8 k8=>Asg (t:=decide ((i:Int) < ((l.length:Nat):Int))) rfl (fun b9=>?_) (fun b9=>?_))
 ·have q9:=of_decide_eq_true b9
  refine Al (k8 _ _ _ _ ?_)
  refine Ai fun K10 k10=>Ao (w_q rfl rfl fun K11 k11=>?_)
  obtain ⟨a13,ha13⟩:=Ed (xs:=l) (i:=i) (by omega)
  have hbia13:=hl i a13 ha13
  refine Arw (Ch i Bhy ty3 h6_8 rl (q:=(i:Int)) h6_10 rfl ha13) fun v12 r12=>?_
  have ⟨g14a,g14b⟩:=At.rng r12
  refine l_v (Bc ty3 rfl r12) (Lo (iV (a13)) (l_k k11 (Ag rfl rfl (l_v (Ah (v:=(iV (n))) h6_5) (l_v (Ah (v:=vp) h6_0) (l_v (Hj rfl rp) (Arw (Ay PPlan.f_p Bkb rfl rfl Bcz (by decide) rfl rp) fun v15 r15=>Arw (Ay MornP.f_m Bir rfl rfl Ata (by decide) rfl r15) fun v16 r16=>Arw (Ay Morn.f_baskets Bhz rfl rfl Asu (by decide) rfl r16) fun v17 r17=>Arw (Ax Asu rfl r17) fun v18 r18=>Asf (iV (a13)) ?_)))))))
  obtain ⟨a20,ha20⟩:=Ed (xs:=m.baskets) (i:=(a13).toNat) (by omega)
  have hbwa20:=(ok.basket _ (Aui ha20) _ ha20).2.2.2.2.1
  refine Arw (Ch ((a13).toNat) Bip Ati rfl r18 (q:=a13) rfl (by omega) ha20) fun v19 r19=>Arw (Ay Basket.f_worth Bid rfl rfl ty3 (by decide) rfl r19) fun v21 r21=>?_
  have ⟨g22a,g22b⟩:=At.rng r21
  refine l_v (Bc ty3 rfl r21) (l_v (Br rfl rfl (z:=(n + a20.worth)) (Bo (by rfl) (by omega) (by omega))) (Lo (iV ((n + a20.worth))) (l_k k10 (Ag rfl rfl (l_v (Br h6_10 rfl (z:=(((i + 1):Nat):Int)) wrE) (Asf (iV ((((i + 1):Nat):Int))) (Ac ?_)))))))
  refine ⟨_,?_,((i + 1)),((n + a20.worth)),rfl,rfl,rfl,rfl,h6_0,h6_8,h6_9,rfl,rfl,(by omega),(by rw [Awu ha13 ha20,← p6_1]),trivial⟩
  omega
 have q9:=of_decide_eq_false b9
 refine Bx (k3 _ _ _ _ ?_)
 refine w_q rfl rfl fun K23 k23=>l_v (Ah (v:=(iV (n))) h6_5) (Lo (iV (n)) (l_k k23 (Aq (hret _ _ _ ⟨rfl,rfl,eT (iV (n)) ?_⟩))))
 rw [p6_1,show i = l.length by omega,List.take_length]
end
section
set_option maxHeartbeats 1000000
open Go
variable {mn:Bool} {X:Frame→List Frame→Ro→Own→Cy→Prop} {ρ:Ro} {σ:Own}
theorem Bcg {m:Morn} {r:Nat} {ch cf cp cb va:Value} {x:Basket} {vx:Value} (rh:Val ρ ch m.houses) (rf:Val ρ cf m.fields) (rk:Val ρ cp m.pickers) (rb:Val ρ cb m.baskets) (ok:MornOk m) (rx:Val ρ vx x) (h1:0 ≤ x.field∧x.field ≤ (m.fields.length:Int) - 1) (h2:0 ≤ x.keeps.low∧x.keeps.low ≤ x.keeps.high∧x.keeps.high ≤ 24):CallsH (CX mn X) 81 #[(.pointer (some ⟨r,0,none⟩)),vx] ρ (((r,oC #[ch,cf,cp,cb,(iV (m.warm.low)),(iV (m.warm.high)),va] 99) :: σ)) (fun w ρ' σ'=>Ro.le ρ ρ'∧σ' = (r,oC #[ch,cf,cp,cb,.int .i64 m.warm.low,.int .i64 m.warm.high,va] 99) :: σ∧∃ v,w = v∧∃ y:Span,Val ρ' v y∧0 ≤ y.low∧y.low ≤ 24):=by
 have hwm:=ok.warm
 refine Lt (n:=45) (args:=[(.pointer (some ⟨r,0,none⟩)),vx]) [.cell 4 27] Tryd.func81 rfl rfl rfl rfl fun Q hret hnor=>w_q rfl rfl fun K1 k1=>Arv (Eb (v:=vx) rfl fun k2=>?_)
 refine Bb (a:=x) rx fun ρ2 l2 r2=>?_
 replace rf:=Bmo l2 rf
 refine Arv (Ct Aak fun k3=>?_)
 refine Asa k1 fun K4 k4=>Auc (((k3,oC #[(iV (0)),(iV (0))] 27) :: ((r,oC #[ch,cf,cp,cb,(iV (m.warm.low)),(iV (m.warm.high)),va] 99) :: []))) [0,1,2,3,4,5,6,7,8,9,10] (by kernel_rfl) rfl rfl (Ask 0 Aob rfl ⟨Bml,sB⟩ rfl (Yld.o (Ah (v:=(.pointer (some ⟨r,0,none⟩))) rfl)) (Ask 1 Aoc rfl ⟨Bml,sB⟩ rfl (Yld.o (Ck rfl)) (Ask 2 Aod rfl ⟨Bml,sB⟩ rfl (Yld.o (Cb Bir rfl rfl ⟨_,Ab Bke,rfl⟩ (by decide) rfl rfl)) (Ask 3 Aoe rfl ⟨Bml,sB⟩ rfl (Yld.o (Cb Bhz rfl rfl ⟨_,Ab Blu,rfl⟩ (by decide) rfl rfl)) (Ask 4 Aof rfl ⟨Bml,sB⟩ rfl (Atj (v:=cf) ⟨_,Bim,rfl⟩ rfl (List.mem_cons_of_mem _ (List.mem_cons_self ..)) rfl) (Aul 5 Anr rfl ⟨Bml,sB⟩ rfl (Atc (Ay Basket.f_field Bid rfl rfl ty3 (by decide) rfl r2)) ⟨Bml,sB⟩ fun v5 r5=>?_))))))
 have ⟨g6a,g6b⟩:=At.rng r5
 refine Asp 6 zZ2 rfl ⟨Bml,sB⟩ rfl (Yld.o (Bc ty3 rfl r5)) ⟨Bml,sB⟩ ?_
 obtain ⟨a8,ha8⟩:=Ed (xs:=m.fields) (i:=(x.field).toNat) (by omega)
 obtain ⟨_,_,paa8,pba8⟩:=ok.fields.2.2 _ (Aui ha8) _ ha8; have hsaa8:=Ayh (w:=m.warm.high) (s:=a8.sun) ⟨by omega,by omega⟩ pba8; have hsba8:=Ayh (w:=m.warm.low) (s:=a8.sun) ⟨by omega,by omega⟩ pba8
 refine Aul 7 zZ3 rfl ⟨Bml,sB⟩ rfl (Atc (Ch ((x.field).toNat) Bim Aty rfl rf (q:=x.field) rfl (by omega) ha8)) ⟨Bml,sB⟩ fun v7 r7=>Aul 8 zZ4 rfl ⟨Bml,sB⟩ rfl (Atc (Ay PField.f_sun Bix rfl rfl ty3 (by decide) rfl r7)) ⟨Bml,sB⟩ fun v9 r9=>?_
 have ⟨g10a,g10b⟩:=At.rng r9
 refine Asp 9 zZ5 rfl ⟨Bml,sB⟩ rfl (Yld.o (Bc ty3 rfl r9)) ⟨Bml,sB⟩ (Asp 10 zZ6 rfl ⟨Bml,sB⟩ rfl (Yld.o (Cp (v:=(iV (a8.sun))) rfl)) ⟨Bml,sB⟩ (Avk rfl (k4 _ _ _ _ ?_)))
 refine Ai fun K11 k11=>Auc (((k3,oC #[(iV (0)),(iV (0))] 27) :: ((r,oC #[ch,cf,cp,cb,(iV (m.warm.low)),(iV (m.warm.high)),va] 99) :: []))) [0,1,2,3,4,5,6,7,8,9,10,11,12,13,14,15,16,17,18,19,20,21,22,23,24,25,26,27,28] (by kernel_rfl) rfl rfl (Ate 0 [o1,o0,o0,o0,o0,o0,o0,o0,o0,o0,o0,o0,o0,o0,o0,o0,o0,o0,o0,o0,o0,o0,o0,o0,o0,o0,o0,o0,o0,o0] rfl ⟨Bml,sB⟩ rfl (Atc (Ay Basket.f_keeps Bid rfl rfl Mx (by decide) rfl r2)) fun v12 r12=>Ate 1 [o1,o1,o0,o0,o0,o0,o0,o0,o0,o0,o0,o0,o0,o0,o0,o0,o0,o0,o0,o0,o0,o0,o0,o0,o0,o0,o0,o0,o0,o0] rfl ⟨Bml,sB⟩ rfl (Atc (Ay Span.f_low Bie rfl rfl ty3 (by decide) rfl r12)) fun v13 r13=>?_)
 have ⟨g14a,g14b⟩:=At.rng r13
 refine Ask 2 [o1,o1,o1,o0,o0,o0,o0,o0,o0,o0,o0,o0,o0,o0,o0,o0,o0,o0,o0,o0,o0,o0,o0,o0,o0,o0,o0,o0,o0,o0] rfl ⟨Bml,sB⟩ rfl (Yld.o (Bc ty3 rfl r13)) (Ask 3 [o1,o1,o1,o1,o0,o0,o0,o0,o0,o0,o0,o0,o0,o0,o0,o0,o0,o0,o0,o0,o0,o0,o0,o0,o0,o0,o0,o0,o0,o0] rfl ⟨Bml,sB⟩ rfl (Yld.o (Ah (v:=(.pointer (some ⟨r,0,none⟩))) rfl)) (Ask 4 [o1,o1,o1,o1,o1,o0,o0,o0,o0,o0,o0,o0,o0,o0,o0,o0,o0,o0,o0,o0,o0,o0,o0,o0,o0,o0,o0,o0,o0,o0] rfl ⟨Bml,sB⟩ rfl (Yld.o (Ck rfl)) (Ask 5 [o1,o1,o1,o1,o1,o1,o0,o0,o0,o0,o0,o0,o0,o0,o0,o0,o0,o0,o0,o0,o0,o0,o0,o0,o0,o0,o0,o0,o0,o0] rfl ⟨Bml,sB⟩ rfl (Yld.o (Cb Bir rfl rfl ⟨_,Ab Bke,rfl⟩ (by decide) rfl rfl)) (Ask 6 [o1,o1,o1,o1,o1,o1,o1,o0,o0,o0,o0,o0,o0,o0,o0,o0,o0,o0,o0,o0,o0,o0,o0,o0,o0,o0,o0,o0,o0,o0] rfl ⟨Bml,sB⟩ rfl (Yld.o (Cb Bhz rfl rfl ⟨_,Ab Biz,rfl⟩ (by decide) rfl rfl)) (Ask 7 [o1,o1,o1,o1,o1,o1,o1,o1,o0,o0,o0,o0,o0,o0,o0,o0,o0,o0,o0,o0,o0,o0,o0,o0,o0,o0,o0,o0,o0,o0] rfl ⟨Bml,sB⟩ rfl (Yld.o (Cb Bie rfl rfl ⟨_,Ab Bhx,rfl⟩ (by decide) rfl rfl)) (Ask 8 [o1,o1,o1,o1,o1,o1,o1,o1,o1,o0,o0,o0,o0,o0,o0,o0,o0,o0,o0,o0,o0,o0,o0,o0,o0,o0,o0,o0,o0,o0] rfl ⟨Bml,sB⟩ rfl (Atj (v:=(iV (m.warm.high))) ⟨_,Bib,rfl⟩ rfl (List.mem_cons_of_mem _ (List.mem_cons_self ..)) rfl) (Ask 9 [o1,o1,o1,o1,o1,o1,o1,o1,o1,o1,o0,o0,o0,o0,o0,o0,o0,o0,o0,o0,o0,o0,o0,o0,o0,o0,o0,o0,o0,o0] rfl ⟨Bml,sB⟩ rfl (Yld.o (Ah (v:=(iV (a8.sun))) rfl)) (Ask 10 [o1,o1,o1,o1,o1,o1,o1,o1,o1,o1,o1,o0,o0,o0,o0,o0,o0,o0,o0,o0,o0,o0,o0,o0,o0,o0,o0,o0,o0,o0] rfl ⟨Bml,sB⟩ rfl (Yld.o (Wq rfl rfl (z:=(m.warm.high * a8.sun)) (Bo (by rfl) (by omega) (by omega)))) (Ask 11 [o1,o1,o1,o1,o1,o1,o1,o1,o1,o1,o1,o1,o0,o0,o0,o0,o0,o0,o0,o0,o0,o0,o0,o0,o0,o0,o0,o0,o0,o0] rfl ⟨Bml,sB⟩ rfl (Yld.o (Bex (p:=(m.warm.high * a8.sun)) (q:=10) rfl rfl (by omega) (z:=(((m.warm.high * a8.sun)).tdiv 10)) wrR)) (Ask 12 [o1,o1,o1,o1,o1,o1,o1,o1,o1,o1,o1,o1,o1,o0,o0,o0,o0,o0,o0,o0,o0,o0,o0,o0,o0,o0,o0,o0,o0,o0] rfl ⟨Bml,sB⟩ rfl (Yld.o (Ou rfl rfl (z:=(x.keeps.low - (((m.warm.high * a8.sun)).tdiv 10))) (Bo (by rfl) (by omega) (by omega)))) (Ask 13 [o1,o1,o1,o1,o1,o1,o1,o1,o1,o1,o1,o1,o1,o1,o0,o0,o0,o0,o0,o0,o0,o0,o0,o0,o0,o0,o0,o0,o0,o0] rfl ⟨Bml,sB⟩ rfl (Yld.o (Aqf (p:=(x.keeps.low - (((m.warm.high * a8.sun)).tdiv 10))) (q:=0) rfl rfl)) (Ate 14 [o1,o1,o1,o1,o1,o1,o1,o1,o1,o1,o1,o1,o1,o1,o1,o0,o0,o0,o0,o0,o0,o0,o0,o0,o0,o0,o0,o0,o0,o0] rfl ⟨Bml,sB⟩ rfl (Atc (Ay Basket.f_keeps Bid rfl rfl Mx (by decide) rfl r2)) fun v15 r15=>Ate 15 [o1,o1,o1,o1,o1,o1,o1,o1,o1,o1,o1,o1,o1,o1,o1,o1,o0,o0,o0,o0,o0,o0,o0,o0,o0,o0,o0,o0,o0,o0] rfl ⟨Bml,sB⟩ rfl (Atc (Ay Span.f_high Bie rfl rfl ty3 (by decide) rfl r15)) fun v16 r16=>?_))))))))))))
 have ⟨g17a,g17b⟩:=At.rng r16
 refine Ask 16 [o1,o1,o1,o1,o1,o1,o1,o1,o1,o1,o1,o1,o1,o1,o1,o1,o1,o0,o0,o0,o0,o0,o0,o0,o0,o0,o0,o0,o0,o0] rfl ⟨Bml,sB⟩ rfl (Yld.o (Bc ty3 rfl r16)) (Ask 17 [o1,o1,o1,o1,o1,o1,o1,o1,o1,o1,o1,o1,o1,o1,o1,o1,o1,o1,o0,o0,o0,o0,o0,o0,o0,o0,o0,o0,o0,o0] rfl ⟨Bml,sB⟩ rfl (Yld.o (Ah (v:=(.pointer (some ⟨r,0,none⟩))) rfl)) (Ask 18 [o1,o1,o1,o1,o1,o1,o1,o1,o1,o1,o1,o1,o1,o1,o1,o1,o1,o1,o1,o0,o0,o0,o0,o0,o0,o0,o0,o0,o0,o0] rfl ⟨Bml,sB⟩ rfl (Yld.o (Ck rfl)) (Ask 19 [o1,o1,o1,o1,o1,o1,o1,o1,o1,o1,o1,o1,o1,o1,o1,o1,o1,o1,o1,o1,o0,o0,o0,o0,o0,o0,o0,o0,o0,o0] rfl ⟨Bml,sB⟩ rfl (Yld.o (Cb Bir rfl rfl ⟨_,Ab Bke,rfl⟩ (by decide) rfl rfl)) (Ask 20 [o1,o1,o1,o1,o1,o1,o1,o1,o1,o1,o1,o1,o1,o1,o1,o1,o1,o1,o1,o1,o1,o0,o0,o0,o0,o0,o0,o0,o0,o0] rfl ⟨Bml,sB⟩ rfl (Yld.o (Cb Bhz rfl rfl ⟨_,Ab Biz,rfl⟩ (by decide) rfl rfl)) (Ask 21 [o1,o1,o1,o1,o1,o1,o1,o1,o1,o1,o1,o1,o1,o1,o1,o1,o1,o1,o1,o1,o1,o1,o0,o0,o0,o0,o0,o0,o0,o0] rfl ⟨Bml,sB⟩ rfl (Yld.o (Cb Bie rfl rfl ⟨_,Ab Bhx,rfl⟩ (by decide) rfl rfl)) (Ask 22 [o1,o1,o1,o1,o1,o1,o1,o1,o1,o1,o1,o1,o1,o1,o1,o1,o1,o1,o1,o1,o1,o1,o1,o0,o0,o0,o0,o0,o0,o0] rfl ⟨Bml,sB⟩ rfl (Atj (v:=(iV (m.warm.low))) ⟨_,Bib,rfl⟩ rfl (List.mem_cons_of_mem _ (List.mem_cons_self ..)) rfl) (Asp 23 [o1,o1,o1,o1,o1,o1,o1,o1,o1,o1,o1,o1,o1,o1,o1,o1,o1,o1,o1,o1,o1,o1,o1,o1,o0,o0,o0,o0,o0,o0] rfl ⟨Bml,sB⟩ rfl (Yld.o (Ah (v:=(iV (a8.sun))) rfl)) ⟨Bml,sB⟩ (Asp 24 [o1,o1,o1,o1,o1,o1,o1,o1,o1,o1,o1,o1,o1,o1,o1,o1,o1,o1,o1,o1,o1,o1,o1,o1,o1,o0,o0,o0,o0,o0] rfl ⟨Bml,sB⟩ rfl (Yld.o (Wq rfl rfl (z:=(m.warm.low * a8.sun)) (Bo (by rfl) (by omega) (by omega)))) ⟨Bml,sB⟩ (Asp 25 [o1,o1,o1,o1,o1,o1,o1,o1,o1,o1,o1,o1,o1,o1,o1,o1,o1,o1,o1,o1,o1,o1,o1,o1,o1,o1,o0,o0,o0,o0] rfl ⟨Bml,sB⟩ rfl (Yld.o (Bex (p:=(m.warm.low * a8.sun)) (q:=10) rfl rfl (by omega) (z:=(((m.warm.low * a8.sun)).tdiv 10)) wrR)) ⟨Bml,sB⟩ (Asp 26 [o1,o1,o1,o1,o1,o1,o1,o1,o1,o1,o1,o1,o1,o1,o1,o1,o1,o1,o1,o1,o1,o1,o1,o1,o1,o1,o1,o0,o0,o0] rfl ⟨Bml,sB⟩ rfl (Yld.o (Ou rfl rfl (z:=(x.keeps.high - (((m.warm.low * a8.sun)).tdiv 10))) (Bo (by rfl) (by omega) (by omega)))) ⟨Bml,sB⟩ (Asp 27 [o1,o1,o1,o1,o1,o1,o1,o1,o1,o1,o1,o1,o1,o1,o1,o1,o1,o1,o1,o1,o1,o1,o1,o1,o1,o1,o1,o1,o0,o0] rfl ⟨Bml,sB⟩ rfl (Yld.o (Aqf (p:=(x.keeps.high - (((m.warm.low * a8.sun)).tdiv 10))) (q:=0) rfl rfl)) ⟨Bml,sB⟩ ?_)))))))))))
 have r18:Val ρ2 (.agg #[(iV ((max ((x.keeps.low - (((m.warm.high * a8.sun)).tdiv 10))) 0))),(iV ((max ((x.keeps.high - (((m.warm.low * a8.sun)).tdiv 10))) 0)))]) (⟨(max ((x.keeps.low - (((m.warm.high * a8.sun)).tdiv 10))) 0),(max ((x.keeps.high - (((m.warm.low * a8.sun)).tdiv 10))) 0)⟩:Span):=Span.shut (x:=(⟨(max ((x.keeps.low - (((m.warm.high * a8.sun)).tdiv 10))) 0),(max ((x.keeps.high - (((m.warm.low * a8.sun)).tdiv 10))) 0)⟩:Span)) (show I64 ((max ((x.keeps.low - (((m.warm.high * a8.sun)).tdiv 10))) 0)) from by constructor <;> omega) (show I64 ((max ((x.keeps.high - (((m.warm.low * a8.sun)).tdiv 10))) 0)) from by constructor <;> omega)
 refine Asp 28 [o1,o1,o1,o1,o1,o1,o1,o1,o1,o1,o1,o1,o1,o1,o1,o1,o1,o1,o1,o1,o1,o1,o1,o1,o1,o1,o1,o1,o1,o0] rfl ⟨Bml,sB⟩ rfl (Yld.o (Dn (ns:=[1,1]) (vs:=[(0,(iV ((max ((x.keeps.low - (((m.warm.high * a8.sun)).tdiv 10))) 0)))),(1,(iV ((max ((x.keeps.high - (((m.warm.low * a8.sun)).tdiv 10))) 0))))]) (zc:=Arm) (cs:=[(iV ((max ((x.keeps.low - (((m.warm.high * a8.sun)).tdiv 10))) 0))),(iV ((max ((x.keeps.high - (((m.warm.low * a8.sun)).tdiv 10))) 0)))]) Bie Aak rfl ⟨⟨_,Ab Bhx,rfl⟩,⟨_,Ab Bhx,rfl⟩,trivial⟩ (EvB.map ⟨⟨rfl,rfl⟩,⟨rfl,rfl⟩,trivial⟩) ((Be (cs:=[(iV ((max ((x.keeps.low - (((m.warm.high * a8.sun)).tdiv 10))) 0)))]) rfl rfl (Nat.le_of_ble_eq_true rfl)).trans ((Be (cs:=[(iV ((max ((x.keeps.high - (((m.warm.low * a8.sun)).tdiv 10))) 0)))]) rfl rfl (Nat.le_of_ble_eq_true rfl)).trans rfl)))) ⟨Bml,sB⟩ (Auq 29 [o1,o1,o1,o1,o1,o1,o1,o1,o1,o1,o1,o1,o1,o1,o1,o1,o1,o1,o1,o1,o1,o1,o1,o1,o1,o1,o1,o1,o1,o1] rfl rfl (Li (i:=0) (vs:=[(iV ((max ((x.keeps.low - (((m.warm.high * a8.sun)).tdiv 10))) 0))),(iV ((max ((x.keeps.high - (((m.warm.low * a8.sun)).tdiv 10))) 0)))]) (c':=[(iV ((max ((x.keeps.low - (((m.warm.high * a8.sun)).tdiv 10))) 0))),(iV ((max ((x.keeps.high - (((m.warm.low * a8.sun)).tdiv 10))) 0)))]) ⟨_,Ab Biz,rfl⟩ rfl rfl rfl rfl (Zh ⟨rfl,rfl,trivial⟩) rfl (Nat.le_of_ble_eq_true rfl) rfl ?_))
 refine Avk rfl (k11 _ _ _ _ ?_)
 refine Aq ?_
 have r19:Val ρ2 (.agg #[(iV ((max ((x.keeps.low - (((m.warm.high * a8.sun)).tdiv 10))) 0))),(iV ((max ((x.keeps.high - (((m.warm.low * a8.sun)).tdiv 10))) 0)))]) (⟨(max ((x.keeps.low - (((m.warm.high * a8.sun)).tdiv 10))) 0),(max ((x.keeps.high - (((m.warm.low * a8.sun)).tdiv 10))) 0)⟩:Span):=Span.shut (x:=(⟨(max ((x.keeps.low - (((m.warm.high * a8.sun)).tdiv 10))) 0),(max ((x.keeps.high - (((m.warm.low * a8.sun)).tdiv 10))) 0)⟩:Span)) (show I64 ((max ((x.keeps.low - (((m.warm.high * a8.sun)).tdiv 10))) 0)) from by constructor <;> omega) (show I64 ((max ((x.keeps.high - (((m.warm.low * a8.sun)).tdiv 10))) 0)) from by constructor <;> omega)
 refine hret _ _ _ _ _ [(.agg #[(iV ((max ((x.keeps.low - (((m.warm.high * a8.sun)).tdiv 10))) 0))),(iV ((max ((x.keeps.high - (((m.warm.low * a8.sun)).tdiv 10))) 0)))])] ⟨(Qh ⟨_,Bie,rfl⟩ ⟨_,Ab Biz,rfl⟩ rfl (i:=0) rfl rfl),trivial⟩ Bmh (⟨l2,rfl,_,rfl,_,r19,by simp only; omega,by simp only; omega⟩)
set_option maxHeartbeats 1000000 in
theorem Bci {m:Morn} {r:Nat} {ch cf cp cb va:Value} {i:Nat} (rh:Val ρ ch m.houses) (rf:Val ρ cf m.fields) (rk:Val ρ cp m.pickers) (rb:Val ρ cb m.baskets) (ok:MornOk m) (hi:i < m.baskets.length):CallsH (CX mn X) 58 #[(.pointer (some ⟨r,0,none⟩)),(iV ((i:Int)))] ρ (((r,oC #[ch,cf,cp,cb,(iV (m.warm.low)),(iV (m.warm.high)),va] 99) :: σ)) (fun w ρ' σ'=>Ro.le ρ ρ'∧σ' = (r,oC #[ch,cf,cp,cb,.int .i64 m.warm.low,.int .i64 m.warm.high,va] 99) :: σ∧∃ (v:Value) (S:List Spot),w = v∧Val ρ' v S∧Aug S):=by
 have hwm:=ok.warm
 have hnp:=ok.pickers.1
 refine Bh (n:=85) (args:=[(.pointer (some ⟨r,0,none⟩)),(iV ((i:Int)))]) [4] Tryd.func58 rfl rfl rfl rfl fun Q hret hnor=>w_q rfl rfl fun K1 k1=>Lo (nS) (Arx rfl rfl k1 fun K2 k2=>Asf (.pointer (some ⟨r,0,none⟩)) (l_v (Ck rfl) (l_v (Cb Bir rfl rfl ⟨_,Ab Bke,rfl⟩ (by decide) rfl rfl) (l_v (Cb Bhz rfl rfl ⟨_,Ab Tryd.typeInfo25,rfl⟩ (by decide) rfl rfl) (Arv (Dt (i:=0) (v:=cb) ⟨_,Bip,rfl⟩ rfl rfl rfl ?_))))))
 refine Asf (iV ((i:Int))) ?_
 obtain ⟨a4,ha4⟩:=Ed (xs:=m.baskets) (i:=i) (by omega)
 obtain ⟨paa4,pba4,pca4,pda4,pea4,pfa4⟩:=ok.basket _ (Aui ha4) _ ha4
 refine Arw (Ch i Bip Ati rfl rb (q:=(i:Int)) rfl rfl ha4) fun v3 r3=>Arw (Ax Ati rfl r3) fun v5 r5=>Arv (Ct Awx fun k6=>?_)
 refine Cx rfl (Dv (v:=v5) (a:=a4) (c:=Aww) Ati rfl rfl r5 rfl ?_)
 refine Bb (a:=a4) r5 fun ρ7 l7 r7=>?_
 replace rh:=Bmo l7 rh
 replace rf:=Bmo l7 rf
 replace rk:=Bmo l7 rk
 replace rb:=Bmo l7 rb
 refine Asa k2 fun K8 k8=>Auc (((r,oC #[ch,cf,cp,cb,(iV (m.warm.low)),(iV (m.warm.high)),va] 99) :: [])) [0,1,2,3,4,5,6,7,8,9,10,11,12,13,14,15,16,17,18,19] (by kernel_rfl) rfl rfl (Ask 0 [o1,o0,o0,o0,o0,o0,o0,o0,o0,o0,o0,o0,o0,o0,o0,o0,o0,o0,o0,o0] rfl ⟨Bml,sB⟩ rfl (Yld.o (Ah (v:=(.pointer (some ⟨r,0,none⟩))) rfl)) (Ask 1 [o1,o1,o0,o0,o0,o0,o0,o0,o0,o0,o0,o0,o0,o0,o0,o0,o0,o0,o0,o0] rfl ⟨Bml,sB⟩ rfl (Yld.o (Ck rfl)) (Ask 2 [o1,o1,o1,o0,o0,o0,o0,o0,o0,o0,o0,o0,o0,o0,o0,o0,o0,o0,o0,o0] rfl ⟨Bml,sB⟩ rfl (Yld.o (Cb Bir rfl rfl ⟨_,Ab Bke,rfl⟩ (by decide) rfl rfl)) (Ask 3 [o1,o1,o1,o1,o0,o0,o0,o0,o0,o0,o0,o0,o0,o0,o0,o0,o0,o0,o0,o0] rfl ⟨Bml,sB⟩ rfl (Yld.o (Cb Bhz rfl rfl ⟨_,Ab Blu,rfl⟩ (by decide) rfl rfl)) (Ask 4 [o1,o1,o1,o1,o1,o0,o0,o0,o0,o0,o0,o0,o0,o0,o0,o0,o0,o0,o0,o0] rfl ⟨Bml,sB⟩ rfl (Atj (v:=cf) ⟨_,Bim,rfl⟩ rfl (List.mem_cons_self ..) rfl) (Ate 5 [o1,o1,o1,o1,o1,o1,o0,o0,o0,o0,o0,o0,o0,o0,o0,o0,o0,o0,o0,o0] rfl ⟨Bml,sB⟩ rfl (Atc (Ay Basket.f_field Bid rfl rfl ty3 (by decide) rfl r7)) fun v9 r9=>?_))))))
 have ⟨g10a,g10b⟩:=At.rng r9
 refine Ask 6 [o1,o1,o1,o1,o1,o1,o1,o0,o0,o0,o0,o0,o0,o0,o0,o0,o0,o0,o0,o0] rfl ⟨Bml,sB⟩ rfl (Yld.o (Bc ty3 rfl r9)) ?_
 obtain ⟨a12,ha12⟩:=Ed (xs:=m.fields) (i:=(a4.field).toNat) (by omega)
 obtain ⟨_,_,paa12,pba12⟩:=ok.fields.2.2 _ (Aui ha12) _ ha12; have hsaa12:=Ayh (w:=m.warm.high) (s:=a12.sun) ⟨by omega,by omega⟩ pba12; have hsba12:=Ayh (w:=m.warm.low) (s:=a12.sun) ⟨by omega,by omega⟩ pba12
 refine Ate 7 [o1,o1,o1,o1,o1,o1,o1,o1,o0,o0,o0,o0,o0,o0,o0,o0,o0,o0,o0,o0] rfl ⟨Bml,sB⟩ rfl (Atc (Ch ((a4.field).toNat) Bim Aty rfl rf (q:=a4.field) rfl (by omega) ha12)) fun v11 r11=>Ate 8 [o1,o1,o1,o1,o1,o1,o1,o1,o1,o0,o0,o0,o0,o0,o0,o0,o0,o0,o0,o0] rfl ⟨Bml,sB⟩ rfl (Atc (Ay PField.f_far Bix rfl rfl ty3 (by decide) rfl r11)) fun v13 r13=>?_
 have ⟨g14a,g14b⟩:=At.rng r13
 refine Ask 9 [o1,o1,o1,o1,o1,o1,o1,o1,o1,o1,o0,o0,o0,o0,o0,o0,o0,o0,o0,o0] rfl ⟨Bml,sB⟩ rfl (Yld.o (Bc ty3 rfl r13)) (Ate 10 [o1,o1,o1,o1,o1,o1,o1,o1,o1,o1,o1,o0,o0,o0,o0,o0,o0,o0,o0,o0] rfl ⟨Bml,sB⟩ rfl (Atc (Ay Basket.f_opens Bid rfl rfl ty3 (by decide) rfl r7)) fun v15 r15=>?_)
 have ⟨g16a,g16b⟩:=At.rng r15
 refine Ask 11 [o1,o1,o1,o1,o1,o1,o1,o1,o1,o1,o1,o1,o0,o0,o0,o0,o0,o0,o0,o0] rfl ⟨Bml,sB⟩ rfl (Yld.o (Bc ty3 rfl r15)) (Ask 12 [o1,o1,o1,o1,o1,o1,o1,o1,o1,o1,o1,o1,o1,o0,o0,o0,o0,o0,o0,o0] rfl ⟨Bml,sB⟩ rfl (Yld.o (Ah (v:=(.pointer (some ⟨r,0,none⟩))) rfl)) (Aul 13 [o1,o1,o1,o1,o1,o1,o1,o1,o1,o1,o1,o1,o1,o1,o0,o0,o0,o0,o0,o0] rfl ⟨Bml,sB⟩ rfl (Atc (Ax Ati rfl r7)) ⟨Bml,sB⟩ fun v17 r17=>Aur 14 [o1,o1,o1,o1,o1,o1,o1,o1,o1,o1,o1,o1,o1,o1,o1,o0,o0,o0,o0,o0] rfl rfl (Cm (vs:=[(.pointer (some ⟨r,0,none⟩)),v17]) (Bcg rh rf rk rb ok r17 paa4 pda4) Tryd.func81 rfl rfl ⟨rfl,rfl,trivial⟩ fun w18 ρ18 σ18 hc18=>?_)))
 obtain ⟨l18,s18,v18,hw18,y18,r18,hy18,hz18⟩:=hc18
 replace s18:=s18.symm; subst s18 hw18
 replace rk:=Bmo l18 rk
 replace r7:=Bmg l18 r7
 refine ⟨⟨l18,sB⟩,?_⟩
 obtain ⟨e19_,⟨i19_1a,i19_1b⟩,⟨i19_2a,i19_2b⟩⟩:=Span.open_ r18
 have e19_c:w18.cells = [(iV (y18.low)),(iV (y18.high))].toArray:=by rw [e19_]; rfl
 refine Azf (by kernel_rfl) l18 ⟨Bml,sB⟩ (Ask 15 [o1,o1,o1,o1,o1,o1,o1,o1,o1,o1,o1,o1,o1,o1,o1,o1,o0,o0,o0,o0] rfl ⟨Bml,sB⟩ rfl (Yld.o (Bdh (cs:=[(iV (y18.low)),(iV (y18.high))]) Bie rfl ⟨_,Bib,rfl⟩ (rfl.trans e19_) rfl)) (Ask 16 [o1,o1,o1,o1,o1,o1,o1,o1,o1,o1,o1,o1,o1,o1,o1,o1,o1,o0,o0,o0] rfl ⟨Bml,sB⟩ rfl (Yld.o (Br rfl rfl (z:=(a4.opens + y18.low)) (Bo (by rfl) (by omega) (by omega)))) (Ask 17 [o1,o1,o1,o1,o1,o1,o1,o1,o1,o1,o1,o1,o1,o1,o1,o1,o1,o1,o0,o0] rfl ⟨Bml,sB⟩ rfl (Yld.o (Ajx (p:=24) (q:=(a4.opens + y18.low)) rfl rfl)) (Asp 18 [o1,o1,o1,o1,o1,o1,o1,o1,o1,o1,o1,o1,o1,o1,o1,o1,o1,o1,o1,o0] rfl ⟨Bml,sB⟩ rfl (Yld.o (Cp (v:=(iV (a12.far))) rfl)) ⟨Bml,sB⟩ (Asp 19 [o1,o1,o1,o1,o1,o1,o1,o1,o1,o1,o1,o1,o1,o1,o1,o1,o1,o1,o1,o1] rfl ⟨Bml,sB⟩ rfl (Yld.o (Cp (v:=(iV ((min 24 ((a4.opens + y18.low)))))) rfl)) ⟨Bml,sB⟩ (Avk rfl (k8 _ _ _ _ ?_)))))))
 refine w_q rfl rfl fun K20 k20=>Lo (nS) (Ary rfl rfl k20 fun K21 K22 k21 k22=>Arw (Ay Basket.f_opens Bid rfl rfl ty3 (by decide) rfl r7) fun v23 r23=>?_)
 have ⟨g24a,g24b⟩:=At.rng r23
 refine l_v (Bc ty3 rfl r23) (Lo (iV (a4.opens)) (l_k k22 (Ao (Cc (fun mm ee dd ρ' σ'=>∃ (s:Int) (S:List Spot) (ov25_8:Value) (og25_8:Own),((24 - s).toNat) = mm∧[] = dd∧Ro.le ρ18 ρ'∧(og25_8 ++ ((r,oC #[ch,cf,cp,cb,(iV (m.warm.low)),(iV (m.warm.high)),va] 99) :: σ)) = σ'∧ee 0 = (.pointer (some ⟨r,0,none⟩))∧ee 5 = (.pointer (some ⟨k6,0,none⟩))∧ee 6 = (iV (a12.far))∧ee 7 = (iV ((min 24 ((a4.opens + y18.low)))))∧ee 8 = ov25_8∧ee 9 = (iV (s))∧(0 ≤ s∧s ≤ 24)∧(Aug S)∧(S.length ≤ 5 * s.toNat)∧Grow ρ' 93 ov25_8 S og25_8∧True) (m:=_) ⟨a4.opens,[],(nS),[],rfl,rfl,Bml,rfl,rfl,rfl,rfl,rfl,rfl,rfl,(by omega),Bbu,(Nat.zero_le _),Hm,trivial⟩ ?_))))
 rintro m25 e25 _ ρ25 _ ⟨s,S,ov25_8,og25_8,rfl,rfl,l25,rfl,h25_0,h25_5,h25_6,h25_7,h25_8,h25_9,p25_0,p25_1,p25_2,OG25_8,_⟩
 replace rk:=Bmo l25 rk
 replace r7:=Bmg l25 r7
 refine Asb rfl rfl fun K26 K27 k26 k27=>l_v (Ah (v:=(iV (s))) h25_9) (l_v (Ah (v:=(iV ((min 24 ((a4.opens + y18.low)))))) h25_7) (l_v (Da rfl rfl) (l_k k27 (Asg (t:=decide (s < (min 24 ((a4.opens + y18.low))))) rfl (fun b28=>?_) (fun b28=>?_)))))
 ·have q28:=of_decide_eq_true b28
  refine Al (k26 _ _ _ _ ?_)
  refine Ai fun K29 k29=>Ao (w_q rfl rfl fun K30 k30=>l_v (Ah (v:=(.pointer (some ⟨r,0,none⟩))) h25_0) (l_v (Ck rfl) (l_v (Cb Bir rfl rfl ⟨_,Ab Bke,rfl⟩ (by decide) rfl rfl) (l_v (Cb Bhz rfl rfl ⟨_,Ab Tryd.typeInfo24,rfl⟩ (by decide) rfl rfl) (Arv (Gu (v:=cp) ⟨_,Bja,rfl⟩ rfl (List.mem_append_right _ (List.mem_cons_self ..)) rfl ?_))))))
  have g31:=Bmn rk
  refine l_v (Ci (el:=57) Bja rfl rk) (Asf (iV (0)) (l_k k30 (Ao (Cc (fun mm ee dd ρ' σ'=>∃ (p:Nat) (T:List Spot) (ov32_8:Value) (og32_8:Own),(m.pickers.length - p) = mm∧[] = dd∧Ro.le ρ25 ρ'∧(og32_8 ++ ((r,oC #[ch,cf,cp,cb,(iV (m.warm.low)),(iV (m.warm.high)),va] 99) :: σ)) = σ'∧ee 0 = (.pointer (some ⟨r,0,none⟩))∧ee 5 = (.pointer (some ⟨k6,0,none⟩))∧ee 6 = (iV (a12.far))∧ee 7 = (iV ((min 24 ((a4.opens + y18.low)))))∧ee 9 = (iV (s))∧ee 49 = cp∧ee 50 = (iV (((m.pickers.length:Nat):Int)))∧ee 8 = ov32_8∧ee 51 = (iV ((p:Int)))∧(p ≤ m.pickers.length)∧(Aug T)∧(T.length ≤ 5 * s.toNat + p)∧Grow ρ' 93 ov32_8 T og32_8∧True) (m:=_) ⟨0,S,ov25_8,og25_8,rfl,rfl,Bml,rfl,h25_0,h25_5,h25_6,h25_7,h25_9,rfl,rfl,h25_8,rfl,(Nat.zero_le _),p25_1,(by omega),OG25_8,trivial⟩ ?_))))
  rintro m32 e32 _ ρ32 _ ⟨p,T,ov32_8,og32_8,rfl,rfl,l32,rfl,h32_0,h32_5,h32_6,h32_7,h32_9,h32_49,h32_50,h32_8,h32_51,p32_0,p32_1,p32_2,OG32_8,_⟩
  replace rk:=Bmo l32 rk
  replace r7:=Bmg l32 r7
  refine w_q rfl rfl fun K33 k33=>l_v (Da h32_51 h32_50) (Asa k33 fun K34 k34=>Asg (t:=decide ((p:Int) < ((m.pickers.length:Nat):Int))) rfl (fun b35=>?_) (fun b35=>?_))
  ·have q35:=of_decide_eq_true b35
   refine Al (k34 _ _ _ _ ?_)
   refine Ai fun K36 k36=>Ao (w_q rfl rfl fun K37 k37=>l_v (Ah (v:=(iV ((p:Int)))) h32_51) ?_)
   obtain ⟨a39,ha39⟩:=Ed (xs:=m.pickers) (i:=p) (by omega)
   obtain ⟨_,_,paa39,pba39,pca39,pda39⟩:=ok.pickers.2 _ (Aui ha39) _ ha39
   refine Arw (Ch p Bja Atz h32_49 rk (q:=(p:Int)) h32_51 rfl ha39) fun v38 r38=>Arw (Ax Atz rfl r38) fun v40 r40=>Arv (Ct Bap fun k41=>?_)
   refine Lo (iV ((p:Int))) (Cx rfl (Dv (v:=v40) (a:=a39) (c:=Ban) Atz rfl rfl r40 rfl ?_))
   refine Bb (a:=a39) r40 fun ρ42 l42 r42=>?_
   replace r7:=Bmg l42 r7
   replace OG32_8:=Bmk l42 OG32_8
   refine Arx rfl rfl k37 fun K43 k43=>Arw (Ay Picker.f_house Bik rfl rfl ty3 (by decide) rfl r42) fun v44 r44=>?_
   have ⟨g45a,g45b⟩:=At.rng r44
   refine l_v (Bc ty3 rfl r44) (Arw (Ay Basket.f_house Bid rfl rfl ty3 (by decide) h32_5 r7) fun v46 r46=>?_)
   have ⟨g47a,g47b⟩:=At.rng r46
   refine l_v (Bc ty3 rfl r46) (l_v (Ek rfl rfl) (Asf (.bool (a39.house == a4.house)) (Cn (a39.house == a4.house) (fun b48=>?_) (fun b48=>?_))))
   ·have q48:=Jr b48
    refine Aa (gY rfl b48) (Ah (v:=(iV (s))) h32_9) (Ak (gY rfl b48) (Ay Picker.f_from_ Bik rfl rfl ty3 (by decide) rfl r42) fun v49 r49=>?_)
    have ⟨g50a,g50b⟩:=At.rng r49
    refine Aa (gY rfl b48) (Bc ty3 rfl r49) (Aa (gY rfl b48) (Ah (v:=(iV (a12.far))) h32_6) (Aa (gY rfl b48) (Br rfl rfl (z:=(a39.from_ + a12.far)) (Bo (by rfl) (by omega) (by omega))) (Aa (gY rfl b48) (Uy rfl rfl) (l_v (Bt rfl b48 (v:=(.bool (decide (s ≥ (a39.from_ + a12.far))))) rfl) (Asf (.bool (decide (s ≥ (a39.from_ + a12.far)))) (Cn (decide (s ≥ (a39.from_ + a12.far))) (fun b51=>?_) (fun b51=>?_)))))))
    ·have q51:=of_decide_eq_true b51
     refine Aa (gY rfl b51) (Ah (v:=(iV (s))) h32_9) (Ak (gY rfl b51) (Ay Picker.f_till Bik rfl rfl ty3 (by decide) rfl r42) fun v52 r52=>?_)
     have ⟨g53a,g53b⟩:=At.rng r52
     refine Aa (gY rfl b51) (Bc ty3 rfl r52) (Aa (gY rfl b51) (Ah (v:=(iV (a12.far))) h32_6) (Aa (gY rfl b51) (Ou rfl rfl (z:=(a39.till - a12.far)) (Bo (by rfl) (by omega) (by omega))) (Aa (gY rfl b51) (Da rfl rfl) (l_v (Bt rfl b51 (v:=(.bool (decide (s < (a39.till - a12.far))))) rfl) (l_k k43 (Asg (t:=decide (s < (a39.till - a12.far))) rfl (fun b54=>?_) (fun b54=>?_)))))))
     ·have q54:=of_decide_eq_true b54
      refine Ag rfl rfl (l_v (Ah (v:=ov32_8) h32_8) (l_v (Ah (v:=(iV (s))) h32_9) (Asf (iV ((p:Int))) ?_)))
      have r55:Val ρ42 (.agg #[(iV (s)),(iV ((p:Int)))]) (⟨s,(p:Int)⟩:Spot):=Spot.shut (x:=(⟨s,(p:Int)⟩:Spot)) (show I64 (s) from by constructor <;> omega) (show I64 ((p:Int)) from by constructor <;> omega)
      refine l_v (Dn (ns:=[1,1]) (vs:=[(0,(iV (s))),(1,(iV ((p:Int))))]) (zc:=Bao) (cs:=[(iV (s)),(iV ((p:Int)))]) Bjj Awy rfl ⟨⟨_,Ab Bhx,rfl⟩,⟨_,Ab Bhx,rfl⟩,trivial⟩ (EvB.map ⟨⟨rfl,rfl⟩,⟨rfl,rfl⟩,trivial⟩) ((Be (cs:=[(iV (s))]) rfl rfl (Nat.le_of_ble_eq_true rfl)).trans ((Be (cs:=[(iV ((p:Int)))]) rfl rfl (Nat.le_of_ble_eq_true rfl)).trans rfl))) (Arv (Bi (α:=Spot) (xs:=[(⟨s,(p:Int)⟩:Spot)]) (vs:=[(.agg #[(iV (s)),(iV ((p:Int)))])]) Bka Atf Awy rfl (by decide) (Dk (os:=[.tmp 80]) ⟨rfl,trivial⟩) ⟨r55,trivial⟩ rfl (by decide) fun k56 cs56 R56=>?_))
      have G56:Grow ρ42 93 (.slice (some ⟨k56,0,none⟩) 1 1) ([(⟨s,(p:Int)⟩:Spot)]:List Spot) [(k56,oC cs56.toArray 93)]:=Bs R56 rfl (by decide)
      refine Ca G56 fun ρ58 l58 r58=>?_
      replace OG32_8:=Bmk l58 OG32_8
      refine Arv (Gc (σ:=((r,oC #[ch,cf,cp,cb,(iV (m.warm.low)),(iV (m.warm.high)),va] 99) :: σ)) (gr:=og32_8) (xs:=T) (ys:=([(⟨s,(p:Int)⟩:Spot)]:List Spot)) Bka Bka (Ab Bkk) rfl (Nat.le_of_ble_eq_true rfl) rfl rfl rfl rfl OG32_8 r58 (by simp only [List.length_append,List.length_cons,List.length_nil] at *; omega) fun v57 gr57 G57=>?_)
      refine Lo v57 (l_k k36 (Ag rfl rfl (l_v (Br h32_51 rfl (z:=(((p + 1):Nat):Int)) wrE) (Asf (iV ((((p + 1):Nat):Int))) (Ac ?_)))))
      refine ⟨_,?_,((p + 1)),((T ++ ([(⟨s,(p:Int)⟩:Spot)]:List Spot))),v57,gr57,rfl,rfl,(Bmm (Bmm l32 l42) l58),rfl,h32_0,h32_5,h32_6,h32_7,h32_9,h32_49,h32_50,rfl,rfl,(by omega),(Bbs p32_1 ⟨by simp only; omega,by simp only; omega⟩),(by simp only [List.length_append,List.length_cons,List.length_nil]; omega),(Fy (rfl) G57),trivial⟩
      omega
     have q54:=of_decide_eq_false b54
     refine Al (k36 _ _ _ _ ?_)
     refine Ag rfl rfl (l_v (Br h32_51 rfl (z:=(((p + 1):Nat):Int)) wrE) (Asf (iV ((((p + 1):Nat):Int))) (Ac ?_)))
     refine ⟨_,?_,((p + 1)),(T),ov32_8,og32_8,rfl,rfl,(Bmm l32 l42),rfl,h32_0,h32_5,h32_6,h32_7,h32_9,h32_49,h32_50,h32_8,rfl,(by omega),p32_1,(by omega),(Fy (rfl) OG32_8),trivial⟩
     omega
    have q51:=of_decide_eq_false b51
    refine Ap (gN rfl b51) (Ap (gN rfl b51) (Ap (gN rfl b51) (Ap (gN rfl b51) (Ap (gN rfl b51) (Ap (gN rfl b51) (l_v (Bn rfl b51 (v:=(.bool (false))) rfl) (l_k k43 (Cg rfl rfl (Al (k36 _ _ _ _ ?_))))))))))
    refine Ag rfl rfl (l_v (Br h32_51 rfl (z:=(((p + 1):Nat):Int)) wrE) (Asf (iV ((((p + 1):Nat):Int))) (Ac ?_)))
    refine ⟨_,?_,((p + 1)),(T),ov32_8,og32_8,rfl,rfl,(Bmm l32 l42),rfl,h32_0,h32_5,h32_6,h32_7,h32_9,h32_49,h32_50,h32_8,rfl,(by omega),p32_1,(by omega),(Fy (rfl) OG32_8),trivial⟩
    omega
   have q48:=Jq b48
   refine Ap (gN rfl b48) (Ap (gN rfl b48) (Ap (gN rfl b48) (Ap (gN rfl b48) (Ap (gN rfl b48) (Ap (gN rfl b48) (l_v (Bn rfl b48 (v:=(.bool (false))) rfl) (Asf (.bool (false)) (Ap (gN rfl rfl) (Ap (gN rfl rfl) (Ap (gN rfl rfl) (Ap (gN rfl rfl) (Ap (gN rfl rfl) (Ap (gN rfl rfl) (l_v (Bn rfl rfl (v:=(.bool (false))) rfl) (l_k k43 (Cg rfl rfl (Al (k36 _ _ _ _ ?_))))))))))))))))))
   refine Ag rfl rfl (l_v (Br h32_51 rfl (z:=(((p + 1):Nat):Int)) wrE) (Asf (iV ((((p + 1):Nat):Int))) (Ac ?_)))
   refine ⟨_,?_,((p + 1)),(T),ov32_8,og32_8,rfl,rfl,(Bmm l32 l42),rfl,h32_0,h32_5,h32_6,h32_7,h32_9,h32_49,h32_50,h32_8,rfl,(by omega),p32_1,(by omega),(Fy (rfl) OG32_8),trivial⟩
   omega
  have q35:=of_decide_eq_false b35
  refine Bx (k29 _ _ _ _ ?_)
  refine Ag rfl rfl (l_v (Ah (v:=(iV (s))) h32_9) (l_v (Br rfl rfl (z:=(s + 1)) (Bo (by rfl) (by omega) (by omega))) (Lo (iV ((s + 1))) (Ac ?_))))
  refine ⟨_,?_,((s + 1)),(T),ov32_8,og32_8,rfl,rfl,(Bmm l25 l32),rfl,h32_0,h32_5,h32_6,h32_7,h32_8,rfl,(by omega),p32_1,(by omega),(Fy (rfl) OG32_8),trivial⟩
  omega
 have q28:=of_decide_eq_false b28
 refine Bx (k21 _ _ _ _ ?_)
 refine Ai fun K59 k59=>Hc OG25_8 fun ρ60 l60 r60=>Ag rfl rfl (l_v (Ah (v:=ov25_8) h25_8) (Lo ov25_8 (l_k k59 (Aq (hret _ _ _ (⟨(Bmm (Bmm (Bmm l7 l18) l25) l60),rfl,_,_,rfl,r60,p25_1⟩))))))
end
section
set_option maxHeartbeats 1000000
open Go
theorem Bdp {n:Nat} (k:Nat) (b:Int) (h:(List.replicate n (0:Int))[k]? = some b):0 ≤ b∧b ≤ (n:Int) - 1:=by
 have h1:=(List.getElem?_eq_some_iff.1 h).1
 rw [List.length_replicate] at h1
 have:=(List.mem_replicate.1 (List.mem_of_getElem? h)).2
 omega
theorem Bfv {x:List Int} {i:Nat} {v n:Int} (h:∀ (k:Nat) (b:Int),x[k]? = some b→0 ≤ b∧b ≤ n) (hv:0 ≤ v∧v ≤ n) (k:Nat) (b:Int) (hb:(x.set i v)[k]? = some b):0 ≤ b∧b ≤ n:=by
 rw [List.getElem?_set] at hb
 split at hb
 ·split at hb
  ·cases hb; exact hv
  ·cases hb
 ·exact h k b hb
variable {mn:Bool} {X:Frame→List Frame→Ro→Own→Cy→Prop} {ρ:Ro} {σ:Own}
set_option maxHeartbeats 1000000 in
theorem Bdz {m:Morn} {vm:Value} (rm:Val ρ vm m) (ok:MornOk m):CallsH (CX mn X) 26 #[vm] ρ σ (fun w ρ' σ'=>Ro.le ρ ρ'∧σ' = σ∧∃ (v:Value) (al:List (List Spot)),w = v∧At ρ' v (⟨⟨m⟩,al⟩:PPlan)∧Avb m.baskets.length al):=by
 have hwm:=ok.warm
 have hnb:=ok.nbaskets
 refine Bh (n:=31) (args:=[vm]) [2] Tryd.func26 rfl rfl rfl rfl fun Q hret hnor=>w_q rfl rfl fun K1 k1=>Arv (Eb (v:=vm) rfl fun k2=>?_)
 refine Bb (a:=m) rm fun ρ2 l2 r2=>Lo (.pointer none) (Arx rfl rfl k1 fun K3 k3=>Arw (Ax Ata rfl r2) fun v4 r4=>l_v (Aum rfl r4) ?_)
 obtain ⟨c5_0,c5_1,c5_2,c5_3,e5_,i5_1,i5_2,i5_3,i5_4,⟨i5_5a,i5_5b⟩,⟨i5_6a,i5_6b⟩⟩:=MornP.open_ (Awt r4)
 have e5_c:v4.cells = [c5_0,c5_1,c5_2,c5_3,(iV (((⟨m⟩:MornP)).m.warm.low)),(iV (((⟨m⟩:MornP)).m.warm.high))].toArray:=by rw [e5_]; rfl
 have r6:Val ρ2 (.agg #[c5_0,c5_1,c5_2,c5_3,(iV (((⟨m⟩:MornP)).m.warm.low)),(iV (((⟨m⟩:MornP)).m.warm.high)),(nS)]) (⟨(⟨(⟨((⟨m⟩:MornP)).m.houses,((⟨m⟩:MornP)).m.fields,((⟨m⟩:MornP)).m.pickers,((⟨m⟩:MornP)).m.baskets,⟨((⟨m⟩:MornP)).m.warm.low,((⟨m⟩:MornP)).m.warm.high⟩⟩:Morn)⟩:MornP),[]⟩:PPlan):=PPlan.shut (x:=(⟨(⟨(⟨((⟨m⟩:MornP)).m.houses,((⟨m⟩:MornP)).m.fields,((⟨m⟩:MornP)).m.pickers,((⟨m⟩:MornP)).m.baskets,⟨((⟨m⟩:MornP)).m.warm.low,((⟨m⟩:MornP)).m.warm.high⟩⟩:Morn)⟩:MornP),[]⟩:PPlan)) i5_1 i5_2 i5_3 i5_4 (show I64 (((⟨m⟩:MornP)).m.warm.low) from by constructor <;> omega) (show I64 (((⟨m⟩:MornP)).m.warm.high) from by constructor <;> omega) Gx
 refine l_v (Dn (ns:=[6,1]) (vs:=[(0,v4)]) (zc:=Bgd) (cs:=[c5_0,c5_1,c5_2,c5_3,(iV (((⟨m⟩:MornP)).m.warm.low)),(iV (((⟨m⟩:MornP)).m.warm.high)),(nS)]) Bkb Bgh rfl ⟨⟨_,Ab Blh,rfl⟩,⟨_,Ab Bkv,rfl⟩,trivial⟩ (EvB.map ⟨⟨rfl,rfl⟩,trivial⟩) ((Be (cs:=[c5_0,c5_1,c5_2,c5_3,(iV (((⟨m⟩:MornP)).m.warm.low)),(iV (((⟨m⟩:MornP)).m.warm.high))]) e5_c rfl (Nat.le_of_ble_eq_true rfl)).trans rfl)) (Arv (Eb (v:=(.agg #[c5_0,c5_1,c5_2,c5_3,(iV (((⟨m⟩:MornP)).m.warm.low)),(iV (((⟨m⟩:MornP)).m.warm.high)),(nS)])) rfl fun k7=>?_))
 refine Lo (.pointer (some ⟨k7,0,none⟩)) (Ary rfl rfl k3 fun K8 K9 k8 k9=>Arw (Ay Morn.f_baskets Bhz rfl rfl Asu (by decide) rfl r2) fun v10 r10=>Arw (Ax Asu rfl r10) fun v11 r11=>?_)
 have g12:=Bmn r11
 refine l_v (Ci (el:=47) Bip rfl r11) (Asf (iV (0)) (l_k k9 (Ao (Cc (fun mm ee dd ρ' σ'=>∃ (i:Nat) (al:List (List Spot)) (ov13_3c6:Value) (og13_3c6:Own),(m.baskets.length - i) = mm∧[] = dd∧Ro.le ρ2 ρ'∧(og13_3c6 ++ ((k7,oC #[c5_0,c5_1,c5_2,c5_3,(iV (((⟨m⟩:MornP)).m.warm.low)),(iV (((⟨m⟩:MornP)).m.warm.high)),ov13_3c6] 99) :: σ)) = σ'∧ee 3 = (.pointer (some ⟨k7,0,none⟩))∧ee 11 = (iV (((m.baskets.length:Nat):Int)))∧ee 12 = (iV ((i:Int)))∧(i ≤ m.baskets.length)∧(Avb i al)∧Grow ρ' 94 ov13_3c6 al og13_3c6∧True) (m:=_) ⟨0,[],(nS),[],rfl,rfl,Bml,rfl,rfl,rfl,rfl,(Nat.zero_le _),Bdt,Hm,trivial⟩ ?_))))
 rintro m13 e13 _ ρ13 _ ⟨i,al,ov13_3c6,og13_3c6,rfl,rfl,l13,rfl,h13_3,h13_11,h13_12,p13_0,p13_1,OG13_3c6,_⟩
 replace i5_1:=Bmo l13 i5_1
 replace i5_2:=Bmo l13 i5_2
 replace i5_3:=Bmo l13 i5_3
 replace i5_4:=Bmo l13 i5_4
 have hal13:=p13_1.1
 refine w_q rfl rfl fun K14 k14=>l_v (Da h13_12 h13_11) (Asa k14 fun K15 k15=>Asg (t:=decide ((i:Int) < ((m.baskets.length:Nat):Int))) rfl (fun b16=>?_) (fun b16=>?_))
 ·have q16:=of_decide_eq_true b16
  refine Al (k15 _ _ _ _ ?_)
  refine Ai fun K17 k17=>Ao (w_q rfl rfl fun K18 k18=>l_v (Ah (v:=(iV ((i:Int)))) h13_12) (Lo (iV ((i:Int))) (l_k k18 (Auc (((k7,oC #[c5_0,c5_1,c5_2,c5_3,(iV (((⟨m⟩:MornP)).m.warm.low)),(iV (((⟨m⟩:MornP)).m.warm.high)),ov13_3c6] 99) :: [])) [0,1,2,3,4,5,6,7,8,9,10,11,13] (by kernel_rfl) rfl rfl (Ask 0 Aol rfl ⟨Bml,sB⟩ rfl (Yld.o (Ah (v:=(.pointer (some ⟨k7,0,none⟩))) h13_3)) (Ask 1 Aom rfl ⟨Bml,sB⟩ rfl (Yld.o (Ah (v:=(.pointer (some ⟨k7,0,none⟩))) h13_3)) (Ask 2 Aon rfl ⟨Bml,sB⟩ rfl (Yld.o (Ck rfl)) (Ask 3 Aqg rfl ⟨Bml,sB⟩ rfl (Yld.o (Cb Bkb rfl rfl ⟨_,Ab Bkv,rfl⟩ (by decide) rfl rfl)) (Ask 4 Aqh rfl ⟨Bml,sB⟩ rfl (Atj (v:=ov13_3c6) ⟨_,Bkg,rfl⟩ rfl (List.mem_cons_self ..) rfl) (Ask 5 Aqi rfl ⟨Bml,sB⟩ rfl (Yld.o (Ah (v:=(.pointer (some ⟨k7,0,none⟩))) h13_3)) (Ask 6 Aqj rfl ⟨Bml,sB⟩ rfl (Yld.o (Ck rfl)) (Ask 7 [o1,o1,o1,o1,o1,o1,o1,o1,o0,o0,o0,o0,o0,o0,o0] rfl ⟨Bml,sB⟩ rfl (Yld.o (Cb Bkb rfl rfl ⟨_,Ab Blh,rfl⟩ (by decide) rfl rfl)) (Asp 8 [o1,o1,o1,o1,o1,o1,o1,o1,o1,o0,o0,o0,o0,o0,o0] rfl ⟨Bml,sB⟩ rfl (Yld.o (Ah (v:=(iV ((i:Int)))) rfl)) ⟨Bml,sB⟩ (Aye Asd (Aur 9 [o1,o1,o1,o1,o1,o1,o1,o1,o1,o1,o0,o0,o0,o0,o0] rfl rfl (Cm (vs:=[(.pointer (some ⟨k7,0,none⟩)),(iV ((i:Int)))]) (Bci (m:=m) (va:=ov13_3c6) i5_1 i5_2 i5_3 i5_4 ok (by omega)) Tryd.func58 rfl rfl ⟨rfl,rfl,trivial⟩ fun w19 ρ19 σ19 hc19=>?_))))))))))))))))
  obtain ⟨l19,s19,v19,S19,hw19,r19,hS19⟩:=hc19
  replace s19:=s19.symm; subst s19 hw19
  replace OG13_3c6:=Bmk l19 OG13_3c6
  refine ⟨⟨l19,sB⟩,?_⟩
  refine Aur 10 [o1,o1,o1,o1,o1,o1,o1,o1,o1,o1,o1,o0,o0,o0,o0] rfl rfl (Bi (α:=List Spot) (xs:=[S19]) (vs:=[w19]) Bkg Awr Bgf rfl (by decide) (Dk (os:=[.tmp 24]) ⟨rfl,trivial⟩) ⟨r19,trivial⟩ rfl (by decide) fun k20 cs20 R20=>⟨⟨l19,sB⟩,?_⟩)
  have G20:Grow ρ19 94 (.slice (some ⟨k20,0,none⟩) 1 1) ([S19]:List (List Spot)) [(k20,oC cs20.toArray 94)]:=Bs R20 rfl (by decide)
  refine Axn G20 sB fun ρ22 l22 r22=>?_
  replace OG13_3c6:=Bmk l22 OG13_3c6
  refine Aye Asc (Aur 11 [o1,o1,o1,o1,o1,o1,o1,o1,o1,o1,o1,o1,o0,o0,o0] rfl rfl (Gc (σ:=((k7,oC #[c5_0,c5_1,c5_2,c5_3,(iV (((⟨m⟩:MornP)).m.warm.low)),(iV (((⟨m⟩:MornP)).m.warm.high)),ov13_3c6] 99) :: σ)) (gr:=og13_3c6) (xs:=al) (ys:=([S19]:List (List Spot))) Bkg Bkg (Ab Blx) rfl (Nat.le_of_ble_eq_true rfl) rfl rfl rfl rfl OG13_3c6 r22 (by simp only [List.length_append,List.length_cons,List.length_nil] at *; omega) fun v21 gr21 G21=>⟨⟨(Bmm l19 l22),sB⟩,?_⟩))
  refine Asp 12 Aqk rfl ⟨(Bmm l19 l22),sB⟩ rfl (Yld.o (Ck rfl)) ⟨Bml,sB⟩ (Asp 13 Aql rfl ⟨(Bmm l19 l22),sB⟩ rfl (Yld.o (Cb Bkb rfl rfl ⟨_,Ab Bkv,rfl⟩ (by decide) rfl rfl)) ⟨Bml,sB⟩ (Aye Asd (Auq 14 Aqm rfl rfl (Cz (j:=0) (v:=v21) ⟨_,Ab Bkv,rfl⟩ rfl rfl (Grow.single G21) rfl (Nat.le_of_ble_eq_true rfl) ?_))))
  refine Avk rfl (k17 _ _ _ _ ?_)
  refine Ag rfl rfl (l_v (Br h13_12 rfl (z:=(((i + 1):Nat):Int)) wrE) (Asf (iV ((((i + 1):Nat):Int))) (Bj (Bmj Asc) (Ac ?_))))
  refine ⟨_,?_,((i + 1)),((al ++ ([S19]:List (List Spot)))),v21,gr21,rfl,rfl,(Bmm (Bmm l13 l19) l22),rfl,h13_3,h13_11,rfl,(by omega),(Bds p13_1 hS19),(Fy (rfl) G21),trivial⟩
  omega
 have q16:=of_decide_eq_false b16
 refine Bx (k8 _ _ _ _ ?_)
 refine w_q rfl rfl fun K23 k23=>l_v (Ah (v:=(.pointer (some ⟨k7,0,none⟩))) h13_3) (Lo (.pointer (some ⟨k7,0,none⟩)) (l_k k23 (Hc OG13_3c6 fun ρ24 l24 r24=>?_)))
 replace i5_1:=Bmo l24 i5_1
 replace i5_2:=Bmo l24 i5_2
 replace i5_3:=Bmo l24 i5_3
 replace i5_4:=Bmo l24 i5_4
 have r25:Val ρ24 (.agg #[c5_0,c5_1,c5_2,c5_3,(iV (((⟨m⟩:MornP)).m.warm.low)),(iV (((⟨m⟩:MornP)).m.warm.high)),ov13_3c6]) (⟨(⟨(⟨((⟨m⟩:MornP)).m.houses,((⟨m⟩:MornP)).m.fields,((⟨m⟩:MornP)).m.pickers,((⟨m⟩:MornP)).m.baskets,⟨((⟨m⟩:MornP)).m.warm.low,((⟨m⟩:MornP)).m.warm.high⟩⟩:Morn)⟩:MornP),al⟩:PPlan):=PPlan.shut (x:=(⟨(⟨(⟨((⟨m⟩:MornP)).m.houses,((⟨m⟩:MornP)).m.fields,((⟨m⟩:MornP)).m.pickers,((⟨m⟩:MornP)).m.baskets,⟨((⟨m⟩:MornP)).m.warm.low,((⟨m⟩:MornP)).m.warm.high⟩⟩:Morn)⟩:MornP),al⟩:PPlan)) i5_1 i5_2 i5_3 i5_4 (show I64 (((⟨m⟩:MornP)).m.warm.low) from by constructor <;> omega) (show I64 (((⟨m⟩:MornP)).m.warm.high) from by constructor <;> omega) r24
 refine Nt (a:=(⟨(⟨(⟨((⟨m⟩:MornP)).m.houses,((⟨m⟩:MornP)).m.fields,((⟨m⟩:MornP)).m.pickers,((⟨m⟩:MornP)).m.baskets,⟨((⟨m⟩:MornP)).m.warm.low,((⟨m⟩:MornP)).m.warm.high⟩⟩:Morn)⟩:MornP),al⟩:PPlan)) r25 fun ρ26 l26 r26=>Aq (hret _ _ _ (⟨(Bmm (Bmm (Bmm l2 l13) l24) l26),rfl,(.pointer (some ⟨k7,0,none⟩)),al,rfl,At.cast rfl r26,(show i = m.baskets.length by omega) ▸ p13_1⟩))
theorem Azx {l:List Basket} {vl:Value} (rl:Val ρ vl l) (hn:l.length ≤ 9):CallsH (CX mn X) 60 #[vl] ρ σ (fun w ρ' σ'=>Ro.le ρ ρ'∧σ' = σ∧∃ (v:Value) (x:List Int),w = v∧Val ρ' v x∧x.length = l.length∧∀ (k:Nat) (b:Int),x[k]? = some b→0 ≤ b∧b ≤ (l.length:Int) - 1):=by
 refine Bh (n:=19) (args:=[vl]) [2] Tryd.func60 rfl rfl rfl rfl fun Q hret hnor=>w_q rfl rfl fun K1 k1=>Lo (nS) (Arx rfl rfl k1 fun K2 k2=>Asf vl ?_)
 have g3:=Bmn rl
 refine l_v (Ci (el:=47) Bip rfl rl) (Arv (Beo (n:=l.length) Bhy (Ab Bhx) rfl (Nat.le_of_ble_eq_true rfl) rfl rfl rfl (by omega) fun v4 g4 G4=>?_))
 refine Lo v4 (Ary rfl rfl k2 fun K5 K6 k5 k6=>Asf vl ?_)
 have g7:=Bmn rl
 refine l_v (Ci (el:=47) Bip rfl rl) (Asf (iV (0)) (l_k k6 (Ao (Cc (fun mm ee dd ρ' σ'=>∃ (i:Nat) (x:List Int) (ov8_3:Value) (og8_3:Own),(l.length - i) = mm∧[] = dd∧Ro.le ρ ρ'∧(og8_3 ++ σ) = σ'∧ee 9 = (iV (((l.length:Nat):Int)))∧ee 3 = ov8_3∧ee 10 = (iV ((i:Int)))∧(i ≤ l.length)∧(x.length = l.length)∧(∀ (k:Nat) (b:Int),x[k]? = some b→0 ≤ b∧b ≤ (l.length:Int) - 1)∧Grow ρ' 3 ov8_3 x og8_3∧True) (m:=_) ⟨0,(List.replicate l.length (0:Int)),v4,g4,rfl,rfl,Bml,rfl,rfl,rfl,rfl,(Nat.zero_le _),List.length_replicate,(Bdp),G4,trivial⟩ ?_))))
 rintro m8 e8 _ ρ8 _ ⟨i,x,ov8_3,og8_3,rfl,rfl,l8,rfl,h8_9,h8_3,h8_10,p8_0,p8_1,p8_2,OG8_3,_⟩
 have hxl8:=p8_1
 refine w_q rfl rfl fun K9 k9=>l_v (Da h8_10 h8_9) (Asa k9 fun K10 k10=>Asg (t:=decide ((i:Int) < ((l.length:Nat):Int))) rfl (fun b11=>?_) (fun b11=>?_))
 ·have q11:=of_decide_eq_true b11
  refine Al (k10 _ _ _ _ ?_)
  refine Ai fun K12 k12=>Ao (w_q rfl rfl fun K13 k13=>l_v (Ah (v:=(iV ((i:Int)))) h8_10) (Lo (iV ((i:Int))) (l_k k13 (Ag rfl rfl (l_v (Ah (v:=ov8_3) h8_3) (Asf (iV ((i:Int))) (Asf (iV ((i:Int))) (l_v (Nw i Bhy ty3.info rfl OG8_3 (q:=(i:Int)) rfl rfl (by omega) rfl) (Cx rfl (Bdd (σ:=σ) (gr:=og8_3) (i:=i) (v:=ov8_3) (w:=(iV ((i:Int)))) ty3.info rfl rfl rfl (Cv.2 ⟨rfl,by constructor <;> omega⟩) OG8_3 (by omega) fun gr14 G14=>?_))))))))))
  refine l_k k12 (Ag rfl rfl (l_v (Br h8_10 rfl (z:=(((i + 1):Nat):Int)) wrE) (Asf (iV ((((i + 1):Nat):Int))) (Ac ?_))))
  refine ⟨_,?_,((i + 1)),((x.set i ((i:Int)))),ov8_3,gr14,rfl,rfl,l8,rfl,h8_9,h8_3,rfl,(by omega),(List.length_set.trans p8_1),(Bfv p8_2 ⟨by omega,by omega⟩),(Fy (rfl) G14),trivial⟩
  omega
 have q11:=of_decide_eq_false b11
 refine Bx (k5 _ _ _ _ ?_)
 refine Ai fun K15 k15=>Hc OG8_3 fun ρ16 l16 r16=>Ag rfl rfl (l_v (Ah (v:=ov8_3) h8_3) (Lo ov8_3 (l_k k15 (Aq (hret _ _ _ (⟨(Bmm l8 l16),rfl,_,_,rfl,r16,p8_1,p8_2⟩))))))
end
section
set_option maxHeartbeats 1000000
open Go
theorem Axe {P:Program} {fn:FuncId} {es:Array Event} {e:Event} (h:e ∈ seen P fn es) (f:FuncId):e.loc ≠ .mark (.extern f):=by
 obtain ⟨l⟩:=es
 unfold seen at h
 simp only [List.foldl_toArray'] at h
 revert h
 generalize (Option.any (fun x=>x.norace) P.funcs[fn]?) = q
 have key:∀ (g:Bool × Array Event→Event→Bool × Array Event),(∀ x ev,(g x ev).2 = x.2∨((g x ev).2 = x.2.push ev∧ev.loc ≠ .mark (.extern f)))→∀ (l:List Event) (x:Bool × Array Event),e ∈ (l.foldl g x).2→e ∈ x.2∨e.loc ≠ .mark (.extern f):=by
  intro g hg l
  induction l with
  | nil=>exact fun x h=>.inl h
  | cons y l ih =>
   intro x h
   rcases ih _ h with h | h
   ·rcases hg x y with h1 | ⟨h1,h2⟩
    ·rw [h1] at h; exact .inl h
    ·rw [h1] at h
     rcases Array.mem_push.1 h with h | rfl
     ·exact .inl h
     ·exact .inr h2
   ·exact .inr h
 intro h
 rcases key _ (fun x ev=>by
  obtain ⟨q,k⟩:=x
  simp only
  split
  ·exact .inl rfl
  ·rename_i hne
   simp only
   split
   ·exact .inl rfl
   ·exact .inr ⟨rfl,fun hc=>hne f hc⟩) _ _ h with h | h
 ·simp at h
 ·exact h
theorem Ayr {P:Program} {fr:Frame} {cs:List Frame} {s:Sem Next} {W W':World} {v:Value} {es:Array Event} (hk:fr.kind ≠ .early) (hr:s.runT P W #[] = (.ok (.value v) W',es)) :
  stepG.apply P true fr cs none s W = .go (Conc.G (fr.finish v) cs) W' (seen P fr.fn es):=by
 have hk':(fr.kind == CallKind.early) = false:=by cases h:fr.kind <;> simp_all <;> rfl
 simp [stepG.apply,-Sem.runT_eq,hr,hk',GStep.after,Conc.G]
section
variable {C:Ctx} {b:FB} {n:Nat} {l₀ rest:List Oper} {Q:Env→List Deferred→Ro→Own→Prop} {e:Env} {ds:List Deferred} {ρ:Ro} {σ:Own}
theorem Beg {d ck r:Nat} {f:FuncId} {fn:Func} {x:Operand} {tys:Array TypeId} {ty t:TypeId} {pos:String} {af:Array Edge} {g:Option (Nat × Bool)} {es0:Array MapEntry}
  (hw:Bz l₀.toArray ⟨some d,.call ⟨.value (.func f),#[x],tys⟩,ty,pos,af,g⟩ e = true) (hf:C.P.funcs[f]? = some fn) (hn:(fn.name == "runtime.NumGoroutine") = false) (hb:fn.body.isNone = true)
  (hx0:Extern.findNext fn = none) (he:Extern.find fn = some Extern.MapsClone.clone) (hx:Af e x = .iface t (.map (some r))) (hm:Has ρ σ r (.map es0 ck))
  (h:∀ k,Ey C b n l₀ rest Q (upd e d (.iface t (.map (some k)))) ds ρ ((k,.obj (.map es0 ck)) :: σ)) :
  Ey C b n l₀ (⟨some d,.call ⟨.value (.func f),#[x],tys⟩,ty,pos,af,g⟩ :: rest) Q e ds ρ σ:=by
 intro pre hpre hs hk tm k cs ht
 have ho:l₀.toArray[pre.length]? = some ⟨some d,.call ⟨.value (.func f),#[x],tys⟩,ty,pos,af,g⟩:=by subst hpre; simp
 rw [List.length_cons,List.range'_succ]
 have hev:=ht.eval b ds (.inRegion l₀.toArray (pre.length :: List.range' (pre.length + 1) rest.length) :: k)
 have hrun:∀ W:World,(execOp (Af e) ⟨some d,.call ⟨.value (.func f),#[x],tys⟩,ty,pos,af,g⟩).runT C.P W #[] = ((Extern.MapsClone.clone #[.iface t (.map (some r))]).bind fun v=>Sem.pure (Next.value v)).runT C.P W #[⟨.mark (.extern f),false,true⟩]:=by
  intro W
  have e1:execOp (Af e) ⟨some d,.call ⟨.value (.func f),#[x],tys⟩,ty,pos,af,g⟩ = callFunc f #[.iface t (.map (some r))]:=by
   show callFunc f ((#[] ++ #[x].map (Af e)) ++ #[]) = _
   rw [Array.append_empty,Array.empty_append,show #[x].map (Af e) = #[Af e x] by simp,hx]
  rw [e1]
  unfold callFunc
  show ((program).bind _).runT C.P W #[] = _
  rw [Sem.runT_bind']
  simp only [program,Sem.runT,hf,hn,hb]
  simp only [hx0,he]
  rfl
 refine .step (fun fr' cs' σ'=>∃ q,fr' = (Fr b tm ds (.inRegion l₀.toArray (pre.length :: List.range' (pre.length + 1) rest.length) :: k)).finish (.iface t (.map (some q)))∧cs' = cs∧σ' = (q,.obj (.map es0 ck)) :: σ) (fun W hsat=>?_) ?_
 ·have hwp:wpS C.P ρ ((Extern.MapsClone.clone #[.iface t (.map (some r))]).bind fun v=>Sem.pure (Next.value v)) σ (fun nx σ'=>∃ q,nx = .value (.iface t (.map (some q)))∧σ' = (q,.obj (.map es0 ck)) :: σ):=by
   rw [Ad]
   show wpS C.P ρ ((getObj r).bind _) σ _
   rw [Ad]
   refine ⟨_,hm,rfl,?_⟩
   show wpS C.P ρ ((newObj (.map es0 ck)).bind _) σ _
   rw [Ad]
   exact .inl ⟨rfl,fun q=>⟨q,rfl,rfl⟩⟩
  obtain ⟨nx,σ',W',es,h1,h2,h3,h4⟩:=Rr _ σ _ W #[⟨.mark (.extern f),false,true⟩] hwp hsat
  obtain ⟨q,rfl,rfl⟩:=h2
  rw [← hrun W] at h1
  have h5:=Ayr (fr:=Fr b tm ds (.inRegion l₀.toArray (pre.length :: List.range' (pre.length + 1) rest.length) :: k)) (cs:=cs) (by exact hk) h1
  have h6:∀ ev ∈ seen C.P b.fn es,EvOk ρ ((q,Res.obj (Obj.map es0 ck)) :: σ) ev:=fun ev he'=>(h4 ev (Lh he')).resolve_left fun hc=>Axe he' f (by simp at hc; rw [hc])
  refine ⟨_,cs,W',seen C.P b.fn es,_,?_,h3,h6,q,rfl,rfl,rfl⟩
  have hst:=Np (C:=C) (b:=b) (ds:=ds) (tm:=tm) (k:=k) (cs:=cs) (rest:=List.range' (pre.length + 1) rest.length) ho (by rw [Ij hs ht]; exact hw) (fun c' h'=>by cases h') W
  refine hst.trans ?_
  rw [hev]
  exact h5
 ·rintro _ _ _ ⟨q,rfl,rfl,rfl⟩
  rw [Ju ho]
  have hrest:=h q (pre ++ [⟨some d,.call ⟨.value (.func f),#[x],tys⟩,ty,pos,af,g⟩]) (by rw [hpre]; simp) hs hk
  rw [List.length_append,List.length_singleton] at hrest
  exact hrest _ k _ (Jj hs ht ho _)
end
section
variable {P:Program} {ρ:Ro} {e:Env} {ty t t':TypeId} {x:Operand} {kt et:TypeId} {v:Value}
/-- A map in an interface,and out of it again. -/
theorem Bbw (hT:P.underlying t = some (.map kt et)) (hx:Af e x = v):Yld P ρ e (.makeInterface t x) ty (.iface t v) :=
 Mt (s:=Instr.makeInterface t (Af e x)) (fun _ _ _ _=>rfl) fun ρ' σ _=>by
 rw [hx]
 show wpS P ρ' ((underlying t).bind _) σ _
 rw [Ad]
 exact Az hT ⟨rfl,rfl⟩
theorem Bdg (hT:P.underlying t' = some (.map kt et)) (hx:Af e x = .iface t' v):Yld P ρ e (.typeAssert x t t' false) ty v :=
 Mt (s:=Instr.typeAssert (Af e x) t t' false) (fun _ _ _ _=>rfl) fun ρ' σ _=>by
 rw [hx]
 show wpS P ρ' ((underlying t').bind _) σ _
 rw [Ad]
 refine Az hT ?_
 simp only [if_true]
 exact ⟨rfl,rfl⟩
/-- Comparing a map with nil. -/
theorem Aup {a:Option Nat} {y:Operand} (hT:P.underlying t = some (.map kt et)) (hx:Af e x = .map a) (hy:Af e y = .map none):Yld P ρ e (.binOp .eql t x y t') ty (.bool a.isNone) :=
 Mt (s:=(do eqGuard .eql t x y (Af e x) (Af e y); binOp .eql t (Af e x) (Af e y))) (fun _ _ _ _=>rfl) fun ρ' σ _=>by
  rw [hx,hy,show eqGuard .eql t x y (.map a) (.map none) = pure () from rfl]
  show wpS P ρ' ((Op.equal t (.map a) (.map none)).bind _) σ _
  rw [Ad]
  show wpS P ρ' ((underlying t).bind _) σ _
  rw [Ad]
  refine Az hT ?_
  cases a <;> exact ⟨rfl,rfl⟩
end
end
section
set_option maxHeartbeats 1000000
open Go
def spK (p:Int × Int):Value:=.agg #[.int .i64 p.1,.int .i64 p.2]
/-- Such entries: just these keys,each of them true. -/
def SetM (es:Array MapEntry) (L:List (Int × Int)):Prop:=es.toList.map (fun en=>(en.key,en.val)) = L.map (fun p=>(spK p,Value.bool true))∧L.Nodup
theorem Azn:SetM #[] []:=⟨rfl,List.nodup_nil⟩
theorem SetM.en {es:Array MapEntry} {L:List (Int × Int)} (h:SetM es L) {en:MapEntry} (he:en ∈ es.toList):∃ p ∈ L,en.key = spK p∧en.val = .bool true:=by
 have h1:(en.key,en.val) ∈ L.map (fun p=>(spK p,Value.bool true)):=by rw [← h.1]; exact List.mem_map.2 ⟨en,he,rfl⟩
 obtain ⟨p,hp,e⟩:=List.mem_map.1 h1
 exact ⟨p,hp,(congrArg Prod.fst e).symm,(congrArg Prod.snd e).symm⟩
theorem SetM.mem {es:Array MapEntry} {L:List (Int × Int)} (h:SetM es L) {p:Int × Int} (hp:p ∈ L):∃ en ∈ es.toList,en.key = spK p:=by
 have h1:(spK p,Value.bool true) ∈ es.toList.map (fun en=>(en.key,en.val)):=by rw [h.1]; exact List.mem_map.2 ⟨p,hp,rfl⟩
 obtain ⟨en,he,e⟩:=List.mem_map.1 h1
 exact ⟨en,he,congrArg Prod.fst e⟩
theorem SetM.memo {es:Array MapEntry} {L:List (Int × Int)} (h:SetM es L):Jo es (fun a b w=>(a,b) ∈ L∧w = .bool true):=fun en he=>by
 obtain ⟨⟨a,b⟩,hp,h1,h2⟩:=h.en he
 exact ⟨a,b,h1,hp,h2⟩
theorem SetM.push {es:Array MapEntry} {L:List (Int × Int)} (h:SetM es L) {p:Int × Int} (hp:p ∉ L) {ck:Nat}:SetM (es.push ⟨spK p,.bool true,ck⟩) (L ++ [p]):=by
 refine ⟨by rw [Array.toList_push,List.map_append,List.map_append,h.1]; rfl,?_⟩
 rw [List.nodup_append]
 refine ⟨h.2,by simp,fun a ha b hb=>?_⟩
 rw [List.mem_singleton.1 hb]
 exact fun e=>hp (e ▸ ha)
section
variable {C:Ctx} {e:Env} {ds:List Deferred} {ρ ρ₀:Ro} {σ A:Own} {K:Value→List Deferred→Ro→Own→Prop} {rd:Option Nat} {dd:Option Tmp}
variable {ty:TypeId} {pos:String} {af:Array Edge} {g:Option (Nat × Bool)} {x y u:Operand} {t t':TypeId} {P:Program}
theorem Azs {kt:TypeId} (hk:Key2 P kt) {a b:Int} {V:Int→Int→Value→Prop} {Q:Option (Nat × Value)→Own→Prop}:∀ (es:List MapEntry) (i:Nat),(∀ en ∈ es,∃ c d,en.key = .agg #[.int .i64 c,.int .i64 d]∧V c d en.val) →
  ((∀ en ∈ es,en.key ≠ .agg #[.int .i64 a,.int .i64 b])→Q none σ)→(∀ j en,es[j]? = some en→en.key = .agg #[.int .i64 a,.int .i64 b]→V a b en.val→Q (some (i + j,en.val)) σ)→wpS P ρ (Instr.findAsking kt (.agg #[.int .i64 a,.int .i64 b]) es i) σ Q
 | [],i,_,h0,_=>h0 fun _ h=>by cases h
 | en :: es,i,he,h0,h1=>by
  obtain ⟨c,d,hkey,hV⟩:=he en (List.mem_cons_self ..)
  show wpS P ρ ((Op.equal kt (.agg #[.int .i64 a,.int .i64 b]) en.key).bind _) σ Q
  rw [Ad,hkey]
  obtain ⟨fs,hT,hf⟩:=hk.eqF (a:=a) (b:=b) (c:=c) (d:=d)
  refine Ms (d:=9998) hT hk.held hf ?_
  by_cases hab:[a,b] = [c,d]
  ·rw [decide_eq_true hab]
   simp only [List.cons.injEq,and_true] at hab
   obtain ⟨rfl,rfl⟩:=hab
   exact h1 0 en rfl hkey hV
  ·rw [decide_eq_false hab]
   refine Azs hk es (i + 1) (fun x hx=>he x (List.mem_cons_of_mem _ hx)) (fun hn=>h0 fun x hx=>?_) fun j x hx hxk hxV=>?_
   ·rcases List.mem_cons.1 hx with rfl | hx
    ·rw [hkey]; intro hc
     simp only [Value.agg.injEq,Array.mk.injEq,List.cons.injEq,Value.int.injEq,true_and,and_true] at hc
     exact hab (by rw [hc.1,hc.2])
    ·exact hn x hx
   ·have:=h1 (j + 1) x (by simpa using hx) hxk hxV
    rw [show i + 1 + j = i + (j + 1) by omega]; exact this
theorem Avs {kt:TypeId} (hk:Key2 P kt) {a b:Int} {V:Int→Int→Value→Prop} {es:Array MapEntry} (hs:Jo es V) {Q:Option (Nat × Value)→Own→Prop}
  (h0:(∀ en ∈ es.toList,en.key ≠ .agg #[.int .i64 a,.int .i64 b])→Q none σ) (h1:∀ j en,es[j]? = some en→en.key = .agg #[.int .i64 a,.int .i64 b]→V a b en.val→Q (some (j,en.val)) σ):wpS P ρ (Instr.findKey kt (.agg #[.int .i64 a,.int .i64 b]) es.toList) σ Q:=by
 obtain ⟨f1,f2,hT,_⟩:=hk.und
 show wpS P ρ ((underlying kt).bind _) σ Q
 rw [Ad]
 refine Az hT ?_
 have key:∀ l:List MapEntry,l ≠ []→Instr.findNow (.struct #[f1,f2]) (.agg #[.int .i64 a,.int .i64 b]) l 0 = none:=fun l hl=>by
  cases l with
  | nil=>exact absurd rfl hl
  | cons en l=>rfl
 cases hl:es.toList with
 | nil=>exact h0 fun en he=>by rw [hl] at he; cases he
 | cons en l =>
  have hnow:=key (en :: l) (by simp)
  simp only [hnow]
  refine Azs hk _ 0 (by rw [← hl]; exact hs) (fun hn=>h0 (by rw [hl]; exact hn)) fun j x hx hxk hxV=>?_
  have:=h1 j x (by rw [← Array.getElem?_toList,hl]; exact hx) hxk hxV
  simpa using this
theorem Baw {r ck:Nat} {kt et:TypeId} {a b:Int} {es:Array MapEntry} {L:List (Int × Int)} (hT:P.underlying t = some (.map kt et)) (hk:Key2 P kt) (hz:Fw P et (.bool false)) (hM:SetM es L) (hx:Af e x = .map (some r)) (hy:Af e y = .agg #[.int .i64 a,.int .i64 b]) (hi:(r,Res.obj (.map es ck)) ∈ A) :
  Aux P ρ₀ A e (.lookup t x y false) ty (.bool (decide ((a,b) ∈ L))):=fun ρ' σ d pos af g hS=>by
 show wpS P ρ' ((Instr.lookup t (Af e x) (Af e y) false).bind fun v=>Sem.pure (Next.value v)) σ _
 rw [Ad,hx,hy]
 show wpS P ρ' ((underlying t).bind _) σ _
 rw [Ad]
 refine Az hT ?_
 show wpS P ρ' ((getObj r).bind _) σ _
 rw [Ad]
 refine ⟨_,.inr (hS.2 _ hi),rfl,?_⟩
 show wpS P ρ' ((Instr.checkKey es.isEmpty 10000 kt _).bind _) σ _
 rw [Ad]
 refine Uu (m:=9998) hk ?_
 show wpS P ρ' ((Instr.findKey kt _ es.toList).bind _) σ _
 rw [Ad]
 refine Avs hk hM.memo (fun hn=>?_) fun j en _ _ hV=>?_
 ·have h0:(a,b) ∉ L:=fun hc=>let ⟨en,h1,h2⟩:=hM.mem hc; hn en h1 h2
  rw [decide_eq_false h0]
  show wpS P ρ' ((zeroValue et).bind _) σ _
  rw [Ad]
  exact Jz hz ⟨rfl,rfl⟩
 ·rw [decide_eq_true hV.1,hV.2]
  exact ⟨rfl,rfl⟩
/-- A spot that was not in the set. -/
theorem Bdc {i r clock:Nat} {kt et:TypeId} {a b:Int} {es:Array MapEntry} {L:List (Int × Int)} (hT:C.P.underlying t = some (.map kt et)) (hk:Key2 C.P kt) (hM:SetM es L) (hn:(a,b) ∉ L)
  (hx:Af e x = .map (some r)) (hy:Af e y = .agg #[.int .i64 a,.int .i64 b]) (hu:Af e u = .bool true) (hi:σ[i]? = some (r,.obj (.map es clock)))
  (h:∀ es' clock',SetM es' (L ++ [(a,b)])→K undef ds ρ (σ.set i (r,.obj (.map es' clock')))):wpS C.P ρ (execOp (Af e) ⟨dd,.mapUpdate t x y u,ty,pos,af,g⟩) σ (NextH C K rd ds ρ):=by
 show wpS C.P ρ ((Instr.mapUpdate t (Af e x) (Af e y) (Af e u)).bind _) σ _
 refine Rs ?_
 rw [hx,hy,hu]
 show wpS C.P ρ ((underlying t).bind _) σ _
 rw [Ad]
 refine Az hT ?_
 show wpS C.P ρ ((getObj r).bind _) σ _
 rw [Ad]
 refine ⟨_,.inr (List.mem_of_getElem? hi),rfl,?_⟩
 show wpS C.P ρ ((Instr.checkKey false 10000 kt _).bind _) σ _
 rw [Ad]
 refine Uu (m:=9998) hk ?_
 show wpS C.P ρ ((Instr.findKey kt _ es.toList).bind _) σ _
 rw [Ad]
 refine Avs hk hM.memo (fun _=>?_) fun j en hj hkey hV=>absurd hV.1 hn
 exact ⟨rfl,i,_,hi,rfl,h _ _ (hM.push (p:=(a,b)) hn)⟩
theorem Auh:Key2 Tryd.prog 93:=⟨⟨_,_,Bjj,⟨by decide,rfl,Bib⟩,⟨by decide,rfl,Bib⟩⟩,by kernel_rfl⟩
end
/-- Spots are few. -/
theorem Bbt {L:List (Int × Int)} (hn:L.Nodup) (h:∀ p ∈ L,(0 ≤ p.1∧p.1 ≤ 23)∧0 ≤ p.2∧p.2 ≤ 4):L.length ≤ 120:=by
 have h1:=Axm (dn:=L) (l:=(List.range 24).flatMap fun a=>(List.range 5).map fun b=>(((a:Nat):Int),((b:Nat):Int))) hn fun p hp=>by
  have hr:=h p hp
  refine List.mem_flatMap.2 ⟨p.1.toNat,List.mem_range.2 (by omega),List.mem_map.2 ⟨p.2.toNat,List.mem_range.2 (by omega),?_⟩⟩
  exact Prod.ext (by show ((p.1.toNat:Nat):Int) = p.1; omega) (by show ((p.2.toNat:Nat):Int) = p.2; omega)
 exact Nat.le_trans h1 (by decide)
end
section
set_option maxHeartbeats 1000000
open Go
variable {mn:Bool} {X:Frame→List Frame→Ro→Own→Cy→Prop} {ρ:Ro} {σ:Own}
theorem Bca  :CallsH (CX mn X) 61 #[(.map none)] ρ σ (rP ρ σ (.map none)):=by
 refine Bh (n:=9) (args:=[(.map none)]) [2] Bmc rfl rfl rfl rfl fun Q hret hnor=>w_q rfl rfl fun K1 k1=>Lo (.map none) (Ary rfl rfl k1 fun K2 K3 k2 k3=>Asf (.map none) (l_v (Aup (a:=none) Bjb rfl rfl) (l_k k3 (Co rfl rfl (w_q rfl rfl fun K4 k4=>Lo (.map none) (l_k k4 (Aq (hret _ _ _ ⟨rfl,rfl,eT (.map none) ?_⟩))))))))
 rfl
theorem Bcb {r ck:Nat} {es:Array MapEntry} {L:List (Int × Int)} (hM:SetM es L):CallsH (CX mn X) 61 #[(.map (some r))] ρ (((r,Res.obj (Obj.map es ck)) :: σ)) (fun w ρ' σ'=>ρ' = ρ∧∃ k,w = .map (some k)∧σ' = (k,.obj (.map es ck)) :: (r,.obj (.map es ck)) :: σ):=by
 refine Bh (n:=9) (args:=[(.map (some r))]) [2] Bmc rfl rfl rfl rfl fun Q hret hnor=>w_q rfl rfl fun K1 k1=>Lo (.map none) (Ary rfl rfl k1 fun K2 K3 k2 k3=>Asf (.map (some r)) (l_v (Aup (a:=(some r)) Bjb rfl rfl) (l_k k3 (Cg rfl rfl (Al (k2 _ _ _ _ ?_))))))
 refine w_q rfl rfl fun K4 k4=>Asf (.map (some r)) (l_v (Bbw Bjb rfl) (Beg rfl Tryd.func83 rfl rfl rfl rfl rfl (.inr (List.mem_cons_self ..)) fun k5=>l_v (Bdg Bjb rfl) (Lo (.map (some k5)) (l_k k4 (Aq (hret _ _ _ (⟨rfl,_,rfl,rfl⟩)))))))
end
section
set_option maxHeartbeats 1000000
open Go
theorem Bcy:GoTy Tryd.prog 91 MapRef:=⟨⟨_,Bjb,rfl⟩,⟨_,Ab Bku,rfl⟩⟩
theorem Aws:GoTy Tryd.prog 152 MapRef:=⟨⟨_,Bkw,rfl⟩,⟨_,Ab Tryd.typeInfo152,rfl⟩⟩
theorem Azp:GoTy Tryd.prog 117 RawV:=⟨⟨_,Tryd.underlying117,rfl⟩,⟨_,Ab Tryd.typeInfo117,rfl⟩⟩
def Atk (L:List (Int × Int)):Prop:=∀ p ∈ L,(0 ≤ p.1∧p.1 ≤ 23)∧0 ≤ p.2∧p.2 ≤ 4
theorem Avw:Atk []:=fun _ h=>by cases h
theorem Aut {L:List (Int × Int)} {s:Spot} (h:Atk L) (hs:Azt s):Atk (L ++ [(s.slot,s.picker)]):=fun p hp=>by
 rcases List.mem_append.1 hp with hp | hp
 ·exact h p hp
 ·rw [List.mem_singleton.1 hp]; exact hs
/-- A basket that has a place. -/
def Ayl (m:Morn) (_ _:Int) (w:Value):Prop:=∃ o:Int,w = .int .i64 o∧0 ≤ o∧o ≤ (m.baskets.length:Int) - 1
theorem Ben {es:Array MapEntry} {L:List (Int × Int)} (h:SetM es L) (hL:Atk L):L.length ≤ 120:=Bbt h.2 hL
theorem Bfh {es:Array MapEntry} {L:List (Int × Int)} {p:Int × Int} (h:SetM es (L ++ [p])) (hL:Atk (L ++ [p])) {L0:List (Int × Int)} (h0:L0.length ≤ L.length):120 - (L ++ [p]).length < 120 - L0.length:=by
 have:=Ben h hL
 rw [List.length_append,List.length_singleton] at this ⊢
 omega
set_option maxHeartbeats 1000000 in
theorem Bcf {mn:Bool} {X:Frame→List Frame→Ro→Own→Cy→Prop} {ρ:Ro} {σ:Own} {m:Morn} {al:List (List Spot)} {vp1 vp2 vp3 vp4:Value} {b:Int} {rt rk ck ck2 N:Nat} {es es2:Array MapEntry} {L:List (Int × Int)} (rp1:At ρ vp1 (Ptr.mk (⟨(⟨m⟩:MornP),al⟩:PPlan))) (rp2:At ρ vp2 (⟨rt⟩:MapRef)) (rp3:At ρ vp3 (⟨rk⟩:MapRef)) (rp4:At ρ vp4 (RawV.mk (.func (.func 62) #[] #[vp1,vp2,vp3,vp4]))) (hal:Avb m.baskets.length al) (hb:0 ≤ b∧b ≤ (m.baskets.length:Int) - 1) (hM:SetM es L) (hL:Atk L) (hT:Jo es2 (Ayl m)) (hN:N = 120 - L.length):CallsH (CX mn X) 62 #[(iV (b)),vp1,vp2,vp3,vp4] ρ (((rt,Res.obj (Obj.map es ck)) :: ((rk,Res.obj (Obj.map es2 ck2)) :: σ))) (fun w ρ' σ'=>ρ' = ρ∧∃ (L':List (Int × Int)) (es':Array MapEntry) (ck':Nat) (es2':Array MapEntry) (ck2':Nat) (bb:Bool),w = .bool bb∧σ' = (rt,.obj (.map es' ck')) :: (rk,.obj (.map es2' ck2')) :: σ∧SetM es' L'∧Atk L'∧L.length ≤ L'.length∧Jo es2' (Ayl m)):=by
 induction N using Nat.strongRecOn generalizing b L es ck es2 ck2 ρ
 rename_i N ih
 have hall:=hal.1
 refine Bh (n:=45) (args:=[(iV (b)),vp1,vp2,vp3,vp4]) [6] Bmd rfl rfl rfl rfl fun Q hret hnor=>w_q rfl rfl fun K1 k1=>Lo (.bool (false)) (Ary rfl rfl k1 fun K2 K3 k2 k3=>Arw (Ax Awq rfl rp1) fun v4 r4=>?_)
 replace r4:=Ir.1 r4
 refine l_v (Hj rfl r4) (Arw (Ay PPlan.f_all Bkb rfl rfl Ayj (by decide) rfl r4) fun v5 r5=>Arw (Ax Ayj rfl r5) fun v6 r6=>Asf (iV (b)) ?_)
 obtain ⟨a8,ha8⟩:=Ed (xs:=al) (i:=(b).toNat) (by omega)
 have hSa8:=hal.2 _ _ ha8
 refine Arw (Ch ((b).toNat) Bkg Awr rfl r6 (q:=b) rfl (by omega) ha8) fun v7 r7=>Arw (Ax Awr rfl r7) fun v9 r9=>?_
 have g10:=Bmn r9
 refine l_v (Ci (el:=93) Bka rfl r9) (Asf (iV (0)) (l_k k3 (Ao (Cc (fun mm ee dd ρ' σ'=>∃ (i:Nat) (se11_rt:Array MapEntry) (sc11_rt:Nat) (Lx:List (Int × Int)) (me11_rk:Array MapEntry) (mc11_rk:Nat),(a8.length - i) = mm∧[] = dd∧ρ = ρ'∧((rt,Res.obj (Obj.map se11_rt sc11_rt)) :: ((rk,Res.obj (Obj.map me11_rk mc11_rk)) :: σ)) = σ'∧ee 0 = (iV (b))∧ee 2 = vp2∧ee 3 = vp3∧ee 4 = vp4∧ee 17 = v9∧ee 18 = (iV (((a8.length:Nat):Int)))∧ee 19 = (iV ((i:Int)))∧(i ≤ a8.length)∧(Atk Lx)∧(L.length ≤ Lx.length)∧(SetM se11_rt Lx)∧Jo me11_rk (Ayl m)∧True) (m:=_) ⟨0,es,ck,L,es2,ck2,rfl,rfl,rfl,rfl,rfl,rfl,rfl,rfl,rfl,rfl,rfl,(Nat.zero_le _),hL,(Nat.le_refl _),hM,hT,trivial⟩ ?_))))
 rintro m11 e11 _ _ _ ⟨i,se11_rt,sc11_rt,Lx,me11_rk,mc11_rk,rfl,rfl,rfl,rfl,h11_0,h11_2,h11_3,h11_4,h11_17,h11_18,h11_19,p11_0,p11_1,p11_2,p11_3,MQ11_rk,_⟩
 refine w_q rfl rfl fun K12 k12=>l_v (Da h11_19 h11_18) (Asa k12 fun K13 k13=>Asg (t:=decide ((i:Int) < ((a8.length:Nat):Int))) rfl (fun b14=>?_) (fun b14=>?_))
 ·have q14:=of_decide_eq_true b14
  refine Al (k13 _ _ _ _ ?_)
  refine Ai fun K15 k15=>Ao (w_q rfl rfl fun K16 k16=>?_)
  obtain ⟨a18,ha18⟩:=Ed (xs:=a8) (i:=i) (by omega)
  have hspa18:=hSa8 _ _ ha18
  refine Arw (Ch i Bka Atf h11_17 r9 (q:=(i:Int)) h11_19 rfl ha18) fun v17 r17=>Arw (Ax Atf rfl r17) fun v19 r19=>Arv (Ct Awy fun k20=>?_)
  refine Cx rfl (Dv (v:=v19) (a:=a18) (c:=Bao) Atf rfl rfl r19 rfl ?_)
  refine Bb (a:=a18) r19 fun ρ21 l21 r21=>?_
  replace rp1:=Bmg l21 rp1
  replace rp2:=Bmg l21 rp2
  replace rp3:=Bmg l21 rp3
  replace rp4:=Bmg l21 rp4
  refine Ary rfl rfl k16 fun K22 K23 k22 k23=>l_v (Va Bcy h11_2 rp2) (Arw (Ax Atf rfl r21) fun v25 r25=>?_)
  obtain ⟨e26_,⟨i26_1a,i26_1b⟩,⟨i26_2a,i26_2b⟩⟩:=Spot.open_ r25
  have e26_c:v25.cells = [(iV (a18.slot)),(iV (a18.picker))].toArray:=by rw [e26_]; rfl
  refine Bcn ⟨Bml,fun _ h=>h⟩ rfl (Baw Bjb Auh zr4 p11_3 rfl (rfl.trans e26_) (List.mem_cons_self ..)) (l_k k23 (Asg (t:=decide ((a18.slot,a18.picker) ∈ Lx)) rfl (fun b27=>?_) (fun b27=>?_)))
  ·have q27:=of_decide_eq_true b27
   refine Bx (k15 _ _ _ _ ?_)
   refine Ag rfl rfl (l_v (Br h11_19 rfl (z:=(((i + 1):Nat):Int)) wrE) (Asf (iV ((((i + 1):Nat):Int))) (Bj (Bmi l21) (Ac ?_))))
   refine ⟨_,?_,((i + 1)),(se11_rt),(sc11_rt),(Lx),me11_rk,mc11_rk,rfl,rfl,rfl,rfl,h11_0,h11_2,h11_3,h11_4,h11_17,h11_18,rfl,(by omega),p11_1,(by omega),p11_3,MQ11_rk,trivial⟩
   omega
  have q27:=of_decide_eq_false b27
  refine Al (k22 _ _ _ _ ?_)
  refine w_q rfl rfl fun K28 k28=>l_v (Va Bcy h11_2 rp2) (Arw (Ax Atf rfl r21) fun v30 r30=>?_)
  obtain ⟨e32_,⟨i32_1a,i32_1b⟩,⟨i32_2a,i32_2b⟩⟩:=Spot.open_ r30
  have e32_c:v30.cells = [(iV (a18.slot)),(iV (a18.picker))].toArray:=by rw [e32_]; rfl
  refine Cx rfl (Bdc (i:=0) Bjb Auh p11_3 q27 rfl (rfl.trans e32_) rfl rfl fun es31 ck31 SM31=>?_)
  refine Arx rfl rfl k28 fun K33 k33=>l_v (Va Aws h11_3 rp3) (Arw (Ax Atf rfl r21) fun v35 r35=>?_)
  obtain ⟨e36_,⟨i36_1a,i36_1b⟩,⟨i36_2a,i36_2b⟩⟩:=Spot.open_ r35
  have e36_c:v35.cells = [(iV (a18.slot)),(iV (a18.picker))].toArray:=by rw [e36_]; rfl
  refine Arv (Xp (i:=1) (kt:=93) (et:=3) (a:=a18.slot) (b:=a18.picker) Bkw Auh zr3 MQ11_rk rfl (rfl.trans e36_) rfl ?_ fun w37 hw37=>?_)
  ·refine Asf (.tuple #[(iV (0)),(.bool (false))]) (l_v (Bk (vs:=#[(iV (0)),(.bool (false))]) rfl (v:=(iV (0))) rfl) (l_v (Bk (vs:=#[(iV (0)),(.bool (false))]) rfl (v:=(.bool (false))) rfl) (Lo (iV (0)) (Lo (.bool (false)) (Arx rfl rfl k33 fun K38 k38=>Asf (.bool (false)) (l_v (Iy rfl) (Asf (.bool (!(false))) (Ap (gN rfl (not_f rfl)) (Ap (gN rfl (not_f rfl)) (Ap (gN rfl (not_f rfl)) (l_v (Bt rfl (not_f rfl) (v:=(.bool (true))) rfl) (l_k k38 (Co rfl rfl (w_q rfl rfl fun K39 k39=>l_v (Va Aws h11_3 rp3) (Arw (Ax Atf rfl r21) fun v41 r41=>l_v (Ah (v:=(iV (b))) h11_0) ?_)))))))))))))))
   obtain ⟨e42_,⟨i42_1a,i42_1b⟩,⟨i42_2a,i42_2b⟩⟩:=Spot.open_ r41
   have e42_c:v41.cells = [(iV (a18.slot)),(iV (a18.picker))].toArray:=by rw [e42_]; rfl
   refine Cx rfl (Afs (i:=1) (kt:=93) (et:=3) (a:=a18.slot) (b:=a18.picker) (w:=(iV (b))) Bkw Auh MQ11_rk ⟨b,rfl,hb⟩ rfl (rfl.trans e42_) rfl rfl fun es43 ck43 MM43=>?_)
   refine Arx rfl rfl k39 fun K44 k44=>Lo (.bool (true)) (l_k k44 (Aj (Bmi l21) (Aq (hret _ _ _ (⟨rfl,_,_,_,_,_,true,rfl,rfl,SM31,(Aut p11_1 hspa18),(by rw [List.length_append,List.length_singleton]; omega),MM43⟩)))))
  obtain ⟨o45,rfl,ho45⟩:=hw37
  refine Asf (.tuple #[(iV (o45)),(.bool (true))]) (l_v (Bk (vs:=#[(iV (o45)),(.bool (true))]) rfl (v:=(iV (o45))) rfl) (l_v (Bk (vs:=#[(iV (o45)),(.bool (true))]) rfl (v:=(.bool (true))) rfl) (Lo (iV (o45)) (Lo (.bool (true)) (Arx rfl rfl k33 fun K46 k46=>Asf (.bool (true)) (l_v (Iy rfl) (Asf (.bool (!(true))) (Aa (gY rfl (not_t rfl)) (Lb Azp h11_4 rp4) (l_M (iV (o45)) (gY rfl (not_t rfl)) rfl ?_)))))))))
  have hLa48:=Aut p11_1 hspa18
  refine Ae (gY rfl (not_t rfl)) (Sq (vs:=[(iV (o45))]) (caps:=[vp1,vp2,vp3,vp4]) rfl (ih _ (hN ▸ Bfh SM31 hLa48 p11_2) rp1 rp2 rp3 rp4 ho45 SM31 hLa48 MQ11_rk rfl) Bmd rfl rfl ⟨rfl,trivial⟩ fun w49 ρ49 σ49 hc49=>?_)
  obtain ⟨hr49,L49,fs49,fc49,ft49,fd49,bb49,hw49,hs49,SM49,hL49,hl49,MM49⟩:=hc49
  replace hr49:=hr49.symm; subst hr49 hs49 hw49
  rw [List.length_append,List.length_singleton] at hl49
  refine l_v (Bn rfl (not_t rfl) (v:=(.bool (bb49))) rfl) (l_k k46 (Asg (t:=bb49) rfl (fun b50=>?_) (fun b50=>?_)))
  ·refine w_q rfl rfl fun K51 k51=>l_v (Va Aws h11_3 rp3) (Arw (Ax Atf rfl r21) fun v53 r53=>l_v (Ah (v:=(iV (b))) h11_0) ?_)
   obtain ⟨e54_,⟨i54_1a,i54_1b⟩,⟨i54_2a,i54_2b⟩⟩:=Spot.open_ r53
   have e54_c:v53.cells = [(iV (a18.slot)),(iV (a18.picker))].toArray:=by rw [e54_]; rfl
   refine Cx rfl (Afs (i:=1) (kt:=93) (et:=3) (a:=a18.slot) (b:=a18.picker) (w:=(iV (b))) Bkw Auh MM49 ⟨b,rfl,hb⟩ rfl (rfl.trans e54_) rfl rfl fun es55 ck55 MM55=>?_)
   refine Arx rfl rfl k51 fun K56 k56=>Lo (.bool (true)) (l_k k56 (Aj (Bmi l21) (Aq (hret _ _ _ (⟨rfl,_,_,_,_,_,true,rfl,rfl,SM49,hL49,(by omega),MM55⟩)))))
  refine Al (k15 _ _ _ _ ?_)
  refine Ag rfl rfl (l_v (Br h11_19 rfl (z:=(((i + 1):Nat):Int)) wrE) (Asf (iV ((((i + 1):Nat):Int))) (Bj (Bmi l21) (Ac ?_))))
  refine ⟨_,?_,((i + 1)),(fs49),(fc49),(L49),ft49,fd49,rfl,rfl,rfl,rfl,h11_0,h11_2,h11_3,h11_4,h11_17,h11_18,rfl,(by omega),hL49,(by omega),SM49,MM49,trivial⟩
  omega
 have q14:=of_decide_eq_false b14
 refine Bx (k2 _ _ _ _ ?_)
 refine w_q rfl rfl fun K57 k57=>Lo (.bool (false)) (l_k k57 (Aq (hret _ _ _ (⟨rfl,_,_,_,_,_,false,rfl,rfl,p11_3,p11_1,p11_2,MQ11_rk⟩))))
end
section
open Go
section
variable {C:Ctx} {n:Nat} {e:Env} {ds:List Deferred} {ρ ρ₀:Ro} {σ A:Own} {K:Value→List Deferred→Ro→Own→Prop} {rd:Option Nat} {dd:Option Tmp}
variable {ty:TypeId} {pos:String} {af:Array Edge} {g:Option (Nat × Bool)} {x y:Operand} {v:Value} {t t':TypeId} {op:Op}
end
def OGrow (ρ:Ro) (E:List OEnt):Prop:=∀ z ∈ E,Grow ρ 3 z.v z.l z.g∧z.l ≠ []
theorem OGrow.mono {ρ ρ':Ro} (hle:Ro.le ρ ρ') {E:List OEnt} (h:OGrow ρ E):OGrow ρ' E:=fun z hz=>⟨(h z hz).1.mono hle,(h z hz).2⟩
end
section
set_option maxHeartbeats 1000000
open Go
theorem Bdq:Fw Tryd.prog 91 (.map none):=⟨_,Ab Bku,rfl⟩
theorem Bdr:Fw Tryd.prog 152 (.map none):=⟨_,Ab Tryd.typeInfo152,rfl⟩
def Bdo:List Value:=[.map none]
def Bff:List Value:=[.nilFunc]
theorem Bfg:Fw Tryd.prog 117 .nilFunc:=⟨_,Ab Tryd.typeInfo117,rfl⟩
variable {mn:Bool} {X:Frame→List Frame→Ro→Own→Cy→Prop} {ρ:Ro} {σ:Own}
set_option maxHeartbeats 1000000 in
theorem Bce {m:Morn} {al:List (List Spot)} {vp vl:Value} {l:List Int}  (rp:At ρ vp (⟨(⟨m⟩:MornP),al⟩:PPlan)) (rl:Val ρ vl l) (hal:Avb m.baskets.length al) (hl:Att m l):CallsH (CX mn X) 28 #[vp,vl,(.map none)] ρ σ (fun w ρ' σ'=>ρ' = ρ∧σ' = σ∧∃ b,w = .bool b):=by
 refine Bh (n:=30) (args:=[vp,vl,(.map none)]) [6] Blj rfl rfl rfl rfl fun Q hret hnor=>w_q rfl rfl fun K1 k1=>Arv (Eb (v:=vp) rfl fun k2=>?_)
 refine Bb (a:=(Ptr.mk ((⟨(⟨m⟩:MornP),al⟩:PPlan)))) (Ir.2 rp) fun ρ2 l2 r2=>?_
 replace rl:=Bmo l2 rl
 refine Lo (.bool (false)) (Arx rfl rfl k1 fun K3 k3=>Arv (Oh fun k4=>?_))
 refine Arv (Ct Bdr fun k5=>?_)
 refine Cx rfl (Dv (v:=(.map (some k4))) (a:=(⟨k4⟩:MapRef)) (c:=Bdo) Aws rfl rfl Auw rfl ?_)
 refine Bb (a:=(⟨k4⟩:MapRef)) Auw fun ρ6 l6 r6=>?_
 replace rl:=Bmo l6 rl
 replace r2:=Bmg l6 r2
 refine Ary rfl rfl k3 fun K7 K8 k7 k8=>Asf vl ?_
 have g9:=Bmn rl
 refine l_v (Ci (el:=3) Bhy rfl rl) (Asf (iV (0)) (l_k k8 (Ao (Cc (fun mm ee dd ρ' σ'=>∃ (i:Nat) (me10_k4:Array MapEntry) (mc10_k4:Nat),(l.length - i) = mm∧[] = dd∧ρ6 = ρ'∧((k4,Res.obj (Obj.map me10_k4 mc10_k4)) :: σ) = σ'∧ee 2 = (.map none)∧ee 3 = (.pointer (some ⟨k2,0,none⟩))∧ee 7 = (.pointer (some ⟨k5,0,none⟩))∧ee 13 = vl∧ee 14 = (iV (((l.length:Nat):Int)))∧ee 15 = (iV ((i:Int)))∧(i ≤ l.length)∧Jo me10_k4 (Ayl m)∧True) (m:=_) ⟨0,#[],0,rfl,rfl,rfl,rfl,rfl,rfl,rfl,rfl,rfl,rfl,(Nat.zero_le _),Aii,trivial⟩ ?_))))
 rintro m10 e10 _ _ _ ⟨i,me10_k4,mc10_k4,rfl,rfl,rfl,rfl,h10_2,h10_3,h10_7,h10_13,h10_14,h10_15,p10_0,MQ10_k4,_⟩
 refine w_q rfl rfl fun K11 k11=>l_v (Da h10_15 h10_14) (Asa k11 fun K12 k12=>Asg (t:=decide ((i:Int) < ((l.length:Nat):Int))) rfl (fun b13=>?_) (fun b13=>?_))
 ·have q13:=of_decide_eq_true b13
  refine Al (k12 _ _ _ _ ?_)
  refine Ai fun K14 k14=>Ao (w_q rfl rfl fun K15 k15=>?_)
  obtain ⟨a17,ha17⟩:=Ed (xs:=l) (i:=i) (by omega)
  have hbia17:=hl i a17 ha17
  refine Arw (Ch i Bhy ty3 h10_13 rl (q:=(i:Int)) h10_15 rfl ha17) fun v16 r16=>?_
  have ⟨g18a,g18b⟩:=At.rng r16
  refine l_v (Bc ty3 rfl r16) (Lo (iV (a17)) (Arx rfl rfl k15 fun K19 k19=>l_v (Ah (v:=(.map none)) h10_2) (Arv (Bm (Bca) Bmc rfl rfl ⟨rfl,trivial⟩ ?_))))
  refine Arv (Ct Bdq fun k20=>?_)
  refine Cx rfl (Cz (j:=0) (v:=(.map none)) ⟨_,Ab Bku,rfl⟩ rfl rfl rfl rfl (Nat.le_of_ble_eq_true rfl) ?_)
  refine Ary rfl rfl k19 fun K21 K22 k21 k22=>Arv (Dt (i:=0) (v:=(.map none)) ⟨_,Bjb,rfl⟩ rfl rfl rfl ?_)
  refine l_v (Aup (a:=none) Bjb rfl rfl) (l_k k22 (Co rfl rfl (Ag rfl rfl (Arv (Oh fun k23=>?_)))))
  refine Cx rfl (Cz (j:=1) (v:=(.map (some k23))) ⟨_,Ab Bku,rfl⟩ rfl rfl rfl rfl (Nat.le_of_ble_eq_true rfl) ?_)
  refine Asa k21 fun K24 k24=>Aj (Bmj Arz) (Nt (a:=(⟨k23⟩:MapRef)) (v:=(.map (some k23))) Auw fun ρ25 l25 r25=>?_)
  replace r2:=Bmg l25 r2
  replace r6:=Bmg l25 r6
  refine Ag rfl rfl (Arv (Ct Bfg fun k26=>?_))
  refine Arx rfl rfl k24 fun K27 k27=>l_v (Il (fn:=.func 62) (caps:=[.tmp 3,.tmp 10,.tmp 7,.tmp 11]) (vs:=[(.pointer (some ⟨k2,0,none⟩)),(.pointer (some ⟨k20,0,none⟩)),(.pointer (some ⟨k5,0,none⟩)),(.pointer (some ⟨k26,0,none⟩))]) ⟨h10_3,rfl,h10_7,rfl,trivial⟩) (Cx rfl (Dv (v:=(.func (.func 62) #[] #[(.pointer (some ⟨k2,0,none⟩)),(.pointer (some ⟨k20,0,none⟩)),(.pointer (some ⟨k5,0,none⟩)),(.pointer (some ⟨k26,0,none⟩))])) (a:=(RawV.mk ((.func (.func 62) #[] #[(.pointer (some ⟨k2,0,none⟩)),(.pointer (some ⟨k20,0,none⟩)),(.pointer (some ⟨k5,0,none⟩)),(.pointer (some ⟨k26,0,none⟩))])))) (c:=Bff) Azp rfl rfl (Sp rfl) rfl ?_))
  refine Bb (a:=(RawV.mk ((.func (.func 62) #[] #[(.pointer (some ⟨k2,0,none⟩)),(.pointer (some ⟨k20,0,none⟩)),(.pointer (some ⟨k5,0,none⟩)),(.pointer (some ⟨k26,0,none⟩))])))) (Sp rfl) fun ρ28 l28 r28=>?_
  replace r2:=Bmg l28 r2
  replace r6:=Bmg l28 r6
  replace r25:=Bmg l28 r25
  refine Arx rfl rfl k27 fun K29 k29=>l_v (Lb Azp rfl r28) (Asf (iV (a17)) (Bj (Bmj Arz) (Bj (Bmj Arz) (Arv (Sq (vs:=[(iV (a17))]) (caps:=[(.pointer (some ⟨k2,0,none⟩)),(.pointer (some ⟨k20,0,none⟩)),(.pointer (some ⟨k5,0,none⟩)),(.pointer (some ⟨k26,0,none⟩))]) rfl (Bcf (N:=_) r2 r25 r6 r28 hal hbia17 Azn Avw MQ10_k4 rfl) Bmd rfl rfl ⟨rfl,trivial⟩ fun w31 ρ31 σ31 hc31=>?_)))))
  obtain ⟨hr31,L31,fs31,fc31,ft31,fd31,bb31,hw31,hs31,SM31,hL31,hl31,MM31⟩:=hc31
  replace hr31:=hr31.symm; subst hr31 hs31 hw31
  refine l_v (Iy rfl) (l_k k29 (Asg (t:=!(bb31)) rfl (fun b32=>?_) (fun b32=>?_)))
  ·have b33:=not_eq_t b32
   refine w_q rfl rfl fun K34 k34=>Lo (.bool (false)) (l_k k34 (Aj Bmh (Aj Bmh (Aj (Bmi (Bmm (Bmm (Bmm l2 l6) l25) l28)) (Aq (hret _ _ _ (⟨rfl,rfl,_,rfl⟩)))))))
  have b35:=not_eq_f b32
  refine Al (k14 _ _ _ _ ?_)
  refine Ag rfl rfl (l_v (Br h10_15 rfl (z:=(((i + 1):Nat):Int)) wrE) (Asf (iV ((((i + 1):Nat):Int))) (Bj Bmh (Bj (Bmi (Bmm l25 l28)) (Ac ?_)))))
  refine ⟨_,?_,((i + 1)),ft31,fd31,rfl,rfl,rfl,rfl,h10_2,h10_3,h10_7,h10_13,h10_14,rfl,(by omega),MM31,trivial⟩
  omega
 have q13:=of_decide_eq_false b13
 refine Bx (k7 _ _ _ _ ?_)
 refine w_q rfl rfl fun K36 k36=>Lo (.bool (true)) (l_k k36 (Aj Bmh (Aj (Bmi (Bmm l2 l6)) (Aq (hret _ _ _ (⟨rfl,rfl,_,rfl⟩))))))
set_option maxHeartbeats 1000000 in
theorem Bfn {m:Morn} {al:List (List Spot)} {vp vl:Value} {l:List Int} {r ck:Nat} {es:Array MapEntry} {L:List (Int × Int)} (rp:At ρ vp (⟨(⟨m⟩:MornP),al⟩:PPlan)) (rl:Val ρ vl l) (hal:Avb m.baskets.length al) (hl:Att m l) (hM:SetM es L) (hLi:Atk L):CallsH (CX mn X) 28 #[vp,vl,(.map (some r))] ρ (((r,Res.obj (Obj.map es ck)) :: σ)) (fun w ρ' σ'=>ρ' = ρ∧σ' = (r,.obj (.map es ck)) :: σ∧∃ b,w = .bool b):=by
 refine Bh (n:=30) (args:=[vp,vl,(.map (some r))]) [6] Blj rfl rfl rfl rfl fun Q hret hnor=>w_q rfl rfl fun K1 k1=>Arv (Eb (v:=vp) rfl fun k2=>?_)
 refine Bb (a:=(Ptr.mk ((⟨(⟨m⟩:MornP),al⟩:PPlan)))) (Ir.2 rp) fun ρ2 l2 r2=>?_
 replace rl:=Bmo l2 rl
 refine Lo (.bool (false)) (Arx rfl rfl k1 fun K3 k3=>Arv (Oh fun k4=>?_))
 refine Arv (Ct Bdr fun k5=>?_)
 refine Cx rfl (Dv (v:=(.map (some k4))) (a:=(⟨k4⟩:MapRef)) (c:=Bdo) Aws rfl rfl Auw rfl ?_)
 refine Bb (a:=(⟨k4⟩:MapRef)) Auw fun ρ6 l6 r6=>?_
 replace rl:=Bmo l6 rl
 replace r2:=Bmg l6 r2
 refine Ary rfl rfl k3 fun K7 K8 k7 k8=>Asf vl ?_
 have g9:=Bmn rl
 refine l_v (Ci (el:=3) Bhy rfl rl) (Asf (iV (0)) (l_k k8 (Ao (Cc (fun mm ee dd ρ' σ'=>∃ (i:Nat) (me10_k4:Array MapEntry) (mc10_k4:Nat),(l.length - i) = mm∧[] = dd∧ρ6 = ρ'∧((k4,Res.obj (Obj.map me10_k4 mc10_k4)) :: ((r,Res.obj (Obj.map es ck)) :: σ)) = σ'∧ee 2 = (.map (some r))∧ee 3 = (.pointer (some ⟨k2,0,none⟩))∧ee 7 = (.pointer (some ⟨k5,0,none⟩))∧ee 13 = vl∧ee 14 = (iV (((l.length:Nat):Int)))∧ee 15 = (iV ((i:Int)))∧(i ≤ l.length)∧Jo me10_k4 (Ayl m)∧True) (m:=_) ⟨0,#[],0,rfl,rfl,rfl,rfl,rfl,rfl,rfl,rfl,rfl,rfl,(Nat.zero_le _),Aii,trivial⟩ ?_))))
 rintro m10 e10 _ _ _ ⟨i,me10_k4,mc10_k4,rfl,rfl,rfl,rfl,h10_2,h10_3,h10_7,h10_13,h10_14,h10_15,p10_0,MQ10_k4,_⟩
 refine w_q rfl rfl fun K11 k11=>l_v (Da h10_15 h10_14) (Asa k11 fun K12 k12=>Asg (t:=decide ((i:Int) < ((l.length:Nat):Int))) rfl (fun b13=>?_) (fun b13=>?_))
 ·have q13:=of_decide_eq_true b13
  refine Al (k12 _ _ _ _ ?_)
  refine Ai fun K14 k14=>Ao (w_q rfl rfl fun K15 k15=>?_)
  obtain ⟨a17,ha17⟩:=Ed (xs:=l) (i:=i) (by omega)
  have hbia17:=hl i a17 ha17
  refine Arw (Ch i Bhy ty3 h10_13 rl (q:=(i:Int)) h10_15 rfl ha17) fun v16 r16=>?_
  have ⟨g18a,g18b⟩:=At.rng r16
  refine l_v (Bc ty3 rfl r16) (Lo (iV (a17)) (Arx rfl rfl k15 fun K19 k19=>l_v (Ah (v:=(.map (some r))) h10_2) (Bj (Bmj Arz) (Arv (Cm (vs:=[(.map (some r))]) (Bcb hM) Bmc rfl rfl ⟨rfl,trivial⟩ fun w20 ρ20 σ20 hc20=>?_)))))
  obtain ⟨hr20,k20,hw20,hs20⟩:=hc20
  replace hr20:=hr20.symm; subst hr20 hs20 hw20
  refine Arv (Ct Bdq fun k21=>?_)
  refine Cx rfl (Cz (j:=0) (v:=(.map (some k20))) ⟨_,Ab Bku,rfl⟩ rfl rfl rfl rfl (Nat.le_of_ble_eq_true rfl) ?_)
  refine Ary rfl rfl k19 fun K22 K23 k22 k23=>Arv (Dt (i:=0) (v:=(.map (some k20))) ⟨_,Bjb,rfl⟩ rfl rfl rfl ?_)
  refine l_v (Aup (a:=(some k20)) Bjb rfl rfl) (l_k k23 (Cg rfl rfl (Al (k22 _ _ _ _ ?_))))
  refine Ai fun K24 k24=>Nt (a:=(⟨k20⟩:MapRef)) (v:=(.map (some k20))) Auw fun ρ25 l25 r25=>?_
  replace r2:=Bmg l25 r2
  replace r6:=Bmg l25 r6
  refine Ag rfl rfl (Arv (Ct Bfg fun k26=>?_))
  refine Arx rfl rfl k24 fun K27 k27=>l_v (Il (fn:=.func 62) (caps:=[.tmp 3,.tmp 10,.tmp 7,.tmp 11]) (vs:=[(.pointer (some ⟨k2,0,none⟩)),(.pointer (some ⟨k21,0,none⟩)),(.pointer (some ⟨k5,0,none⟩)),(.pointer (some ⟨k26,0,none⟩))]) ⟨h10_3,rfl,h10_7,rfl,trivial⟩) (Cx rfl (Dv (v:=(.func (.func 62) #[] #[(.pointer (some ⟨k2,0,none⟩)),(.pointer (some ⟨k21,0,none⟩)),(.pointer (some ⟨k5,0,none⟩)),(.pointer (some ⟨k26,0,none⟩))])) (a:=(RawV.mk ((.func (.func 62) #[] #[(.pointer (some ⟨k2,0,none⟩)),(.pointer (some ⟨k21,0,none⟩)),(.pointer (some ⟨k5,0,none⟩)),(.pointer (some ⟨k26,0,none⟩))])))) (c:=Bff) Azp rfl rfl (Sp rfl) rfl ?_))
  refine Bb (a:=(RawV.mk ((.func (.func 62) #[] #[(.pointer (some ⟨k2,0,none⟩)),(.pointer (some ⟨k21,0,none⟩)),(.pointer (some ⟨k5,0,none⟩)),(.pointer (some ⟨k26,0,none⟩))])))) (Sp rfl) fun ρ28 l28 r28=>?_
  replace r2:=Bmg l28 r2
  replace r6:=Bmg l28 r6
  replace r25:=Bmg l28 r25
  refine Arx rfl rfl k27 fun K29 k29=>l_v (Lb Azp rfl r28) (Asf (iV (a17)) (Bj (Bmj ((p_c Arz).trans Arz)) (Bj (Bmj Arz) (Arv (Sq (vs:=[(iV (a17))]) (caps:=[(.pointer (some ⟨k2,0,none⟩)),(.pointer (some ⟨k21,0,none⟩)),(.pointer (some ⟨k5,0,none⟩)),(.pointer (some ⟨k26,0,none⟩))]) rfl (Bcf (N:=_) r2 r25 r6 r28 hal hbia17 hM hLi MQ10_k4 rfl) Bmd rfl rfl ⟨rfl,trivial⟩ fun w31 ρ31 σ31 hc31=>?_)))))
  obtain ⟨hr31,L31,fs31,fc31,ft31,fd31,bb31,hw31,hs31,SM31,hL31,hl31,MM31⟩:=hc31
  replace hr31:=hr31.symm; subst hr31 hs31 hw31
  refine l_v (Iy rfl) (l_k k29 (Asg (t:=!(bb31)) rfl (fun b32=>?_) (fun b32=>?_)))
  ·have b33:=not_eq_t b32
   refine w_q rfl rfl fun K34 k34=>Lo (.bool (false)) (l_k k34 (Aj Bmh (Aj Bmh (Aj (Bmi (Bmm (Bmm (Bmm l2 l6) l25) l28)) (Aq (hret _ _ _ (⟨rfl,rfl,_,rfl⟩)))))))
  have b35:=not_eq_f b32
  refine Al (k14 _ _ _ _ ?_)
  refine Ag rfl rfl (l_v (Br h10_15 rfl (z:=(((i + 1):Nat):Int)) wrE) (Asf (iV ((((i + 1):Nat):Int))) (Bj Bmh (Bj (Bmi (Bmm l25 l28)) (Ac ?_)))))
  refine ⟨_,?_,((i + 1)),ft31,fd31,rfl,rfl,rfl,rfl,h10_2,h10_3,h10_7,h10_13,h10_14,rfl,(by omega),MM31,trivial⟩
  omega
 have q13:=of_decide_eq_false b13
 refine Bx (k7 _ _ _ _ ?_)
 refine w_q rfl rfl fun K36 k36=>Lo (.bool (true)) (l_k k36 (Aj Bmh (Aj (Bmi (Bmm l2 l6)) (Aq (hret _ _ _ (⟨rfl,rfl,_,rfl⟩))))))
end
section
set_option maxHeartbeats 1000000
open Go
/-- A function value that hands values,each of which is as D says,to the function that it gets,as long as that yields true. -/
def Bbx (f:Value) (ρ₀:Ro) (D:Ro→Value→Prop):Prop :=
 ∃ (k:FuncId) (fn:Func) (caps:List Value),f = .func (.func k) #[] caps.toArray∧Tryd.prog.funcs[k]? = some fn∧(fn.name == "runtime.NumGoroutine") = false∧fn.body.isNone = false ∧
  ∀ (mn:Bool) (X:Frame→List Frame→Ro→Own→Cy→Prop) (l:Nat) (I:Ro→Own→Prop) (ρ:Ro) (σ:Own),Ro.le ρ₀ ρ→(∀ ρ ρ' σ,Ro.le ρ ρ'→I ρ σ→I ρ' σ)→I ρ σ →
   (∀ x ρ' σ',D ρ' x→Ro.le ρ ρ'→I ρ' σ'→Acp (CX mn X) l x ρ' σ' (fun v ρ'' σ''=>v = .bool true∧Ro.le ρ' ρ''∧I ρ'' σ'')) →
   CallsH (CX mn X) k (.func (.yield l) #[] #[] :: caps).toArray ρ σ (fun _ ρ' σ'=>Ro.le ρ ρ'∧I ρ' σ')
section
variable {mn:Bool} {X:Frame→List Frame→Ro→Own→Cy→Prop} {b:FB} {n:Nat} {e:Env} {ds:List Deferred} {ρ:Ro} {σ:Own} {K:Value→List Deferred→Ro→Own→Prop} {rd:Option Nat} {dd:Option Tmp}
variable {ty:TypeId} {pos:String} {af:Array Edge} {g:Option (Nat × Bool)} {x y:Operand} {v p:Value} {t t':TypeId}
theorem Axf {f:Operand} {q:Nat} {assign body:Code} {Q:Hu} {fv:Value} {D:Ro→Value→Prop} (J:Ro→Own→Prop) (hr:b.round = none) (hk:b.kind = .normal) (hq:q < n) (hf:Af e f = fv) (hF:Bbx fv ρ D)
  (hJm:∀ ρ ρ' σ,Ro.le ρ ρ'→J ρ σ→J ρ' σ) (hJ:J ρ σ)
  (hbody:∀ l x ρ' τ,D ρ' x→Ro.le ρ ρ'→J ρ' τ→∀ pfx:Own,
   WpC (CX mn X) ⟨b.fn,.normal,some l⟩ n assign (fun ex e1 ds1 ρ1 σ1=>ex = .normal∧ds1 = []∧Ro.le ρ' ρ1∧∃ τ1,σ1 = pfx ++ τ1 ∧
    ∀ pfx2:Own,WpC (CX mn X) ⟨b.fn,.normal,some l⟩ n body (fun ex _ _ ρ2 σ2=>ex = .normal∧Ro.le ρ1 ρ2∧∃ τ2,σ2 = pfx2 ++ τ2∧J ρ2 τ2) e1 [] ρ1 (pfx2 ++ τ1)) (upd e q x) [] ρ' (pfx ++ τ))
  (hend:∀ r ρ' τ,Ro.le ρ ρ'→J ρ' τ→Q .normal e ({ target:=.collected r,args:=#[] } :: ds) ρ' ((r,.obj (.deferred (some []))) :: τ)) :
  WpC (CX mn X) b n (.rangeFunc f #[q] assign body) Q e ds ρ σ:=by
 intro tm k cs ht
 obtain ⟨kk,fn,caps,rfl,h1,h2,h3,h4⟩:=hF
 have hkind:(b.kind == CallKind.early) = false:=by rw [hk]; rfl
 have hev:(Fr b tm ds (.code (.rangeFunc f #[q] assign body) :: k)).eval f = .func (.func kk) #[] caps.toArray:=by rw [ht.eval]; exact hf
 refine Lw (s:=Instr.enterLoop b.fn tm #[q] assign body none)
  (f:=fun lm=>(Frame.enter Tryd.prog kk (Value.func (.yield lm.1) #[] #[] :: caps).toArray .normal,Fr b tm (lm.2 ++ ds) (.inRangeFunc lm.1 :: k) :: cs))
  (Q:=fun lm σ'=>∃ r,lm.2 = [{ target:=.collected r,args:=#[] }]∧σ' = (lm.1,Res.obj (.loop { state:=.ready,pending:=none,fn:=b.fn,tmps:=tm,params:=#[q],assign,body,defers:=r })) :: (r,.obj (.deferred (some []))) :: σ)
  (fun W lm W' es hrun=>?_) (Vj fun r l=>⟨r,rfl,rfl⟩) ?_
 ·exact Abv hr hk (by rw [ht.eval]; exact hf) (P:=Tryd.prog) h1 h2 h3 hrun
 rintro ⟨l,mark⟩ σ' ⟨r,hm,rfl⟩
 simp only at hm
 subst hm
 -- the iterator's call
 let L:Loop:={ state:=.ready,pending:=none,fn:=b.fn,tmps:=tm,params:=#[q],assign,body,defers:=r }
 have hcall:=h4 mn X l (fun ρ' σ'=>∃ τ,σ' = (l,Res.obj (.loop L)) :: (r,.obj (.deferred (some []))) :: τ∧J ρ' τ) ρ ((l,Res.obj (.loop L)) :: (r,.obj (.deferred (some []))) :: σ) .refl
  (fun ρ1 ρ2 σ1 hle ⟨τ,e1,e2⟩=>⟨τ,e1,hJm _ _ _ hle e2⟩) ⟨σ,rfl,hJ⟩ (fun x ρ' σ' hys hle ⟨τ,e1,e2⟩ rd ds'=>?_)
 ·refine (hcall (Fr b tm ([{ target:=.collected r,args:=#[] }] ++ ds) (.inRangeFunc l :: k)) cs).bind ?_
  rintro _ cs' ρ' σ' ⟨v,rfl,hcs,hle,τ,rfl,hJ'⟩
  subst hcs
  have e1:(Fr b tm ([{ target:=.collected r,args:=#[] }] ++ ds) (.inRangeFunc l :: k)).finish v = Fr b tm ([{ target:=.collected r,args:=#[] }] ++ ds) (.endRangeFunc l :: k):=rfl
  rw [e1]
  refine Lw (s:=Instr.endLoop l) (f:=fun j=>(Fr b tm ([{ target:=.collected r,args:=#[] }] ++ ds) ((j.map Item.code).toList ++ k),cs')) (Q:=fun j σ''=>j = none∧σ'' = (l,Res.obj (.loop { L with state:=.exhausted })) :: (r,.obj (.deferred (some []))) :: τ) (fun W j W' es hrun=>?_) (Zz rfl ⟨rfl,rfl⟩) ?_
  ·exact ⟨seen Tryd.prog b.fn es ++ #[],by simp [Conc.G,stepG,stepG.exec,Fr,-Sem.runT_eq,hrun,GStep.after],fun ev he=>Lh (by simpa using he)⟩
  ·rintro j σ'' ⟨rfl,rfl⟩
   refine .ghost Bmh (.stop ⟨rfl,.normal,tm,e,_,k,ht,hend r ρ' τ hle hJ',rfl,rfl⟩)
 ·subst e1
  refine Afw (i:=0) rfl (by simp [L]) ?_
  show RoundH (CX mn X) l b.fn _ assign body ρ' _ _
  have etm:((L.params.zip #[x]).foldl (fun tmps (t,a)=>tmps.setIfInBounds t a) L.tmps) = tm.setIfInBounds q x:=by simp [L]
  rw [etm]
  refine Abr (ht.put hq x) ?_
  refine Adw (hbody l x ρ' τ hys hle e2 [(l,Res.obj (.loop L)),(r,.obj (.deferred (some [])))]) ?_
  rintro ex e1 ds1 ρ1 σ1 ⟨rfl,rfl,hl1,τ1,rfl,hb⟩
  refine ⟨rfl,rfl,0,L,rfl,rfl,?_⟩
  refine Adw (hb [(l,Res.obj (.loop { L with state:=.busy })),(r,.obj (.deferred (some [])))]) ?_
  rintro ex e2 ds2 ρ2 σ2 ⟨rfl,hl2,τ2,rfl,hJ2⟩
  refine ⟨0,{ L with state:=.busy },rfl,rfl,rfl,hl1.trans hl2,τ2,?_,hJ2⟩
  rfl
end
end
section
set_option maxHeartbeats 1000000
open Go
/-- A short list of baskets. -/
def Ber (nb:Int) (ρ:Ro) (v:Value):Prop:=∃ x:List Int,Val ρ v x∧x.length ≤ 9∧∀ (k:Nat) (b:Int),x[k]? = some b→0 ≤ b∧b ≤ nb
theorem Bfq {x:List Int} {v n:Int} (h:∀ (k:Nat) (b:Int),x[k]? = some b→0 ≤ b∧b ≤ n) (hv:0 ≤ v∧v ≤ n) (k:Nat) (b:Int) (hb:(x ++ [v])[k]? = some b):0 ≤ b∧b ≤ n:=by
 rcases List.mem_append.1 (List.mem_of_getElem? hb) with hm | hm
 ·obtain ⟨j,hj⟩:=List.mem_iff_getElem?.1 hm; exact h j b hj
 ·rw [List.mem_singleton.1 hm]; exact hv
theorem Bhq {n:Nat} (h:n ≤ 9):1 ≤ 1 <<< n∧1 <<< n ≤ 512:=by
 rcases (by omega:n = 0∨n = 1∨n = 2∨n = 3∨n = 4∨n = 5∨n = 6∨n = 7∨n = 8∨n = 9) with rfl | rfl | rfl | rfl | rfl | rfl | rfl | rfl | rfl | rfl <;> decide
theorem Bef {nb:Int} {l:List Int} {ρ₀:Ro} {vc:Value} (hc:At ρ₀ vc l) (hn:l.length ≤ 9) (hl:∀ (k:Nat) (b:Int),l[k]? = some b→0 ≤ b∧b ≤ nb):Bbx (.func (.func 82) #[] #[vc]) ρ₀ (Ber nb):=by
 refine ⟨82,_,[vc],rfl,Tryd.func82,rfl,rfl,?_⟩
 intro mn X yl I ρ σ hle hmono hI hy
 replace hc:=hc.mono hle
 have hs9:=Bhq hn
 refine Bh (n:=35) (args:=[(.func (.yield yl) #[] #[]),vc]) [] Tryd.func82 rfl rfl rfl rfl fun Q hret hnor=>w_q rfl rfl fun K1 k1=>Arw (Ax Vh rfl hc) fun v2 r2=>?_
 have g3:=Bmn r2
 refine l_v (Ci (el:=3) Bhy rfl r2) (l_v (Md (p:=1) (q:=l.length) rfl rfl rfl (by omega) (z:=(((1 <<< l.length):Nat):Int)) wrR) (Asf (iV (0)) (l_k k1 (Ao (Cc (fun mm ee dd ρ' σ'=>∃ (k:Nat) (σb4:Own),(1 <<< l.length - k) = mm∧[] = dd∧Ro.le ρ ρ'∧σb4 = σ'∧ee 0 = (.func (.yield yl) #[] #[])∧ee 1 = vc∧ee 9 = (iV ((((1 <<< l.length):Nat):Int)))∧ee 10 = (iV ((k:Int)))∧(k ≤ 1 <<< l.length)∧I ρ' σb4∧True) (m:=_) ⟨0,σ,rfl,rfl,Bml,rfl,rfl,rfl,rfl,rfl,(Nat.zero_le _),hI,trivial⟩ ?_)))))
 rintro m4 e4 _ ρ4 _ ⟨k,σb4,rfl,rfl,l4,rfl,h4_0,h4_1,h4_9,h4_10,p4_0,IB4,_⟩
 replace hc:=Bmg l4 hc
 refine w_q rfl rfl fun K5 k5=>l_v (Da h4_10 h4_9) (Asa k5 fun K6 k6=>Asg (t:=decide ((k:Int) < (((1 <<< l.length):Nat):Int))) rfl (fun b7=>?_) (fun b7=>?_))
 ·have q7:=of_decide_eq_true b7
  refine Al (k6 _ _ _ _ ?_)
  refine Ai fun K8 k8=>Ao (w_q rfl rfl fun K9 k9=>l_v (Ah (v:=(iV ((k:Int)))) h4_10) (Lo (iV ((k:Int))) (Arx rfl rfl k9 fun K10 k10=>Lo (nS) (Ary rfl rfl k10 fun K11 K12 k11 k12=>Arw (Ax Vh h4_1 hc) fun v13 r13=>?_))))
  have g14:=Bmn r13
  refine l_v (Ci (el:=3) Bhy rfl r13) (Asf (iV (0)) (l_k k12 (Ao (Cc (fun mm ee dd ρ' σ'=>∃ (i:Nat) (x:List Int) (ov15_4:Value) (og15_4:Own),(l.length - i) = mm∧[] = dd∧Ro.le ρ4 ρ'∧(og15_4 ++ σb4) = σ'∧ee 0 = (.func (.yield yl) #[] #[])∧ee 1 = vc∧ee 3 = (iV ((k:Int)))∧ee 9 = (iV ((((1 <<< l.length):Nat):Int)))∧ee 10 = (iV ((k:Int)))∧ee 13 = v13∧ee 14 = (iV (((l.length:Nat):Int)))∧ee 4 = ov15_4∧ee 15 = (iV ((i:Int)))∧(i ≤ l.length)∧(x.length ≤ i)∧(∀ (k:Nat) (b:Int),x[k]? = some b→0 ≤ b∧b ≤ nb)∧Grow ρ' 3 ov15_4 x og15_4∧True) (m:=_) ⟨0,[],(nS),[],rfl,rfl,Bml,rfl,h4_0,h4_1,rfl,h4_9,h4_10,rfl,rfl,rfl,rfl,(Nat.zero_le _),(Nat.zero_le _),(fun _ _ h=>by simp at h),Hm,trivial⟩ ?_))))
  rintro m15 e15 _ ρ15 _ ⟨i,x,ov15_4,og15_4,rfl,rfl,l15,rfl,h15_0,h15_1,h15_3,h15_9,h15_10,h15_13,h15_14,h15_4,h15_15,p15_0,p15_1,p15_2,OG15_4,_⟩
  replace IB4:=hmono _ _ _ l15 IB4
  replace r13:=Bmo l15 r13
  refine w_q rfl rfl fun K16 k16=>l_v (Da h15_15 h15_14) (Asa k16 fun K17 k17=>Asg (t:=decide ((i:Int) < ((l.length:Nat):Int))) rfl (fun b18=>?_) (fun b18=>?_))
  ·have q18:=of_decide_eq_true b18
   refine Al (k17 _ _ _ _ ?_)
   refine Ai fun K19 k19=>Ao (w_q rfl rfl fun K20 k20=>l_v (Ah (v:=(iV ((i:Int)))) h15_15) ?_)
   obtain ⟨a22,ha22⟩:=Ed (xs:=l) (i:=i) (by omega)
   have hba22:=hl i a22 ha22
   refine Arw (Ch i Bhy ty3 h15_13 r13 (q:=(i:Int)) h15_15 rfl ha22) fun v21 r21=>?_
   have ⟨g23a,g23b⟩:=At.rng r21
   refine l_v (Bc ty3 rfl r21) (Lo (iV ((i:Int))) (Lo (iV (a22)) (Arx rfl rfl k20 fun K24 k24=>l_v (Ah (v:=(iV ((k:Int)))) h15_3) (Asf (iV ((i:Int))) (l_v (Lc (p:=k) (q:=i) rfl rfl rfl (by omega)) (l_v (Qs (p:=(k >>> i)) (q:=1) rfl rfl (Nl (by omega))) (l_v (Ek rfl rfl) (l_k k24 (Asg (t:=((((k >>> i) &&& 1):Nat):Int) == 1) rfl (fun b25=>?_) (fun b25=>?_))))))))))
   ·have q25:=Jr b25
    refine Ag rfl rfl (l_v (Ah (v:=ov15_4) h15_4) (Asf (iV (a22)) (Arv (Bi (α:=Int) (xs:=[a22]) (vs:=[(iV (a22))]) Bhy ty3 zr3 rfl (by decide) (Dk (os:=[.tmp 26]) ⟨rfl,trivial⟩) ⟨(Cv.2 ⟨rfl,by constructor <;> omega⟩),trivial⟩ rfl (by decide) fun k26 cs26 R26=>?_))))
    have G26:Grow ρ15 3 (.slice (some ⟨k26,0,none⟩) 1 1) ([a22]:List Int) [(k26,oC cs26.toArray 3)]:=Bs R26 rfl (by decide)
    refine Ca G26 fun ρ28 l28 r28=>?_
    replace IB4:=hmono _ _ _ l28 IB4
    replace OG15_4:=Bmk l28 OG15_4
    refine Arv (Gc (σ:=σb4) (gr:=og15_4) (xs:=x) (ys:=([a22]:List Int)) Bhy Bhy (Ab Bhx) rfl (Nat.le_of_ble_eq_true rfl) rfl rfl rfl rfl OG15_4 r28 (by simp only [List.length_append,List.length_cons,List.length_nil] at *; omega) fun v27 gr27 G27=>?_)
    refine Lo v27 (l_k k19 (Ag rfl rfl (l_v (Br h15_15 rfl (z:=(((i + 1):Nat):Int)) wrE) (Asf (iV ((((i + 1):Nat):Int))) (Ac ?_)))))
    refine ⟨_,?_,((i + 1)),((x ++ ([a22]:List Int))),v27,gr27,rfl,rfl,(Bmm l15 l28),rfl,h15_0,h15_1,h15_3,h15_9,h15_10,h15_13,h15_14,rfl,rfl,(by omega),(by simp only [List.length_append,List.length_cons,List.length_nil]; omega),(Bfq p15_2 hba22),(Fy (rfl) G27),trivial⟩
    omega
   have q25:=Jq b25
   refine Al (k19 _ _ _ _ ?_)
   refine Ag rfl rfl (l_v (Br h15_15 rfl (z:=(((i + 1):Nat):Int)) wrE) (Asf (iV ((((i + 1):Nat):Int))) (Ac ?_)))
   refine ⟨_,?_,((i + 1)),(x),ov15_4,og15_4,rfl,rfl,l15,rfl,h15_0,h15_1,h15_3,h15_9,h15_10,h15_13,h15_14,h15_4,rfl,(by omega),(by omega),p15_2,(Fy (rfl) OG15_4),trivial⟩
   omega
  have q18:=of_decide_eq_false b18
  refine Bx (k11 _ _ _ _ ?_)
  refine Ai fun K29 k29=>Hc OG15_4 fun ρ30 l30 r30=>?_
  replace IB4:=hmono _ _ _ l30 IB4
  refine Ag rfl rfl (l_v (Ah (v:=(.func (.yield yl) #[] #[])) h15_0) (l_v (Ah (v:=ov15_4) h15_4) (Arv (Xr (v:=ov15_4) rfl rfl (hy ov15_4 _ _ (⟨x,r30,by omega,p15_2⟩) (Bmm (Bmm l4 l15) l30) IB4) fun w31 ρ31 σ31 hc31=>?_))))
  obtain ⟨hw31,l31,I31⟩:=hc31
  subst hw31
  refine l_v (Iy rfl) (l_k k29 (Cg rfl (not_t rfl) (Al (k8 _ _ _ _ ?_))))
  refine Ag rfl rfl (l_v (Br h15_10 rfl (z:=(((k + 1):Nat):Int)) wrE) (Asf (iV ((((k + 1):Nat):Int))) (Ac ?_)))
  refine ⟨_,?_,((k + 1)),σ31,rfl,rfl,(Bmm (Bmm (Bmm l4 l15) l30) l31),rfl,h15_0,h15_1,h15_9,rfl,(by omega),I31,trivial⟩
  omega
 have q7:=of_decide_eq_false b7
 refine Bx (hnor _ _ _ (⟨l4,IB4⟩))
theorem Bfo {mn:Bool} {X:Frame→List Frame→Ro→Own→Cy→Prop} {ρ:Ro} {σ:Own} {nb:Int} {l:List Int} {vl:Value} (rl:Val ρ vl l) (hn:l.length ≤ 9) (hl:∀ (k:Nat) (b:Int),l[k]? = some b→0 ≤ b∧b ≤ nb):CallsH (CX mn X) 59 #[vl] ρ σ (fun w ρ' σ'=>Ro.le ρ ρ'∧σ' = σ∧∃ v,w = v∧Bbx v ρ' (Ber nb)):=by
 refine Bh (n:=4) (args:=[vl]) [2] Tryd.func59 rfl rfl rfl rfl fun Q hret hnor=>w_q rfl rfl fun K1 k1=>Arv (Eb (v:=vl) rfl fun k2=>?_)
 refine Bb (a:=l) rl fun ρ2 l2 r2=>Lo .nilFunc (Arx rfl rfl k1 fun K3 k3=>l_v (Il (fn:=.func 82) (caps:=[.tmp 1]) (vs:=[(.pointer (some ⟨k2,0,none⟩))]) ⟨rfl,trivial⟩) (Lo (.func (.func 82) #[] #[(.pointer (some ⟨k2,0,none⟩))]) (l_k k3 (Aq (hret _ _ _ (⟨l2,rfl,_,rfl,Bef r2 hn hl⟩))))))
end
section
set_option maxHeartbeats 1000000
open Go
set_option maxHeartbeats 1000000 in
theorem Bfm {mn:Bool} {X:Frame→List Frame→Ro→Own→Cy→Prop} {ρ:Ro} {σ:Own} {m:Morn} {al:List (List Spot)} {vp:Value} (rp:At ρ vp (⟨(⟨m⟩:MornP),al⟩:PPlan)) (ok:MornOk m) (hal:Avb m.baskets.length al):CallsH (CX mn X) 27 #[vp] ρ σ (fun w ρ' σ'=>Ro.le ρ ρ'∧σ' = σ∧∃ (v:Value) (l:List Int),w = v∧Val ρ' v l∧Att m l∧l.length ≤ 9):=by
 have hnb:=ok.nbaskets
 refine Nz (n:=41) (args:=[vp]) [2] Tryd.func27 rfl rfl rfl rfl fun Q hret hnor=>w_q rfl rfl fun K1 k1=>Arv (Eb (v:=vp) rfl fun k2=>?_)
 refine Bb (a:=(Ptr.mk ((⟨(⟨m⟩:MornP),al⟩:PPlan)))) (Ir.2 rp) fun ρ2 l2 r2=>Lo (nS) (Arx rfl rfl k1 fun K3 k3=>Arv (Ct Bhw fun k4=>?_))
 refine Arx rfl rfl k3 fun K5 k5=>Arv (Ct zr3 fun k6=>?_)
 refine Cx rfl (Cz (j:=0) (v:=(iV (0))) ⟨_,Ab Bhx,rfl⟩ rfl rfl rfl rfl (Nat.le_of_ble_eq_true rfl) ?_)
 refine Ary rfl rfl k5 fun K7 K8 k7 k8=>Arw (Ax Awq rfl r2) fun v9 r9=>?_
 replace r9:=Ir.1 r9
 refine l_v (Hj rfl r9) (Arw (Ay PPlan.f_p Bkb rfl rfl Bcz (by decide) rfl r9) fun v10 r10=>Arw (Ay MornP.f_m Bir rfl rfl Ata (by decide) rfl r10) fun v11 r11=>Arw (Ay Morn.f_baskets Bhz rfl rfl Asu (by decide) rfl r11) fun v12 r12=>Arw (Ax Asu rfl r12) fun v13 r13=>Arv (Cm (vs:=[v13]) (Azx r13 hnb) Tryd.func60 rfl rfl ⟨rfl,trivial⟩ fun w14 ρ14 σ14 hc14=>?_))
 obtain ⟨l14,s14,v14,ix,hw14,rix,hxl,hxb⟩:=hc14
 replace s14:=s14.symm; subst s14 hw14
 replace r2:=Bmg l14 r2
 replace hxl:ix.length = m.baskets.length:=hxl
 refine Arv (Cm (vs:=[w14]) (Bfo (nb:=(m.baskets.length:Int) - 1) rix (by omega) hxb) Tryd.func59 rfl rfl ⟨rfl,trivial⟩ fun w15 ρ15 σ15 hc15=>?_)
 obtain ⟨l15,s15,v15,hw15,hit⟩:=hc15
 replace s15:=s15.symm; subst s15 hw15
 replace r2:=Bmg l15 r2
 refine l_k k8 (Ao (Axf (fun ρ' τ=>∃ (bv:Value) (bl:List Int) (nn:Int),((k6,oC #[(iV (nn))] 3) :: ((k4,oC #[bv] 49) :: σ)) = τ∧Val ρ' bv (bl:List Int)∧(Att m bl∧bl.length ≤ 9)∧True) rfl rfl (Nat.le_of_ble_eq_true rfl) rfl hit ?_ ?_ ?_ ?_))
 ·rintro ρa ρb σa hle ⟨bv,bl,nn,h1,hbv,p16_0,_⟩; exact ⟨bv,bl,nn,h1,hbv.mono hle,p16_0,trivial⟩
 ·exact ⟨(nS),[],0,rfl,Gx,⟨fun _ _ h=>by simp at h,Nat.zero_le _⟩,trivial⟩
 ·rintro l16 x16 ρ16 _ ⟨sx,hsx,hs9,hsb⟩ l16 ⟨bv,bl,nn,rfl,hbv,p16_0,_⟩ pfx16
  replace r2:=Bmg l16 r2
  refine Aj (σ':=((k6,Res.obj (Obj.cells #[(iV (nn))] 3 (0,0))) :: ((k4,Res.obj (Obj.cells #[bv] 49 (0,0))) :: (pfx16 ++ σ)))) (Bmj (by first | exact Fe pfx16 ([(k6,Res.obj (Obj.cells #[(iV (nn))] 3 (0,0))),(k4,Res.obj (Obj.cells #[bv] 49 (0,0)))]) σ | simpa only [List.append_assoc,List.cons_append,List.nil_append,List.set_cons_zero] using Fe pfx16 ([(k6,Res.obj (Obj.cells #[(iV (nn))] 3 (0,0))),(k4,Res.obj (Obj.cells #[bv] 49 (0,0)))]) σ)) (Ag rfl rfl (Lo x16 (Bj (σ':=pfx16 ++ ((k6,Res.obj (Obj.cells #[(iV (nn))] 3 (0,0))) :: ((k4,Res.obj (Obj.cells #[bv] 49 (0,0))) :: σ))) (Bmj (by first | exact Fe ([(k6,Res.obj (Obj.cells #[(iV (nn))] 3 (0,0))),(k4,Res.obj (Obj.cells #[bv] 49 (0,0)))]) pfx16 σ | simpa only [List.append_assoc,List.cons_append,List.nil_append,List.set_cons_zero] using Fe ([(k6,Res.obj (Obj.cells #[(iV (nn))] 3 (0,0))),(k4,Res.obj (Obj.cells #[bv] 49 (0,0)))]) pfx16 σ)) (Ac ?_))))
  refine ⟨rfl,rfl,Bml,_,rfl,?_⟩
  intro pfy16
  refine Aj (σ':=((k6,Res.obj (Obj.cells #[(iV (nn))] 3 (0,0))) :: ((k4,Res.obj (Obj.cells #[bv] 49 (0,0))) :: (pfy16 ++ σ)))) (Bmj (by first | exact Fe pfy16 ([(k6,Res.obj (Obj.cells #[(iV (nn))] 3 (0,0))),(k4,Res.obj (Obj.cells #[bv] 49 (0,0)))]) σ | simpa only [List.append_assoc,List.cons_append,List.nil_append,List.set_cons_zero] using Fe pfy16 ([(k6,Res.obj (Obj.cells #[(iV (nn))] 3 (0,0))),(k4,Res.obj (Obj.cells #[bv] 49 (0,0)))]) σ)) (Ao (w_q rfl rfl fun K17 k17=>Arw (Ax Awq rfl r2) fun v18 r18=>?_))
  replace r18:=Ir.1 r18
  refine Asf x16 (Arv (Bm (Ayx r18 hsx ok hsb hs9) Tryd.func29 rfl rfl ⟨rfl,rfl,trivial⟩ ?_))
  refine Lo (iV (Ast m sx)) (Arx rfl rfl k17 fun K19 k19=>Asf (iV (Ast m sx)) (Arv (Dt (i:=0) (v:=(iV (nn))) ⟨_,Bib,rfl⟩ rfl rfl rfl ?_)))
  refine l_v (Gl rfl rfl) (Asf (.bool (decide (Ast m sx > nn))) (Cn (decide (Ast m sx > nn)) (fun b20=>?_) (fun b20=>?_)))
  ·have q20:=of_decide_eq_true b20
   refine Ap (gN rfl b20) (Ap (gN rfl b20) (Ap (gN rfl b20) (Ap (gN rfl b20) (Ap (Jf rfl rfl rfl) (Ap (Jf rfl rfl rfl) (Ap (Jf rfl rfl rfl) (Ap (Jf rfl rfl rfl) (Ap (gN rfl b20) (l_v (Bt rfl b20 (v:=(.bool (true))) rfl) (Asf (.bool (true)) (Ak (gY rfl rfl) (Ax Awq rfl r2) fun v21 r21=>?_)))))))))))
   replace r21:=Ir.1 r21
   refine l_M x16 (gY rfl rfl) rfl (Ae (gY rfl rfl) (Cm (vs:=[v21,x16,(.map none)]) (Bce r21 hsx hal hsb) Blj rfl rfl ⟨rfl,rfl,rfl,trivial⟩ fun w22 ρ22 σ22 hc22=>?_))
   obtain ⟨hr22,hs22,b22_,hw22⟩:=hc22
   replace hr22:=hr22.symm; replace hs22:=hs22.symm; subst hr22 hs22 hw22
   refine l_v (Bt rfl rfl (v:=(.bool (b22_))) rfl) (l_k k19 (Asg (t:=b22_) rfl (fun b23=>?_) (fun b23=>?_)))
   ·refine Ag rfl rfl (Asf x16 (Asf (iV (Ast m sx)) (Cx rfl (Cz (j:=1) (v:=x16) ⟨_,Ab Bjo,rfl⟩ rfl rfl (Val.single_l hsx) rfl (Nat.le_of_ble_eq_true rfl) ?_))))
    refine Cx rfl (Cz (j:=0) (v:=(iV (Ast m sx))) ⟨_,Ab Bhx,rfl⟩ rfl rfl rfl rfl (Nat.le_of_ble_eq_true rfl) ?_)
    refine Bj (σ':=pfy16 ++ ((k6,Res.obj (Obj.cells #[(iV (Ast m sx))] 3 (0,0))) :: ((k4,Res.obj (Obj.cells #[x16] 49 (0,0))) :: σ))) (Bmj (by first | exact Fe ([(k6,Res.obj (Obj.cells #[(iV (Ast m sx))] 3 (0,0))),(k4,Res.obj (Obj.cells #[x16] 49 (0,0)))]) pfy16 σ | simpa only [List.append_assoc,List.cons_append,List.nil_append,List.set_cons_zero] using Fe ([(k6,Res.obj (Obj.cells #[(iV (Ast m sx))] 3 (0,0))),(k4,Res.obj (Obj.cells #[x16] 49 (0,0)))]) pfy16 σ)) (Ac ?_)
    refine ⟨rfl,Bml,_,rfl,(x16),(sx),(Ast m sx),rfl,hsx,⟨hsb,hs9⟩,trivial⟩
   refine Aj (σ':=pfy16 ++ ((k6,Res.obj (Obj.cells #[(iV (nn))] 3 (0,0))) :: ((k4,Res.obj (Obj.cells #[bv] 49 (0,0))) :: σ))) (Bmj (by first | exact Fe ([(k6,Res.obj (Obj.cells #[(iV (nn))] 3 (0,0))),(k4,Res.obj (Obj.cells #[bv] 49 (0,0)))]) pfy16 σ | simpa only [List.append_assoc,List.cons_append,List.nil_append,List.set_cons_zero] using Fe ([(k6,Res.obj (Obj.cells #[(iV (nn))] 3 (0,0))),(k4,Res.obj (Obj.cells #[bv] 49 (0,0)))]) pfy16 σ)) (Al (⟨rfl,Bml,_,rfl,(bv),(bl),(nn),rfl,hbv,p16_0,trivial⟩))
  have q20:=of_decide_eq_false b20
  refine l_M (iV (Ast m sx)) (gY rfl b20) rfl (Ae (gY rfl b20) (Dt (i:=0) (v:=(iV (nn))) ⟨_,Bib,rfl⟩ rfl rfl rfl ?_))
  refine Aa (gY rfl b20) (Ek rfl rfl) (l_M (.bool (Ast m sx == nn)) (gY rfl b20) rfl (Cn (Ast m sx == nn) (fun b24=>?_) (fun b24=>?_)))
  ·have q24:=Jr b24
   refine l_M x16 (gY rfl b24) rfl (Ae (gY rfl b24) (Dt (i:=1) (v:=bv) ⟨_,Bhy,rfl⟩ rfl rfl rfl ?_))
   refine Ae (gY rfl b24) (Bm (Agy hsx hbv) Bmb rfl rfl ⟨rfl,rfl,trivial⟩ ?_)
   refine Aa (gY rfl b24) (Da rfl rfl) (Aa (gY rfl b20) (Bt rfl b24 (v:=(.bool (decide ((Gz sx bl) < 0)))) rfl) (l_v (Bn rfl b20 (v:=(.bool (decide ((Gz sx bl) < 0)))) rfl) (Asf (.bool (decide ((Gz sx bl) < 0))) (Cn (decide ((Gz sx bl) < 0)) (fun b25=>?_) (fun b25=>?_)))))
   ·have q25:=of_decide_eq_true b25
    refine Ak (gY rfl b25) (Ax Awq rfl r2) fun v26 r26=>?_
    replace r26:=Ir.1 r26
    refine l_M x16 (gY rfl b25) rfl (Ae (gY rfl b25) (Cm (vs:=[v26,x16,(.map none)]) (Bce r26 hsx hal hsb) Blj rfl rfl ⟨rfl,rfl,rfl,trivial⟩ fun w27 ρ27 σ27 hc27=>?_))
    obtain ⟨hr27,hs27,b27_,hw27⟩:=hc27
    replace hr27:=hr27.symm; replace hs27:=hs27.symm; subst hr27 hs27 hw27
    refine l_v (Bt rfl b25 (v:=(.bool (b27_))) rfl) (l_k k19 (Asg (t:=b27_) rfl (fun b28=>?_) (fun b28=>?_)))
    ·refine Ag rfl rfl (Asf x16 (Asf (iV (Ast m sx)) (Cx rfl (Cz (j:=1) (v:=x16) ⟨_,Ab Bjo,rfl⟩ rfl rfl (Val.single_l hsx) rfl (Nat.le_of_ble_eq_true rfl) ?_))))
     refine Cx rfl (Cz (j:=0) (v:=(iV (Ast m sx))) ⟨_,Ab Bhx,rfl⟩ rfl rfl rfl rfl (Nat.le_of_ble_eq_true rfl) ?_)
     refine Bj (σ':=pfy16 ++ ((k6,Res.obj (Obj.cells #[(iV (Ast m sx))] 3 (0,0))) :: ((k4,Res.obj (Obj.cells #[x16] 49 (0,0))) :: σ))) (Bmj (by first | exact Fe ([(k6,Res.obj (Obj.cells #[(iV (Ast m sx))] 3 (0,0))),(k4,Res.obj (Obj.cells #[x16] 49 (0,0)))]) pfy16 σ | simpa only [List.append_assoc,List.cons_append,List.nil_append,List.set_cons_zero] using Fe ([(k6,Res.obj (Obj.cells #[(iV (Ast m sx))] 3 (0,0))),(k4,Res.obj (Obj.cells #[x16] 49 (0,0)))]) pfy16 σ)) (Ac ?_)
     refine ⟨rfl,Bml,_,rfl,(x16),(sx),(Ast m sx),rfl,hsx,⟨hsb,hs9⟩,trivial⟩
    refine Aj (σ':=pfy16 ++ ((k6,Res.obj (Obj.cells #[(iV (nn))] 3 (0,0))) :: ((k4,Res.obj (Obj.cells #[bv] 49 (0,0))) :: σ))) (Bmj (by first | exact Fe ([(k6,Res.obj (Obj.cells #[(iV (nn))] 3 (0,0))),(k4,Res.obj (Obj.cells #[bv] 49 (0,0)))]) pfy16 σ | simpa only [List.append_assoc,List.cons_append,List.nil_append,List.set_cons_zero] using Fe ([(k6,Res.obj (Obj.cells #[(iV (nn))] 3 (0,0))),(k4,Res.obj (Obj.cells #[bv] 49 (0,0)))]) pfy16 σ)) (Al (⟨rfl,Bml,_,rfl,(bv),(bl),(nn),rfl,hbv,p16_0,trivial⟩))
   have q25:=of_decide_eq_false b25
   refine Ap (gN rfl b25) (Ap (gN rfl b25) (Ap (gN rfl b25) (l_v (Bn rfl b25 (v:=(.bool (false))) rfl) (l_k k19 (Cg rfl rfl (Aj (σ':=pfy16 ++ ((k6,Res.obj (Obj.cells #[(iV (nn))] 3 (0,0))) :: ((k4,Res.obj (Obj.cells #[bv] 49 (0,0))) :: σ))) (Bmj (by first | exact Fe ([(k6,Res.obj (Obj.cells #[(iV (nn))] 3 (0,0))),(k4,Res.obj (Obj.cells #[bv] 49 (0,0)))]) pfy16 σ | simpa only [List.append_assoc,List.cons_append,List.nil_append,List.set_cons_zero] using Fe ([(k6,Res.obj (Obj.cells #[(iV (nn))] 3 (0,0))),(k4,Res.obj (Obj.cells #[bv] 49 (0,0)))]) pfy16 σ)) (Al (⟨rfl,Bml,_,rfl,(bv),(bl),(nn),rfl,hbv,p16_0,trivial⟩))))))))
  have q24:=Jq b24
  refine Ap (gN rfl b24) (Ap (gN rfl b24) (Ap (gN rfl b24) (Ap (gN rfl b24) (Aa (gY rfl b20) (Bn rfl b24 (v:=(.bool (false))) rfl) (l_v (Bn rfl b20 (v:=(.bool (false))) rfl) (Asf (.bool (false)) (Ap (gN rfl rfl) (Ap (gN rfl rfl) (Ap (gN rfl rfl) (l_v (Bn rfl rfl (v:=(.bool (false))) rfl) (l_k k19 (Cg rfl rfl (Aj (σ':=pfy16 ++ ((k6,Res.obj (Obj.cells #[(iV (nn))] 3 (0,0))) :: ((k4,Res.obj (Obj.cells #[bv] 49 (0,0))) :: σ))) (Bmj (by first | exact Fe ([(k6,Res.obj (Obj.cells #[(iV (nn))] 3 (0,0))),(k4,Res.obj (Obj.cells #[bv] 49 (0,0)))]) pfy16 σ | simpa only [List.append_assoc,List.cons_append,List.nil_append,List.set_cons_zero] using Fe ([(k6,Res.obj (Obj.cells #[(iV (nn))] 3 (0,0))),(k4,Res.obj (Obj.cells #[bv] 49 (0,0)))]) pfy16 σ)) (Al (⟨rfl,Bml,_,rfl,(bv),(bl),(nn),rfl,hbv,p16_0,trivial⟩)))))))))))))))
 ·rintro k29 ρ29 _ l29 ⟨bv,bl,nn,rfl,hbv,p16_0,_⟩
  apply k7
  refine w_q rfl rfl fun K30 k30=>Arv (Dt (i:=2) (v:=bv) ⟨_,Bhy,rfl⟩ rfl rfl rfl ?_)
  refine Lo bv (l_k k30 (Aj (Bmj Arz) (Aj Bmh (Aj (Bmj Arz) (Aj Bmh (Aq (hret _ _ _ _ (⟨(Bmm (Bmm (Bmm l2 l14) l15) l29),rfl,_,bl,rfl,hbv,p16_0.1,p16_0.2⟩))))))))
end
section
set_option maxHeartbeats 1000000
open Go
section
variable {C:Ctx} {b:FB} {n:Nat} {Q:Hu} {e:Env} {ds:List Deferred} {ρ:Ro} {σ:Own}
theorem Bde {l:Nat} (h:Q .normal e ds ρ σ):WpC C b n (.label l) Q e ds ρ σ:=fun tm k cs ht =>
 Eh (fr':=Fr b tm ds k) (cs':=cs) (fun W=>by simp [Conc.G,stepG,stepG.exec,Fr]) (.stop ⟨rfl,.normal,tm,e,ds,k,ht,h,rfl,rfl⟩)
theorem Bdf {c:Code} (h:WpC C b n c Q e ds ρ σ):WpC C b n (.scope c) Q e ds ρ σ:=by
 intro tm k cs ht
 refine Eh (fr':=Fr b tm ds (.code c :: .inScope c :: k)) (cs':=cs) (fun W=>by simp [Conc.G,stepG,stepG.exec,Fr]) ?_
 refine (h tm (.inScope c :: k) cs ht).bind ?_
 rintro _ _ ρ' σ' ⟨rfl,ex,tm',e',ds',todo,h1,h2,h3,rfl⟩
 by_cases hn:ex = .normal
 ·subst hn
  cases h3
  exact Eh (fr':=Fr b tm' ds' k) (fun W=>by simp [Conc.G,stepG,stepG.exec,Fr]) (.stop ⟨rfl,.normal,tm',e',ds',k,h1,h2,rfl,rfl⟩)
 ·exact .stop ⟨rfl,ex,tm',e',ds',todo,h1,h2,He hn (fun id=>rfl) h3,rfl⟩
end
end
section
set_option maxHeartbeats 1000000
open Go
theorem Avq {α β:Type} {f:α→β}:∀ (l:List α) (j:Nat),(l.eraseIdx j).map f = (l.map f).eraseIdx j
 | [],j=>by simp
 | a :: l,0=>by simp
 | a :: l,j + 1=>by simp only [List.eraseIdx_cons_succ,List.map_cons,Avq l j]
theorem SetM.erase {es:Array MapEntry} {L:List (Int × Int)} (h:SetM es L) (j:Nat):SetM (es.eraseIdxIfInBounds j) (L.eraseIdx j):=by
 refine ⟨?_,h.2.sublist (List.eraseIdx_sublist ..)⟩
 rw [Array.toList_eraseIdxIfInBounds,Avq,Avq,h.1]
section
variable {C:Ctx} {e:Env} {ds:List Deferred} {ρ:Ro} {σ:Own} {K:Value→List Deferred→Ro→Own→Prop} {rd:Option Nat} {dd:Option Tmp}
variable {ty:TypeId} {pos:String} {af:Array Edge} {g:Option (Nat × Bool)} {x y:Operand} {t t':TypeId}
theorem Bfy {i r clock:Nat} {kt et:TypeId} {a b:Int} {es:Array MapEntry} {L:List (Int × Int)} (hT:C.P.underlying t = some (.map kt et)) (hk:Key2 C.P kt) (hM:SetM es L)
  (hx:Af e x = .map (some r)) (hy:Af e y = .agg #[.int .i64 a,.int .i64 b]) (hi:σ[i]? = some (r,.obj (.map es clock)))
  (h:∀ es' L',SetM es' L'→(∀ p ∈ L',p ∈ L)→K (.tuple #[]) ds ρ (σ.set i (r,.obj (.map es' clock)))):wpS C.P ρ (execOp (Af e) ⟨dd,.call ⟨.builtin .delete,#[x,y],#[t,t']⟩,ty,pos,af,g⟩) σ (NextH C K rd ds ρ):=by
 show wpS C.P ρ ((Builtin.delete_ #[t,t'] ty (#[x,y].map (Af e))).bind _) σ _
 rw [Ad,show #[x,y].map (Af e) = #[.map (some r),.agg #[.int .i64 a,.int .i64 b]] by simp [hx,hy]]
 show wpS C.P ρ ((underlying t).bind _) σ _
 rw [Ad]
 refine Az hT ?_
 show wpS C.P ρ (Sem.bind (Sem.bind (getObj r) _) _) σ _
 rw [Ad,Ad]
 refine ⟨_,.inr (List.mem_of_getElem? hi),rfl,?_⟩
 show wpS C.P ρ ((Instr.checkKey es.isEmpty 10000 kt _).bind _) σ _
 rw [Ad]
 refine Uu (m:=9998) hk ?_
 show wpS C.P ρ ((Instr.findKey kt _ es.toList).bind _) σ _
 rw [Ad]
 refine Avs hk hM.memo (fun _=>?_) fun j en hj hkey hV=>?_
 ·exact ⟨rfl,i,_,hi,rfl,h _ _ hM fun p hp=>hp⟩
 ·exact ⟨rfl,i,_,hi,rfl,h _ _ (hM.erase j) fun p hp=>List.mem_of_mem_eraseIdx hp⟩
end
end
section
set_option maxHeartbeats 1000000
open Go
def Atu (m:Morn) (l:List Pick):Prop:=∀ (i:Nat) (p:Pick),l[i]? = some p→0 ≤ p.basket∧p.basket ≤ (m.baskets.length:Int) - 1
theorem Axo {m:Morn} {l:List Pick} {p:Pick} (h:Atu m l) (hp:0 ≤ p.basket∧p.basket ≤ (m.baskets.length:Int) - 1):Atu m (l ++ [p]):=fun i x hx=>by
 rcases List.mem_append.1 (List.mem_of_getElem? hx) with hm | hm
 ·obtain ⟨j,hj⟩:=List.mem_iff_getElem?.1 hm; exact h j x hj
 ·rw [List.mem_singleton.1 hm]; exact hp
theorem Awd {m:Morn} {l:List Int} (h:Att m l) (k:Nat):Att m (l.drop k):=fun i b hb=>by
 rw [List.getElem?_drop] at hb; exact h _ b hb
theorem Azo {L L':List (Int × Int)} (h:Atk L) (hs:∀ p ∈ L',p ∈ L):Atk L':=fun p hp=>h p (hs p hp)
set_option maxHeartbeats 2000000 in
theorem Bfl {mn:Bool} {X:Frame→List Frame→Ro→Own→Cy→Prop} {ρ:Ro} {σ:Own} {m:Morn} {vm:Value} (hg:GlobP ρ) (rm:Val ρ vm m) (ok:MornOk m):CallsH (CX mn X) 7 #[vm] ρ σ (fun w ρ' σ'=>Ro.le ρ ρ'∧σ' = σ∧∃ (v:Value) (pk:List Pick) (n:Int),w = .tuple #[v,.int .i64 n,z0]∧Val ρ' v pk∧Atu m pk∧pk.length ≤ 9):=by
 refine Bh (n:=77) (args:=[vm]) [2,3,4] Tryd.func7 rfl rfl rfl rfl fun Q hret hnor=>w_q rfl rfl fun K1 k1=>Arv (Eb (v:=vm) rfl fun k2=>?_)
 refine Bb (a:=m) rm fun ρ2 l2 r2=>?_
 replace hg:=GlobP.mono l2 hg
 refine Lo (nS) (Lo (iV (0)) (Lo (iV (0)) (Ary rfl rfl k1 fun K3 K4 k3 k4=>Arw (Ax Ata rfl r2) fun v5 r5=>Arv (Bm (Ayu hg r5 ok) Tryd.func25 rfl rfl ⟨rfl,trivial⟩ ?_))))
 refine Lo (iV (0)) (Arx rfl rfl k4 fun K6 k6=>Asf (iV (0)) (l_v (Dg rfl rfl) (l_k k6 (Cg rfl rfl (Al (k3 _ _ _ _ ?_))))))
 refine w_q rfl rfl fun K7 k7=>Arw (Ax Ata rfl r2) fun v8 r8=>Arv (Cm (vs:=[v8]) (Bdz r8 ok) Tryd.func26 rfl rfl ⟨rfl,trivial⟩ fun w9 ρ9 σ9 hc9=>?_)
 obtain ⟨l9,s9,v9,al,hw9,rp,hal⟩:=hc9
 replace s9:=s9.symm; subst s9 hw9
 replace hg:=GlobP.mono l9 hg
 refine Lo w9 (Arx rfl rfl k7 fun K10 k10=>Asf w9 (Arv (Cm (vs:=[w9]) (Bfm rp ok hal) Tryd.func27 rfl rfl ⟨rfl,trivial⟩ fun w11 ρ11 σ11 hc11=>?_)))
 obtain ⟨l11,s11,v11,bs,hw11,rbs,hbs,hbn⟩:=hc11
 replace s11:=s11.symm; subst s11 hw11
 replace hg:=GlobP.mono l11 hg
 replace rp:=Bmg l11 rp
 refine Lo w11 (Arx rfl rfl k10 fun K12 k12=>Arv (Oh fun k13=>?_))
 refine Lo (.map (some k13)) (Ary rfl rfl k12 fun K14 K15 k14 k15=>Asf w11 ?_)
 have g16:=Bmn rbs
 refine l_v (Ci (el:=3) Bhy rfl rbs) (Asf (iV (0)) (l_k k15 (Ao (Cc (fun mm ee dd ρ' σ'=>∃ (i:Nat) (pk:List Pick) (se17_k13:Array MapEntry) (sc17_k13:Nat) (L1:List (Int × Int)) (ov17_2:Value) (og17_2:Own),(bs.length - i) = mm∧[] = dd∧Ro.le ρ11 ρ'∧(og17_2 ++ ((k13,Res.obj (Obj.map se17_k13 sc17_k13)) :: σ)) = σ'∧ee 6 = w9∧ee 7 = w11∧ee 8 = (.map (some k13))∧ee 24 = w11∧ee 25 = (iV (((bs.length:Nat):Int)))∧ee 2 = ov17_2∧ee 26 = (iV ((i:Int)))∧(i ≤ bs.length)∧(Atk L1)∧(Atu m pk∧pk.length ≤ i)∧(SetM se17_k13 L1)∧Grow ρ' 45 ov17_2 pk og17_2∧True) (m:=_) ⟨0,[],#[],0,[],(nS),[],rfl,rfl,Bml,rfl,rfl,rfl,rfl,rfl,rfl,rfl,rfl,(Nat.zero_le _),Avw,⟨fun _ _ h=>by simp at h,Nat.zero_le _⟩,Azn,Hm,trivial⟩ ?_))))
 rintro m17 e17 _ ρ17 _ ⟨i,pk,se17_k13,sc17_k13,L1,ov17_2,og17_2,rfl,rfl,l17,rfl,h17_6,h17_7,h17_8,h17_24,h17_25,h17_2,h17_26,p17_0,p17_1,p17_2,p17_3,OG17_2,_⟩
 replace hg:=GlobP.mono l17 hg
 replace rp:=Bmg l17 rp
 replace rbs:=Bmo l17 rbs
 refine w_q rfl rfl fun K18 k18=>l_v (Da h17_26 h17_25) (Asa k18 fun K19 k19=>Asg (t:=decide ((i:Int) < ((bs.length:Nat):Int))) rfl (fun b20=>?_) (fun b20=>?_))
 ·have q20:=of_decide_eq_true b20
  refine Al (k19 _ _ _ _ ?_)
  refine Ai fun K21 k21=>Ao (w_q rfl rfl fun K22 k22=>l_v (Ah (v:=(iV ((i:Int)))) h17_26) ?_)
  obtain ⟨a24,ha24⟩:=Ed (xs:=bs) (i:=i) (by omega)
  have hbia24:=hbs i a24 ha24; have hall:=hal.1
  refine Arw (Ch i Bhy ty3 h17_24 rbs (q:=(i:Int)) h17_26 rfl ha24) fun v23 r23=>?_
  have ⟨g25a,g25b⟩:=At.rng r23
  refine l_v (Bc ty3 rfl r23) (Lo (iV ((i:Int))) (Lo (iV (a24)) (l_k k22 (Bdf (w_q rfl rfl fun K26 k26=>Arw (Ax Atf rfl hg.nowhere) fun v27 r27=>Arv (Ct Awy fun k28=>?_))))))
  obtain ⟨e29_,⟨i29_1a,i29_1b⟩,⟨i29_2a,i29_2b⟩⟩:=Spot.open_ r27
  have e29_c:v27.cells = [(iV ((-1))),(iV ((-1)))].toArray:=by rw [e29_]; rfl
  refine Cx rfl (Li (i:=0) (vs:=[(iV ((-1))),(iV ((-1)))]) (c':=[(iV ((-1))),(iV ((-1)))]) ⟨_,Ab Bkk,rfl⟩ rfl rfl e29_c rfl (Zh ⟨rfl,rfl,trivial⟩) rfl (Nat.le_of_ble_eq_true rfl) rfl ?_)
  refine Asa k26 fun K30 k30=>Bde (k30 _ _ _ _ ?_)
  refine Asb rfl rfl fun K31 K32 k31 k32=>l_v (Ah (v:=w9) h17_6) (l_v (Hj rfl rp) (Arw (Ay PPlan.f_all Bkb rfl rfl Ayj (by decide) rfl rp) fun v33 r33=>Arw (Ax Ayj rfl r33) fun v34 r34=>Asf (iV (a24)) ?_))
  obtain ⟨a36,ha36⟩:=Ed (xs:=al) (i:=(a24).toNat) (by omega)
  have hSa36:=hal.2 _ _ ha36
  refine Arw (Ch ((a24).toNat) Bkg Awr rfl r34 (q:=a24) rfl (by omega) ha36) fun v35 r35=>Arw (Ax Awr rfl r35) fun v37 r37=>?_
  have g38:=Bmn r37
  refine l_v (Ci (el:=93) Bka rfl r37) (Asf (iV (0)) (l_k k32 (Ao (Cc (fun mm ee dd ρ' σ'=>∃ (j:Nat) (se39_k13:Array MapEntry) (sc39_k13:Nat) (L2:List (Int × Int)),(a36.length - j) = mm∧[] = dd∧ρ17 = ρ'∧((k28,oC #[(iV ((-1))),(iV ((-1)))] 93) :: (og17_2 ++ ((k13,Res.obj (Obj.map se39_k13 sc39_k13)) :: σ))) = σ'∧ee 2 = ov17_2∧ee 6 = w9∧ee 7 = w11∧ee 8 = (.map (some k13))∧ee 9 = (iV ((i:Int)))∧ee 10 = (iV (a24))∧ee 11 = (.pointer (some ⟨k28,0,none⟩))∧ee 24 = w11∧ee 25 = (iV (((bs.length:Nat):Int)))∧ee 26 = (iV ((i:Int)))∧ee 38 = v37∧ee 39 = (iV (((a36.length:Nat):Int)))∧ee 40 = (iV ((j:Int)))∧(j ≤ a36.length)∧(Atk L2)∧(SetM se39_k13 L2)∧True) (m:=_) ⟨0,se17_k13,sc17_k13,L1,rfl,rfl,rfl,rfl,h17_2,h17_6,h17_7,h17_8,rfl,rfl,rfl,h17_24,h17_25,h17_26,rfl,rfl,rfl,(Nat.zero_le _),p17_1,p17_3,trivial⟩ ?_))))
  rintro m39 e39 _ _ _ ⟨j,se39_k13,sc39_k13,L2,rfl,rfl,rfl,rfl,h39_2,h39_6,h39_7,h39_8,h39_9,h39_10,h39_11,h39_24,h39_25,h39_26,h39_38,h39_39,h39_40,p39_0,p39_1,p39_2,_⟩
  refine w_q rfl rfl fun K40 k40=>l_v (Da h39_40 h39_39) (Asa k40 fun K41 k41=>Asg (t:=decide ((j:Int) < ((a36.length:Nat):Int))) rfl (fun b42=>?_) (fun b42=>?_))
  ·have q42:=of_decide_eq_true b42
   refine Al (k41 _ _ _ _ ?_)
   refine Ai fun K43 k43=>Ao (w_q rfl rfl fun K44 k44=>?_)
   obtain ⟨a46,ha46⟩:=Ed (xs:=a36) (i:=j) (by omega)
   have hspa46:=hSa36 _ _ ha46
   refine Arw (Ch j Bka Atf h39_38 r37 (q:=(j:Int)) h39_40 rfl ha46) fun v45 r45=>Arw (Ax Atf rfl r45) fun v47 r47=>Arv (Ct Awy fun k48=>?_)
   refine Cx rfl (Dv (v:=v47) (a:=a46) (c:=Bao) Atf rfl rfl r47 rfl ?_)
   refine Bb (a:=a46) r47 fun ρ49 l49 r49=>?_
   replace hg:=GlobP.mono l49 hg
   replace rp:=Bmg l49 rp
   replace rbs:=Bmo l49 rbs
   replace OG17_2:=Bmk l49 OG17_2
   refine Ary rfl rfl k44 fun K50 K51 k50 k51=>l_v (Ah (v:=(.map (some k13))) h39_8) (Arw (Ax Atf rfl r49) fun v52 r52=>?_)
   obtain ⟨e53_,⟨i53_1a,i53_1b⟩,⟨i53_2a,i53_2b⟩⟩:=Spot.open_ r52
   have e53_c:v52.cells = [(iV (a46.slot)),(iV (a46.picker))].toArray:=by rw [e53_]; rfl
   refine Bcn ⟨Bml,fun _ h=>h⟩ rfl (Baw Bjb Auh zr4 p39_2 rfl (rfl.trans e53_) (List.mem_cons_of_mem _ (List.mem_append_right _ (List.mem_cons_self ..)))) (l_k k51 (Asg (t:=decide ((a46.slot,a46.picker) ∈ L2)) rfl (fun b54=>?_) (fun b54=>?_)))
   ·have q54:=of_decide_eq_true b54
    refine Bx (k43 _ _ _ _ ?_)
    refine Ag rfl rfl (l_v (Br h39_40 rfl (z:=(((j + 1):Nat):Int)) wrE) (Asf (iV ((((j + 1):Nat):Int))) (Bj (Bmi l49) (Ac ?_))))
    refine ⟨_,?_,((j + 1)),(se39_k13),(sc39_k13),(L2),rfl,rfl,rfl,rfl,h39_2,h39_6,h39_7,h39_8,h39_9,h39_10,h39_11,h39_24,h39_25,h39_26,h39_38,h39_39,rfl,(by omega),p39_1,p39_2,trivial⟩
    omega
   have q54:=of_decide_eq_false b54
   refine Al (k50 _ _ _ _ ?_)
   refine w_q rfl rfl fun K55 k55=>l_v (Ah (v:=(.map (some k13))) h39_8) (Arw (Ax Atf rfl r49) fun v56 r56=>Bj (Bmj ((p_c Asd).trans Arz)) ?_)
   obtain ⟨e58_,⟨i58_1a,i58_1b⟩,⟨i58_2a,i58_2b⟩⟩:=Spot.open_ r56
   have e58_c:v56.cells = [(iV (a46.slot)),(iV (a46.picker))].toArray:=by rw [e58_]; rfl
   refine Cx rfl (Bdc (i:=0) Bjb Auh p39_2 q54 rfl (rfl.trans e58_) rfl rfl fun es57 ck57 SM57=>?_)
   refine Ary rfl rfl k55 fun K59 K60 k59 k60=>l_v (Ah (v:=w9) h39_6) (l_v (Ah (v:=w11) h39_7) (l_v (Ah (v:=(iV ((i:Int)))) h39_9) (l_v (Br rfl rfl (z:=(((i + 1):Nat):Int)) wrE) (Arw (Ack ((i + 1)) Bhy ty3 rfl rbs (q:=(((i + 1):Nat):Int)) rfl rfl (by omega)) fun v61 r61=>l_v (Ah (v:=(.map (some k13))) h39_8) ?_))))
   have hLb62:=Aut p39_1 hspa46
   refine Arv (Cm (vs:=[w9,v61,(.map (some k13))]) (Bfn rp r61 hal (Awd hbs _) SM57 hLb62) Blj rfl rfl ⟨rfl,rfl,rfl,trivial⟩ fun w63 ρ63 σ63 hc63=>?_)
   obtain ⟨hr63,hs63,b63_,hw63⟩:=hc63
   replace hr63:=hr63.symm; replace hs63:=hs63.symm; subst hr63 hs63 hw63
   refine l_k k60 (Asg (t:=b63_) rfl (fun b64=>?_) (fun b64=>?_))
   ·refine w_q rfl rfl fun K65 k65=>Arw (Ax Atf rfl r49) fun v66 r66=>?_
    obtain ⟨e67_,⟨i67_1a,i67_1b⟩,⟨i67_2a,i67_2b⟩⟩:=Spot.open_ r66
    have e67_c:v66.cells = [(iV (a46.slot)),(iV (a46.picker))].toArray:=by rw [e67_]; rfl
    refine Cx rfl (Li (i:=1) (vs:=[(iV (a46.slot)),(iV (a46.picker))]) (c':=[(iV (a46.slot)),(iV (a46.picker))]) ⟨_,Ab Bkk,rfl⟩ h39_11 rfl e67_c rfl (Zh ⟨rfl,rfl,trivial⟩) rfl (Nat.le_of_ble_eq_true rfl) rfl ?_)
    refine l_k k65 (Bx (k31 _ _ _ _ ?_))
    refine w_q rfl rfl fun K68 k68=>Arv (Xo (i:=1) (cs:=[(iV (a46.slot)),(iV (a46.picker))]) (rs:=[]) ⟨_,Bjj,rfl⟩ ⟨_,Ab Bkk,rfl⟩ h39_11 rfl rfl rfl ?_)
    have r69:Val ρ49 (.agg #[(iV (a46.slot)),(iV (a46.picker))]) (⟨a46.slot,a46.picker⟩:Spot):=Spot.shut (x:=(⟨a46.slot,a46.picker⟩:Spot)) (show I64 (a46.slot) from by constructor <;> omega) (show I64 (a46.picker) from by constructor <;> omega)
    refine Arw (Ax Atf rfl hg.nowhere) fun v70 r70=>?_
    obtain ⟨e71_,⟨i71_1a,i71_1b⟩,⟨i71_2a,i71_2b⟩⟩:=Spot.open_ r70
    have e71_c:v70.cells = [(iV ((-1))),(iV ((-1)))].toArray:=by rw [e71_]; rfl
    refine l_v (Aci (ps:=[a46.slot,a46.picker]) (qs:=[(-1),(-1)]) Bjj (by kernel_rfl) (by kernel_rfl) rfl (rfl.trans e71_) ⟨⟨by decide,_,Bib,rfl,rfl⟩,⟨by decide,_,Bib,rfl,rfl⟩,trivial⟩) (l_k k68 (Asg (t:=!(decide ([a46.slot,a46.picker] = [(-1),(-1)]))) rfl (fun b72=>?_) (fun b72=>?_)))
    ·have b73:=not_eq_t b72
     have q73:=of_decide_eq_false b73
     refine Ag rfl rfl (l_v (Ah (v:=ov17_2) h39_2) (l_v (Ah (v:=(iV (a24))) h39_10) (l_v (Cb Bjj rfl rfl ⟨_,Ab Bhx,rfl⟩ (by decide) h39_11 rfl) (Arv (Dt (i:=1) (v:=(iV (a46.picker))) ⟨_,Bib,rfl⟩ rfl rfl rfl ?_)))))
     refine l_v (Cb Bjj rfl rfl ⟨_,Ab Bhx,rfl⟩ (by decide) h39_11 rfl) (Arv (Dt (i:=1) (v:=(iV (a46.slot))) ⟨_,Bib,rfl⟩ rfl rfl rfl ?_))
     have r74:Val ρ49 (.agg #[(iV (a24)),(iV (a46.picker)),(iV (a46.slot))]) (⟨a24,a46.picker,a46.slot⟩:Pick):=Pick.shut (x:=(⟨a24,a46.picker,a46.slot⟩:Pick)) (show I64 (a24) from by constructor <;> omega) (show I64 (a46.picker) from by constructor <;> omega) (show I64 (a46.slot) from by constructor <;> omega)
     refine l_v (Dn (ns:=[1,1,1]) (vs:=[(0,(iV (a24))),(1,(iV (a46.picker))),(2,(iV (a46.slot)))]) (zc:=Bdn) (cs:=[(iV (a24)),(iV (a46.picker)),(iV (a46.slot))]) Bkf Ayk rfl ⟨⟨_,Ab Bhx,rfl⟩,⟨_,Ab Bhx,rfl⟩,⟨_,Ab Bhx,rfl⟩,trivial⟩ (EvB.map ⟨⟨rfl,rfl⟩,⟨rfl,rfl⟩,⟨rfl,rfl⟩,trivial⟩) ((Be (cs:=[(iV (a24))]) rfl rfl (Nat.le_of_ble_eq_true rfl)).trans ((Be (cs:=[(iV (a46.picker))]) rfl rfl (Nat.le_of_ble_eq_true rfl)).trans ((Be (cs:=[(iV (a46.slot))]) rfl rfl (Nat.le_of_ble_eq_true rfl)).trans rfl)))) (Arv (Bi (α:=Pick) (xs:=[(⟨a24,a46.picker,a46.slot⟩:Pick)]) (vs:=[(.agg #[(iV (a24)),(iV (a46.picker)),(iV (a46.slot))])]) Bji Avr Ayk rfl (by decide) (Dk (os:=[.tmp 69]) ⟨rfl,trivial⟩) ⟨r74,trivial⟩ rfl (by decide) fun k75 cs75 R75=>?_))
     have G75:Grow ρ49 45 (.slice (some ⟨k75,0,none⟩) 1 1) ([(⟨a24,a46.picker,a46.slot⟩:Pick)]:List Pick) [(k75,oC cs75.toArray 45)]:=Bs R75 rfl (by decide)
     refine Ca G75 fun ρ77 l77 r77=>?_
     replace OG17_2:=Bmk l77 OG17_2
     refine Bj (Bmj ((p_c Asc).trans Asc)) (Arv (Gc (σ:=((k13,Res.obj (Obj.map es57 ck57)) :: ((k28,oC #[(iV (a46.slot)),(iV (a46.picker))] 93) :: σ))) (gr:=og17_2) (xs:=pk) (ys:=([(⟨a24,a46.picker,a46.slot⟩:Pick)]:List Pick)) Bji Bji (Ab Bld) rfl (Nat.le_of_ble_eq_true rfl) rfl rfl rfl rfl OG17_2 r77 (by simp only [List.length_append,List.length_cons,List.length_nil] at *; omega) fun v76 gr76 G76=>?_))
     refine Lo v76 (l_k k21 (Ag rfl rfl (l_v (Br h39_26 rfl (z:=(((i + 1):Nat):Int)) wrE) (Asf (iV ((((i + 1):Nat):Int))) (Bj (Bmj ((p_a Arz).trans Asd)) (Bj Bmh (Ac ?_)))))))
     refine ⟨_,?_,((i + 1)),((pk ++ ([(⟨a24,a46.picker,a46.slot⟩:Pick)]:List Pick))),(es57),(ck57),((L2 ++ [(a46.slot,a46.picker)])),v76,gr76,rfl,rfl,(Bmm (Bmm l17 l49) l77),rfl,h39_6,h39_7,h39_8,h39_24,h39_25,rfl,rfl,(by omega),hLb62,⟨Axo p17_2.1 hbia24,by have:=p17_2.2; simp only [List.length_append,List.length_cons,List.length_nil]; omega⟩,SM57,(Fy (rfl) G76),trivial⟩
     omega
    have b78:=not_eq_f b72
    have q78:=of_decide_eq_true b78
    refine Al (k21 _ _ _ _ ?_)
    refine Ag rfl rfl (l_v (Br h39_26 rfl (z:=(((i + 1):Nat):Int)) wrE) (Asf (iV ((((i + 1):Nat):Int))) (Bj (Bmj Arz) (Bj Bmh (Bj (Bmj Asc) (Ac ?_))))))
    refine ⟨_,?_,((i + 1)),(pk),(es57),(ck57),((L2 ++ [(a46.slot,a46.picker)])),ov17_2,og17_2,rfl,rfl,(Bmm l17 l49),rfl,h39_6,h39_7,h39_8,h39_24,h39_25,h39_2,rfl,(by omega),hLb62,⟨p17_2.1,by have:=p17_2.2; omega⟩,SM57,(Fy (rfl) OG17_2),trivial⟩
    omega
   refine Al (k59 _ _ _ _ ?_)
   refine Ag rfl rfl (l_v (Ah (v:=(.map (some k13))) h39_8) (Arw (Ax Atf rfl r49) fun v79 r79=>?_))
   obtain ⟨e81_,⟨i81_1a,i81_1b⟩,⟨i81_2a,i81_2b⟩⟩:=Spot.open_ r79
   have e81_c:v79.cells = [(iV (a46.slot)),(iV (a46.picker))].toArray:=by rw [e81_]; rfl
   refine Cx rfl (Bfy (i:=0) Bjb Auh SM57 rfl (rfl.trans e81_) rfl fun es80 Ld80 SM80 hd80=>?_)
   have hLd80:=Azo hLb62 hd80
   refine l_k k43 (Ag rfl rfl (l_v (Br h39_40 rfl (z:=(((j + 1):Nat):Int)) wrE) (Asf (iV ((((j + 1):Nat):Int))) (Bj (Bmj ((p_c Asc).trans Asc)) (Bj (Bmj ((p_a Arz).trans Asd)) (Bj (Bmi l49) (Ac ?_)))))))
   refine ⟨_,?_,((j + 1)),(es80),(ck57),(Ld80),rfl,rfl,rfl,rfl,h39_2,h39_6,h39_7,h39_8,h39_9,h39_10,h39_11,h39_24,h39_25,h39_26,h39_38,h39_39,rfl,(by omega),hLd80,SM80,trivial⟩
   omega
  have q42:=of_decide_eq_false b42
  refine Bx (k31 _ _ _ _ ?_)
  refine w_q rfl rfl fun K82 k82=>Arv (Xo (i:=0) (cs:=[(iV ((-1))),(iV ((-1)))]) (rs:=[]) ⟨_,Bjj,rfl⟩ ⟨_,Ab Bkk,rfl⟩ h39_11 rfl rfl rfl ?_)
  have r83:Val ρ17 (.agg #[(iV ((-1))),(iV ((-1)))]) (⟨(-1),(-1)⟩:Spot):=Spot.shut (x:=(⟨(-1),(-1)⟩:Spot)) (show I64 ((-1)) from by constructor <;> omega) (show I64 ((-1)) from by constructor <;> omega)
  refine Arw (Ax Atf rfl hg.nowhere) fun v84 r84=>?_
  obtain ⟨e85_,⟨i85_1a,i85_1b⟩,⟨i85_2a,i85_2b⟩⟩:=Spot.open_ r84
  have e85_c:v84.cells = [(iV ((-1))),(iV ((-1)))].toArray:=by rw [e85_]; rfl
  refine l_v (Aci (ps:=[(-1),(-1)]) (qs:=[(-1),(-1)]) Bjj (by kernel_rfl) (by kernel_rfl) rfl (rfl.trans e85_) ⟨⟨by decide,_,Bib,rfl,rfl⟩,⟨by decide,_,Bib,rfl,rfl⟩,trivial⟩) (l_k k82 (Asg (t:=!(decide ([(-1),(-1)] = [(-1),(-1)]))) rfl (fun b86=>?_) (fun b86=>?_)))
  ·have b87:=not_eq_t b86
   have q87:=of_decide_eq_false b87
   refine Ag rfl rfl (l_v (Ah (v:=ov17_2) h39_2) (l_v (Ah (v:=(iV (a24))) h39_10) (l_v (Cb Bjj rfl rfl ⟨_,Ab Bhx,rfl⟩ (by decide) h39_11 rfl) (Arv (Dt (i:=0) (v:=(iV ((-1)))) ⟨_,Bib,rfl⟩ rfl rfl rfl ?_)))))
   refine l_v (Cb Bjj rfl rfl ⟨_,Ab Bhx,rfl⟩ (by decide) h39_11 rfl) (Arv (Dt (i:=0) (v:=(iV ((-1)))) ⟨_,Bib,rfl⟩ rfl rfl rfl ?_))
   have r88:Val ρ17 (.agg #[(iV (a24)),(iV ((-1))),(iV ((-1)))]) (⟨a24,(-1),(-1)⟩:Pick):=Pick.shut (x:=(⟨a24,(-1),(-1)⟩:Pick)) (show I64 (a24) from by constructor <;> omega) (show I64 ((-1)) from by constructor <;> omega) (show I64 ((-1)) from by constructor <;> omega)
   refine l_v (Dn (ns:=[1,1,1]) (vs:=[(0,(iV (a24))),(1,(iV ((-1)))),(2,(iV ((-1))))]) (zc:=Bdn) (cs:=[(iV (a24)),(iV ((-1))),(iV ((-1)))]) Bkf Ayk rfl ⟨⟨_,Ab Bhx,rfl⟩,⟨_,Ab Bhx,rfl⟩,⟨_,Ab Bhx,rfl⟩,trivial⟩ (EvB.map ⟨⟨rfl,rfl⟩,⟨rfl,rfl⟩,⟨rfl,rfl⟩,trivial⟩) ((Be (cs:=[(iV (a24))]) rfl rfl (Nat.le_of_ble_eq_true rfl)).trans ((Be (cs:=[(iV ((-1)))]) rfl rfl (Nat.le_of_ble_eq_true rfl)).trans ((Be (cs:=[(iV ((-1)))]) rfl rfl (Nat.le_of_ble_eq_true rfl)).trans rfl)))) (Arv (Bi (α:=Pick) (xs:=[(⟨a24,(-1),(-1)⟩:Pick)]) (vs:=[(.agg #[(iV (a24)),(iV ((-1))),(iV ((-1)))])]) Bji Avr Ayk rfl (by decide) (Dk (os:=[.tmp 69]) ⟨rfl,trivial⟩) ⟨r88,trivial⟩ rfl (by decide) fun k89 cs89 R89=>?_))
   have G89:Grow ρ17 45 (.slice (some ⟨k89,0,none⟩) 1 1) ([(⟨a24,(-1),(-1)⟩:Pick)]:List Pick) [(k89,oC cs89.toArray 45)]:=Bs R89 rfl (by decide)
   refine Ca G89 fun ρ91 l91 r91=>?_
   replace OG17_2:=Bmk l91 OG17_2
   refine Bj (Bmj Asc) (Arv (Gc (σ:=((k28,oC #[(iV ((-1))),(iV ((-1)))] 93) :: ((k13,Res.obj (Obj.map se39_k13 sc39_k13)) :: σ))) (gr:=og17_2) (xs:=pk) (ys:=([(⟨a24,(-1),(-1)⟩:Pick)]:List Pick)) Bji Bji (Ab Bld) rfl (Nat.le_of_ble_eq_true rfl) rfl rfl rfl rfl OG17_2 r91 (by simp only [List.length_append,List.length_cons,List.length_nil] at *; omega) fun v90 gr90 G90=>?_))
   refine Lo v90 (l_k k21 (Ag rfl rfl (l_v (Br h39_26 rfl (z:=(((i + 1):Nat):Int)) wrE) (Asf (iV ((((i + 1):Nat):Int))) (Bj (Bmj Asd) (Bj Bmh (Ac ?_)))))))
   refine ⟨_,?_,((i + 1)),((pk ++ ([(⟨a24,(-1),(-1)⟩:Pick)]:List Pick))),(se39_k13),(sc39_k13),(L2),v90,gr90,rfl,rfl,(Bmm l17 l91),rfl,h39_6,h39_7,h39_8,h39_24,h39_25,rfl,rfl,(by omega),p39_1,⟨Axo p17_2.1 hbia24,by have:=p17_2.2; simp only [List.length_append,List.length_cons,List.length_nil]; omega⟩,p39_2,(Fy (rfl) G90),trivial⟩
   omega
  have b92:=not_eq_f b86
  have q92:=of_decide_eq_true b92
  refine Al (k21 _ _ _ _ ?_)
  refine Ag rfl rfl (l_v (Br h39_26 rfl (z:=(((i + 1):Nat):Int)) wrE) (Asf (iV ((((i + 1):Nat):Int))) (Bj Bmh (Ac ?_))))
  refine ⟨_,?_,((i + 1)),(pk),(se39_k13),(sc39_k13),(L2),ov17_2,og17_2,rfl,rfl,l17,rfl,h39_6,h39_7,h39_8,h39_24,h39_25,h39_2,rfl,(by omega),p39_1,⟨p17_2.1,by have:=p17_2.2; omega⟩,p39_2,(Fy (rfl) OG17_2),trivial⟩
  omega
 have q20:=of_decide_eq_false b20
 refine Bx (k14 _ _ _ _ ?_)
 refine Ai fun K93 k93=>Hc OG17_2 fun ρ94 l94 r94=>?_
 replace rp:=Bmg l94 rp
 replace rbs:=Bmo l94 rbs
 refine Ag rfl rfl (l_v (Ah (v:=ov17_2) h17_2) (l_v (Ah (v:=w9) h17_6) (l_v (Ah (v:=w11) h17_7) (Arv (Bm (Ayx rp rbs ok hbs hbn) Tryd.func29 rfl rfl ⟨rfl,rfl,trivial⟩ ?_)))))
 refine Lo ov17_2 (Lo (iV (Ast m bs)) (Lo (iV (0)) (l_k k93 (Aj Bmh (Aq (hret _ _ _ (⟨(Bmm (Bmm (Bmm (Bmm l2 l9) l11) l17) l94),rfl,_,pk,_,(Mp (r:=2) (r':=3) (rs:=[4]) (v:=ov17_2) (v':=(iV (Ast m bs))) (vs:=[(iV (0))]) ⟨rfl,rfl,rfl,trivial⟩),r94,p17_2.1,by have:=p17_2.2; omega⟩)))))))
end
section
open Go
/-- What a house sells,alone. -/
def Atl (h:Nat) (ss:List Sale):Int:=(ss.map fun s=>if s.sellers = [(h:Int)] then s.grams else 0).sum
theorem Ats {h:Nat} {s:Sale} {ss:List Sale}:Atl h (s :: ss) = (if s.sellers = [(h:Int)] then s.grams else 0) + Atl h ss:=by simp [Atl]
theorem Bbr {h:Nat} {ss l:List Sale} (hs:ss.Sublist l) (hl:∀ s ∈ l,0 ≤ s.grams):Atl h ss ≤ Atl h l:=by
 induction hs with
 | slnil=>exact Int.le_refl _
 | cons a hs ih =>
  rw [Ats]
  have h1:=ih fun x hx=>hl x (List.mem_cons_of_mem _ hx)
  have h2:=hl a (List.mem_cons_self ..)
  split <;> omega
 | cons_cons a hs ih =>
  rw [Ats,Ats]
  have h1:=ih fun x hx=>hl x (List.mem_cons_of_mem _ hx)
  omega
theorem Awp {ss:List Sale} (hs:∀ s ∈ ss,∃ h:Nat,h < 5∧s.sellers = [(h:Int)]):(ss.map Sale.grams).sum = Df 5 (fun h=>Atl h ss):=by
 induction ss with
 | nil=>exact (Ii (n:=5) (f:=fun h=>Atl h []) fun _ _=>rfl).symm
 | cons s ss ih =>
  have h1:=ih fun x hx=>hs x (List.mem_cons_of_mem _ hx)
  obtain ⟨h,h5,he⟩:=hs s (List.mem_cons_self ..)
  rw [List.map_cons,List.sum_cons,h1]
  have e:Df 5 (fun k=>Atl k (s :: ss)) = Df 5 (fun k=>Atl k ss) + s.grams:=by
   have:=Mb (n:=5) (k:=h) (f:=fun k=>Atl k ss) (g:=fun k=>Atl k (s :: ss)) h5 fun i _ hi=>by
    rw [Ats,if_neg,Int.zero_add]
    rw [he]; intro hc; injection hc with hc; omega
   rw [this,Ats,if_pos he]; omega
  rw [e]; omega
structure PickM (m:Market) (e:Int) (k:Nat):Prop where
 pos:∀ s ∈ m.sales,0 ≤ s.grams
 one:∀ s ∈ m.sales,∃ h:Nat,h < 5∧s.sellers = [(h:Int)]
 giv:∀ h:Nat,h < 5→Atl h m.sales = Em m h + (if h = k then e else 0)
theorem Awn {h:Nat} {ss:List Sale} (hs:∀ s ∈ ss,s.sellers ≠ [(h:Int)]):Atl h ss = 0:=by
 induction ss with
 | nil=>rfl
 | cons s ss ih=>rw [Ats,if_neg (hs s (List.mem_cons_self ..)),ih fun x hx=>hs x (List.mem_cons_of_mem _ hx)]; rfl
theorem Avp {h:Nat} {ss:List Sale} (hs:∀ s ∈ ss,∃ h:Nat,h < 5∧s.sellers = [(h:Int)]):ss.any (Gn · h) = true↔∃ s ∈ ss,s.sellers = [(h:Int)]:=by
 rw [List.any_eq_true]
 constructor
 ·rintro ⟨s,h1,h2⟩
  obtain ⟨k,_,he⟩:=hs s h1
  refine ⟨s,h1,?_⟩
  unfold Gn at h2
  rw [he] at h2 ⊢
  simp at h2
  rw [h2]
 ·rintro ⟨s,h1,h2⟩
  refine ⟨s,h1,?_⟩
  unfold Gn
  rw [h2]; simp
theorem Bej {m:Market} {e:Int} {k:Nat} (ok:MarketOk m) (p:PickM m e k) (hk:k < 5) (he:0 ≤ e) {ss:List Sale} (hs:ss.Sublist m.sales):Ue m ss ≤ e:=by
 have h1:∀ s ∈ ss,∃ h:Nat,h < 5∧s.sellers = [(h:Int)]:=fun s hm=>p.one s (hs.subset hm)
 unfold Ue
 rw [Awp h1]
 have h2:Df 5 (fun h=>Atl h ss) ≤ Df 5 (fun h=>(if ss.any (Gn · h) then Em m h else 0) + (if h = k then e else 0)):=Oe fun h h5=>by
  have h3:=Bbr (h:=h) hs p.pos
  have h4:=p.giv h h5
  by_cases ha:ss.any (Gn · h) = true
  ·rw [if_pos ha]; omega
  ·rw [if_neg ha,Awn fun s hm hc=>ha ((Avp h1).2 ⟨s,hm,hc⟩)]
   split <;> omega
 rw [Ajf] at h2
 have h5:Df 5 (fun h=>if h = k then e else 0) = e:=by
  have:=Mb (n:=5) (k:=k) (f:=fun _=>0) (g:=fun h=>if h = k then e else 0) hk fun i _ hi=>if_neg hi
  rw [this,Ii fun _ _=>rfl,if_pos rfl]; omega
 omega
theorem Azh {m:Market} {e:Int} {k:Nat} (h:Cf m = 0) (p:PickM m e k) (hk:k < 5) (he:0 ≤ e) (hx:e = 0∨∃ s ∈ m.sales,s.sellers = [(k:Int)]):Ahr m = e:=by
 have ok:=Rg h
 unfold Ahr
 rw [if_pos h]
 obtain ⟨ss,h1,h2⟩:=Bcl (m:=m)
 have h3:=Bej ok p hk he h1
 rcases hx with rfl | hx
 ·have:=Auz ok; omega
 ·have h4:Ue m m.sales = e:=by
   unfold Ue
   rw [Awp p.one]
   have h5:Df 5 (fun h=>Atl h m.sales) = Df 5 (fun h=>(if m.sales.any (Gn · h) then Em m h else 0) + (if h = k then e else 0)):=Et fun h h5=>by
    have h4:=p.giv h h5
    by_cases ha:m.sales.any (Gn · h) = true
    ·rw [if_pos ha]; exact h4
    ·rw [if_neg ha]
     have h0:Atl h m.sales = 0:=Awn fun s hm hc=>ha ((Avp p.one).2 ⟨s,hm,hc⟩)
     have hne:h ≠ k:=fun e=>ha ((Avp p.one).2 (e ▸ hx))
     rw [h0,if_neg hne]; rfl
   rw [h5,Ajf]
   have h6:Df 5 (fun h=>if h = k then e else 0) = e:=by
    have:=Mb (n:=5) (k:=k) (f:=fun _=>0) (g:=fun h=>if h = k then e else 0) hk fun i _ hi=>if_neg hi
    rw [this,Ii fun _ _=>rfl,if_pos rfl]; omega
   omega
  have h7:=Bad (m:=m) (ss:=m.sales) (List.Sublist.refl _)
  omega
end
end Go.Proofs.YtphgjjmlnkgghaaDoor
