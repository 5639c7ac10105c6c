/- Part 1 of what all laws of layer 8 need: a logic of programs that start goroutines, and what the functions yield. -/
import Derived.Below
import Derived.Conc.Beside
import Derived.Conc.CrowdBase
import Derived.Conc.CrowdComm
import Derived.Conc.Know
import Derived.Conc.Own
import Derived.Laws.BitsAllLaws
import Derived.Laws.BitsLemmas
import Derived.Laws.Closers25b
import Derived.Orders
import Derived.Test.YtjdkajkimeainaaGreatDoorProg
set_option linter.unusedVariables false
set_option linter.unusedSimpArgs false
set_option maxRecDepth 100000
set_option maxHeartbeats 4000000
namespace Go.Proofs.YtjdkajkimeainaaGreatDoor
section
open Go
abbrev o1:=true
abbrev o0:=false
abbrev iV(n:Int):Value:=.int .i64 n
abbrev z0:Value:=.int .i64 0
abbrev nS:Value:=.slice none 0 0
abbrev lZ0:=@List.mem_cons_of_mem
abbrev lZ1:=@List.length_append
abbrev lZ2:=@List.length_cons
abbrev lZ3:=@of_decide_eq_true
abbrev lZ4:=@of_decide_eq_false
abbrev lZ5:=@Nat.le_of_ble_eq_true
abbrev lZ6:=@List.mem_of_getElem?
abbrev lZ7:=@Nat.eq_of_beq_eq_true
abbrev lZ8:=@List.mem_cons
abbrev lZ9:=@List.append_assoc
abbrev Ea:=@List.length_take
abbrev Dy:=@List.length_nil
abbrev En:=@List.length_drop
abbrev Ig:=@List.getElem?_eq_some_iff
abbrev Fd:=@Bool.and_eq_true
abbrev Fb:=@List.mem_append
abbrev Ib:=@List.getElem?_toArray
abbrev Ix:=@List.mem_append_right
abbrev Hs:=@List.all_eq_true
abbrev Et:=@Nat.le_refl
abbrev Lb:=@List.mem_append_left
abbrev Hd:=@List.map_cons
abbrev Lc:=@List.mem_singleton
abbrev Ir:=@List.map_append
abbrev Ml:=@List.mem_map_of_mem
abbrev Og:=@List.getElem?_eq_none
abbrev Ng:=@Nat.lt_of_lt_of_le
abbrev Iu:=@List.mem_map
abbrev Lz:=@List.append_nil
abbrev Lg:=@decide_eq_true
abbrev Uk:=@List.getD_eq_getElem?_getD
abbrev Oh:=@List.mem_cons_self
abbrev Nn:=@List.take_length
abbrev Qq:=@List.length_singleton
abbrev Sl:=@List.getElem?_cons_succ
abbrev Oj:=@List.getElem?_map
abbrev Nu:=@List.cons_append
abbrev Um:=@List.getElem?_eq_getElem
abbrev Nv:=@List.mem_filter
abbrev Ol:=@List.nodup_cons
abbrev Om:=@decide_eq_false
abbrev Mg:=@Nat.lt_or_ge
abbrev Mm:=@Nat.le_trans
abbrev Aem:=@List.eq_nil_of_length_eq_zero
abbrev Pj:=@List.nil_append
abbrev Aan:=@Array.getElem?_eq_some_iff
abbrev Rk:=@List.getElem?_set
abbrev Aen:=@Array.getElem?_append_right
abbrev Mq:=@Nat.zero_le
abbrev Rl:=@List.not_mem_nil
abbrev Ww:=@Array.toArray_toList
abbrev Vh:=@Array.empty_append
abbrev Sm:=@List.length_set
abbrev Wx:=@Array.append_empty
abbrev Aao:=@List.take_append_drop
abbrev Po:=@Nat.zero_add
abbrev Ahm:=@List.getElem?_append_left
abbrev Aau:=@List.getElem?_of_mem
abbrev Yx:=@List.getElem?_drop
abbrev Pp:=@Nat.add_mul
abbrev Vi:=@List.drop_zero
abbrev Un:=@List.all_cons
abbrev Yy:=@List.range'_succ
abbrev Aav:=@List.nodup_append
abbrev Aaw:=@List.size_toArray
abbrev Aep:=@Bool.false_eq_true
abbrev Aqd:=@Array.size_setIfInBounds
abbrev Ato:=@Array.getD_eq_getD_getElem?
abbrev Ayz:=@Array.getElem?_setIfInBounds_ne
abbrev Aax:=@List.length_map
abbrev Vn:=@Nat.add_zero
abbrev Aqe:=@List.length_replicate
abbrev Atp:=@Option.isSome_iff_exists
abbrev Aeq:=@Nat.not_lt_zero
abbrev Aes:=@Option.map_some
abbrev Ahn:=@List.mem_toArray
abbrev Bin:=@Array.getElem?_setIfInBounds_self_of_lt
abbrev Aey:=@Nat.mul_le_mul
abbrev Amw:=@Int.toNat_natCast
abbrev Amx:=@Nat.succ_ne_self
abbrev Atq:=@Array.mapM_eq_foldlM
abbrev Aza:=@List.getElem?_cons_zero
abbrev Bio:=@List.perm_append_comm_assoc
abbrev Atr:=@Array.getElem?_push
abbrev Azb:=@Array.getElem?_eq_none
abbrev Aqf:=@Option.getD_some
abbrev Azc:=@List.singleton_append
abbrev Aqg:=@List.all_append
abbrev Ats:=@List.ext_getElem?
abbrev Amy:=@Bool.and_true
abbrev Bip:=@List.drop_append_of_le_length
abbrev Biq:=@List.take_append_of_le_length
abbrev Azd:=@List.dropWhile_cons
abbrev Aqh:=@List.drop_drop
abbrev Att:=@List.perm_middle
abbrev Aqi:=@List.take_left
abbrev Bdp:=@List.sublist_cons_self
abbrev Atu:=@Bool.eq_iff_iff
abbrev Aze:=@List.any_eq_false
abbrev Bdq:=@Bool.or_eq_false_iff
abbrev Avo:=@List.append_eq_append_iff
abbrev Avp:=@List.drop_eq_getElem_cons
abbrev Apn:=@List.range_eq_range'
abbrev Apo:=@Nat.mul_le_mul_right
abbrev Aef:=@Array.mem_push
abbrev Aeg:=@Bool.and_false
abbrev Aim:=@List.foldlM_cons
abbrev Ain:=@Nat.lt_succ_self
abbrev Zt:=@Nat.ne_of_lt
abbrev App:=@List.toList_toArray
abbrev Avq:=@List.length_eq_zero_iff
abbrev Apq:=@Int.natCast_nonneg
abbrev Aio:=@List.foldl_cons
abbrev Apr:=@List.set_cons_zero
abbrev Aps:=@Option.isSome_none
abbrev Avr:=@List.drop_eq_nil_of_le
abbrev Avs:=@List.take_of_length_le
abbrev Bcv:=@List.count_eq_zero_of_not_mem
abbrev Apu:=@List.count_append
abbrev Apv:=@List.flatten_cons
abbrev Apx:=@List.take_add_one
abbrev Apy:=@Nat.lt_succ_of_lt
abbrev Avt:=@Array.getElem?_modify
abbrev Avu:=@Array.getElem?_toList
abbrev Aeh:=@List.map_set
abbrev Avv:=@List.mem_iff_getElem?
abbrev Aip:=@List.mem_range
abbrev Aiq:=@List.nodup_nil
abbrev Aei:=@Nat.add_comm
abbrev Aej:=@Nat.le_of_eq
abbrev Aek:=@Nat.sub_self
abbrev Avw:=@Array.push_eq_append
abbrev Apz:=@List.drop_length
abbrev Aqa:=@Nat.succ_le_succ
abbrev Bcw:=@List.getElem?_append_right
abbrev Ael:=@Nat.one_mul
abbrev Avx:=@Int.toNat_of_nonneg
abbrev Avy:=@List.getElem?_range
abbrev Avz:=@List.length_pos_iff
abbrev Bcx:=@Array.getElem?_eq_getElem
abbrev Bcy:=@List.extract_eq_take_drop
abbrev Awa:=@Array.getElem?_map
abbrev Awb:=@List.forIn_toArray
abbrev Bkr:=@List.set_eq_take_append_cons_drop
abbrev Air:=@Nat.mul_one
abbrev Aqb:=@Nat.add_assoc
abbrev Awc:=@List.getElem_mem
abbrev Bcz:=@Array.getElem?_of_mem
abbrev Bda:=@Bool.and_eq_false_iff
abbrev Bdb:=@Nat.ble_eq_true_of_le
abbrev Awd:=@List.forIn_cons
abbrev Ais:=@Nat.mod_lt
abbrev Aqc:=@Nat.zero_mul
abbrev Bdc:=@Array.toList_filter
abbrev Bdd:=@List.foldlM_toArray
abbrev Bde:=@List.getElem_of_mem
abbrev Bdf:=@List.replicate_succ
abbrev Bdg:=@List.getElem?_take
abbrev Awe:=@Bool.false_or
abbrev Awf:=@Bool.true_and
abbrev Bdh:=@Bool.not_eq_true'
abbrev Bdi:=@Array.toList_map
abbrev Bdj:=@List.all_toArray
abbrev Bdk:=@List.any_eq_true
abbrev Bdl:=@List.mem_flatMap
abbrev Awg:=@List.set_set
abbrev Bdm:=@List.zipIdx_cons
abbrev Bdn:=@Nat.le_add_right
abbrev Bdo:=@Option.bind_some
abbrev bZ0:List UInt8:=[48,49,50,51,52,53,54,55,56,57]
abbrev bZ1:List UInt8:=[98,111,111,107,32]
abbrev bZ2:List UInt8:=[48,49,50,51,52,53,54,55,56,57,97,98,99,100,101,102,103,104,105,106,107,108,109,110,111,112,113,114,115,116,117,118,119,120,121,122]
abbrev bZ3:List UInt8:=[98,111,111,107]
abbrev zT(a b:Nat):List Bool:=List.replicate a true++List.replicate b false
abbrev zZ0:=zT 23 5
abbrev zZ1:=zT 24 4
abbrev zZ2:=zT 25 3
abbrev zZ3:=zT 26 2
abbrev zZ4:=zT 27 1
abbrev zZ5:=zT 28 0
abbrev zZ6:=zT 17 11
abbrev zZ7:=zT 18 10
abbrev zZ8:=zT 19 9
abbrev zZ9:=zT 20 8
abbrev Ajy:=zT 21 7
abbrev Ajz:=zT 22 6
theorem bZl:(∀b,(true&&b)=b)∧(∀b,(false&&b)=false)∧(∀b,(b&&true)=b)∧(∀b,(b&&false)=false)∧(∀b,(true||b)=true)∧(∀b,(false||b)=b)∧(∀b,(b||true)=true)∧(∀b,(b||false)=b)∧(!true)=false∧(!false)=true:=by simp
abbrev bF:Value:=.bool false
abbrev bT:Value:=.bool true
abbrev pV(r:Nat):Value:=.pointer (some ⟨r,0,none⟩)
theorem nL{a b:Nat}(h:Nat.ble a b=true:=by exact rfl):a≤b:=lZ5 h
theorem mC{α:Type _}{a:α}{l:List α}:a∈a::l:=Oh
abbrev Ro:=Nat→Option Obj
/-- What is held at an owned number: a block;a new channel without a buffer that nobody else knows;the receiving end of a channel that still brings these values and is then closed;the receiving end of a channel with room,over which so many more may send one value each,and that still brings values of which these things are true,in any order. -/
inductive Res where
 | obj (o:Obj)
 | chan
 | recv (vs:List Value)
 | crowd (k:Nat) (Rs:List (Value→Ro→Prop))
abbrev Own:=List (Nat×Res)
def keys(σ:Own):List Nat:=σ.map Prod.fst
def Res.fits(W:World)(b:Nat):Res→Prop
 | .obj o=>W.heap[b]?=some o∧o.isChan=false
 | .chan=>∃s r tm,W.heap[b]?=some (.chan 0 #[] false s r tm)
 | .recv _=>∃s r cl tm,W.heap[b]?=some (.chan 0 #[] cl s r tm)
 | .crowd k Rs=>∃cap buf s r tm,W.heap[b]?=some (.chan cap buf false s r tm)∧k+Rs.length≤cap∧(Rs=[]→buf = #[]∧s=r)
structure Sat(ρ:Ro)(σ:Own)(W:World):Prop where
 ro:∀b o,ρ b=some o→W.heap[b]?=some o∧o.isChan=false
 own:∀p∈σ,p.2.fits W p.1
 nd:(keys σ).Nodup
 dj:∀b∈keys σ,ρ b=none
/-- A block that may be read. -/
def Has(ρ:Ro)(σ:Own)(b:Nat)(o:Obj):Prop:=ρ b=some o∨(b,Res.obj o)∈σ
def Gy:Obj→Nat→Option Value
 | .cells c _ _,i=>c[i]?
 | _,_=>none
/-- A mark that is no word of the library's,or that a call without a body sets (a step's list does not keep these). -/
def Bli:Mark→Prop
 | .extern _=>True
 | m=>Conc.Neutral m
def Xk:Obj→Option (TypeId×Nat)
 | .cells c t _=>some (t,c.size)
 | _=>none
def Lv(o:Obj)(i:Nat):Bool :=
 match o with
 | .cells _ _ (lo,hi)=>lo≤i&&i<hi
 | _=>false
def Sj:Obj→Bool
 | .cells ..=>true
 | _=>false
def single:Value→Bool
 | .agg _ | .tuple _=>false
 | _=>true
/-- What an operation's computation does to the owned blocks;a new block's number is any. -/
def wpS{α:Type}(P:Program)(ρ:Ro):Sem α→Own→(α→Own→Prop)→Prop
 | .pure a,σ,Q=>Q a σ
 | .load m a k,σ,Q=>m = .plain∧a.spot=none∧∃o v,Has ρ σ a.block o∧Gy o a.off=some v∧wpS P ρ (k v) σ Q
 | .store m a v k,σ,Q=>m = .plain∧a.spot=none∧single v=true∧∃i c t fz,σ[i]?=some (a.block,.obj (.cells c t fz))∧a.off<c.size ∧
   Lv (.cells c t fz) a.off=false∧wpS P ρ k (σ.set i (a.block,.obj (.cells (c.setIfInBounds a.off v) t fz))) Q
 | .new o k,σ,Q=>(o.isChan=false∧∀r,wpS P ρ (k r) ((r,.obj o)::σ) Q)∨(o = .chan 0 #[] false 0 0 false∧∀r,wpS P ρ (k r) ((r,.chan)::σ) Q) ∨
   (∃n,o = .chan n #[] false 0 0 false∧∀r,wpS P ρ (k r) ((r,.crowd n [])::σ) Q)
 | .shape r k,σ,Q=>∃o,Has ρ σ r o∧wpS P ρ (k (Xk o)) σ Q
 | .freeze a n k,σ,Q=>(n=0∧wpS P ρ k σ Q)∨(n≠0∧∃i c t lo hi,σ[i]?=some (a.block,.obj (.cells c t (lo,hi))) ∧
   wpS P ρ k (σ.set i (a.block,.obj (.cells c t (if lo==hi then (a.off,a.off+n) else (min lo a.off,max hi (a.off+n)))))) Q)
 | .frozen a k,σ,Q=>∃o,Has ρ σ a.block o∧wpS P ρ (k (Lv o a.off)) σ Q
 | .getObj r k,σ,Q=>∃o,Has ρ σ r o∧Sj o=false∧wpS P ρ (k o) σ Q
 | .setObj r o k,σ,Q=>o.isChan=false∧∃i o₀,σ[i]?=some (r,.obj o₀)∧Sj o₀=false∧wpS P ρ k (σ.set i (r,.obj o)) Q
 | .choose q k,σ,Q=>if q.forced then wpS P ρ (k 0) σ Q else ∀t,wpS P ρ (k (q.cut t)) σ Q
 | .sys _ _,_,_=>False
 | .program k,σ,Q=>wpS P ρ (k P) σ Q
 | .mark m k,σ,Q=>Bli m∧wpS P ρ k σ Q
 | .halt _,_,_=>False
/-- What a step of a goroutine does to the world. -/
structure Trans(ρ:Ro)(σ:Own)(W:World)(σ':Own)(W':World):Prop where
 sat:Sat ρ σ' W'
 size:W.heap.size≤W'.heap.size
 keys:∀b∈keys σ',b∈keys σ∨(W.heap.size≤b∧b<W'.heap.size)
 kept:∀b∈Go.Proofs.YtjdkajkimeainaaGreatDoor.keys σ,b∈Go.Proofs.YtjdkajkimeainaaGreatDoor.keys σ'
 fresh:∀b,W.heap.size≤b→b<W'.heap.size→b∈Go.Proofs.YtjdkajkimeainaaGreatDoor.keys σ'
 frame:∀b,b<W.heap.size→(∀o,(b,Res.obj o)∉σ)→W'.heap[b]?=W.heap[b]?
 ends:∀c vs,(c,Res.recv vs)∈σ'↔(c,Res.recv vs)∈σ
 chans:∀c,(c,Res.chan)∈σ'→(c,Res.chan)∈σ∨W.heap.size≤c
 chansKept:∀c,(c,Res.chan)∈σ→(c,Res.chan)∈σ'
 crowds:∀c k Rs,(c,Res.crowd k Rs)∈σ'→(c,Res.crowd k Rs)∈σ∨(W.heap.size≤c∧Rs=[])
 crowdsKept:∀c k Rs,(c,Res.crowd k Rs)∈σ→(c,Res.crowd k Rs)∈σ'
 tape:W'.tape=W.tape
 os:W'.os=W.os
 output:W'.output=W.output
/-- What a step of a goroutine may list. -/
def Wb(ρ:Ro)(σ:Own)(e:Event):Prop :=
 (∃a,e.loc = .cell a∧e.sync=false∧((∃o,(a.block,Res.obj o)∈σ)∨(e.write=false∧(ρ a.block).isSome=true))) ∨
 (∃r,e.loc = .obj r∧e.sync=false∧((∃o,(r,Res.obj o)∈σ)∨(e.write=false∧(ρ r).isSome=true))) ∨
 (∃m,e.loc = .mark m∧Conc.Neutral m)
theorem Du{σ:Own}{b:Nat}{r:Res}(h:(b,r)∈σ):b∈keys σ:=Iu.2 ⟨_,h,rfl⟩
theorem Sat.has{ρ:Ro}{σ:Own}{W:World}(h:Sat ρ σ W){b:Nat}{o:Obj}(hb:Has ρ σ b o):W.heap[b]?=some o∧o.isChan=false:=by
 rcases hb with hb|hb
 ·exact h.ro _ _ hb
 ·exact h.own _ hb
theorem Trans.refl{ρ:Ro}{σ:Own}{W:World}(h:Sat ρ σ W):Trans ρ σ W σ W :=
 ⟨h,Et _,fun _ hb=>.inl hb,fun _ hb=>hb,fun _ b a=>absurd a (by omega),fun _ _ _=>rfl,fun _ _=>Iff.rfl,fun _ h=>.inl h,fun _ h=>h,fun _ _ _ h=>.inl h,fun _ _ _ h=>h,rfl,rfl,rfl⟩
theorem Dq{W:World}{b:Nat}{o:Obj}(h:W.heap[b]?=some o):b<W.heap.size:=by
 rcases Mg b W.heap.size with h'|h'
 ·exact h'
 ·rw[Azb h']at h;cases h
theorem Res.fits_lt{W:World}{b:Nat}{r:Res}(h:r.fits W b):b<W.heap.size:=by
 cases r with
 | obj o=>exact Dq h.1
 | chan=>obtain⟨s,r,tm,h⟩:=h;exact Dq h
 | recv vs=>obtain⟨s,r,cl,tm,h⟩:=h;exact Dq h
 | crowd k Rs=>obtain⟨cap,buf,s,r,tm,h,_⟩:=h;exact Dq h
/-- What stands as it stood,fits as it did. -/
theorem Res.fits_of{W W':World}{b:Nat}{r:Res}(h:r.fits W b)(e:W'.heap[b]?=W.heap[b]?):r.fits W' b:=by
 cases r with
 | obj o=>exact⟨by rw[e];exact h.1,h.2⟩
 | chan=>obtain⟨s,r,tm,hh⟩:=h;exact⟨s,r,tm,by rw[e];exact hh⟩
 | recv vs=>obtain⟨s,r,cl,tm,hh⟩:=h;exact⟨s,r,cl,tm,by rw[e];exact hh⟩
 | crowd k Rs=>obtain⟨cap,buf,s,r,tm,hh,a⟩:=h;exact⟨cap,buf,s,r,tm,by rw[e];exact hh,a⟩
theorem Sat.key_lt{ρ:Ro}{σ:Own}{W:World}(h:Sat ρ σ W){b:Nat}(hb:b∈Go.Proofs.YtjdkajkimeainaaGreatDoor.keys σ):b<W.heap.size:=by
 obtain⟨p,hp,rfl⟩:=Iu.1 hb
 exact Res.fits_lt (h.own p hp)
/-- One owned number holds one thing. -/
theorem Sat.uniq{ρ:Ro}{σ:Own}{W:World}(h:Sat ρ σ W){b:Nat}{r r':Res}(h1:(b,r)∈σ)(h2:(b,r')∈σ):r=r':=by
 have nd:=h.nd
 clear h
 induction σ with
 | nil=>cases h1
 | cons p σ ih =>
  simp only[Go.Proofs.YtjdkajkimeainaaGreatDoor.keys,Hd,Ol]at nd
  rcases lZ8.1 h1 with rfl|h1'<;>rcases lZ8.1 h2 with h2'|h2'
  ·injection h2' with _ e;exact e.symm
  ·exact absurd (Du h2') nd.1
  ·subst h2';exact absurd (Du h1') nd.1
  ·exact ih h1' h2' nd.2
/-- A step's owned blocks stay owned blocks. -/
theorem Trans.objs{ρ:Ro}{σ σ':Own}{W W':World}(h0:Sat ρ σ W)(h:Trans ρ σ W σ' W'){b:Nat}{o:Obj}(hb:(b,Res.obj o)∈σ):∃o',(b,Res.obj o')∈σ':=by
 obtain⟨⟨b',r⟩,hr,e⟩:=Iu.1 (h.kept b (Du hb))
 simp only at e;subst e
 cases r with
 | obj o'=>exact⟨o',hr⟩
 | chan =>
  rcases h.chans _ hr with h1|h1
  ·exact absurd (h0.uniq hb h1) (by simp)
  ·exact absurd (h0.key_lt (Du hb)) (by omega)
 | recv vs=>exact absurd (h0.uniq hb ((h.ends _ _).1 hr)) (by simp)
 | crowd k Rs =>
  rcases h.crowds _ _ _ hr with h1|⟨h1,_⟩
  ·exact absurd (h0.uniq hb h1) (by simp)
  ·exact absurd (h0.key_lt (Du hb)) (by omega)
/-- Behind a step what is a block of one's own was so before it,or is new. -/
theorem Trans.objs_back{ρ:Ro}{σ σ':Own}{W W':World}(h0:Sat ρ σ W)(h:Trans ρ σ W σ' W'){b:Nat}{o:Obj}(hb:(b,Res.obj o)∈σ'):(∃o',(b,Res.obj o')∈σ)∨W.heap.size≤b:=by
 rcases h.keys b (Du hb) with h1|⟨h1,_⟩
 ·obtain⟨⟨b',r⟩,hr,e⟩:=Iu.1 h1
  simp only at e;subst e
  cases r with
  | obj o'=>exact .inl ⟨o',hr⟩
  | chan=>exact absurd (h.sat.uniq hb (h.chansKept _ hr)) (by simp)
  | recv vs=>exact absurd (h.sat.uniq hb ((h.ends _ _).2 hr)) (by simp)
  | crowd k Rs=>exact absurd (h.sat.uniq hb (h.crowdsKept _ _ _ hr)) (by simp)
 ·exact .inr h1
theorem Trans.trans{ρ:Ro}{σ σ' σ'':Own}{W W' W'':World}(h0:Sat ρ σ W)(h:Trans ρ σ W σ' W')(h':Trans ρ σ' W' σ'' W''):Trans ρ σ W σ'' W'':=by
 refine⟨h'.sat,Mm h.size h'.size,fun b hb=>?_,fun b hb=>h'.kept _ (h.kept _ hb),fun b a d=>?_,fun b hb hn=>?_,fun c vs=>(h'.ends c vs).trans (h.ends c vs),fun c hc=>?_,fun c hc=>h'.chansKept c (h.chansKept c hc),fun c k Rs hc=>?_,fun c k Rs hc=>h'.crowdsKept c k Rs (h.crowdsKept c k Rs hc),h'.tape.trans h.tape,h'.os.trans h.os,h'.output.trans h.output⟩
 ·rcases h'.keys b hb with a|⟨a,d⟩
  ·rcases h.keys b a with h3|⟨h3,h4⟩
   ·exact .inl h3
   ·exact .inr ⟨h3,Ng h4 h'.size⟩
  ·exact .inr ⟨Mm h.size a,d⟩
 ·rcases Mg b W'.heap.size with h3|h3
  ·exact h'.kept _ (h.fresh b a h3)
  ·exact h'.fresh b h3 d
 ·rw[h'.frame b (Ng hb h.size) ?_,h.frame b hb hn]
  intro o ho
  rcases h.objs_back h0 ho with⟨o',a⟩|a
  ·exact hn _ a
  ·omega
 ·rcases h'.chans c hc with a|a
  ·exact h.chans c a
  ·exact .inr (Mm h.size a)
 ·rcases h'.crowds c k Rs hc with a|⟨a,d⟩
  ·exact h.crowds c k Rs a
  ·exact .inr ⟨Mm h.size a,d⟩
theorem Tt{σ:Own}{i b:Nat}{r r':Res}(h:σ[i]?=some (b,r)):keys (σ.set i (b,r'))=keys σ:=by
 unfold keys
 rw[Aeh]
 apply Ats
 intro j
 rw[Rk]
 split
 ·rename_i e
  subst e
  split
  ·rw[Oj,h];rfl
  ·rename_i hlt
   rw[Og (by simpa using hlt)]
 ·rfl
theorem Gq{σ:Own}{i b:Nat}{r r':Res}(h:σ[i]?=some (b,r))(nd:(keys σ).Nodup){p:Nat×Res}(hp:p∈σ.set i (b,r')):p=(b,r')∨(p∈σ∧p.1≠b):=by
 obtain⟨j,hj,e⟩:=Bde hp
 rw[List.getElem_set]at e
 split at e
 ·exact .inl e.symm
 ·rename_i hne
  rw[Sm]at hj
  refine .inr ⟨e ▸ Awc _,fun hb=>?_⟩
  have hi:i<σ.length:=by
   rcases Mg i σ.length with h'|h'
   ·exact h'
   ·rw[Og h']at h;cases h
  have a:(keys σ)[i]'(by simpa[keys]using hi)=b:=by
   have:=Ig.1 h
   simp[keys,this.2]
  have c:(keys σ)[j]'(by simpa[keys]using hj)=b:=by simp[keys,e,hb]
  exact hne ((List.getElem_inj nd).1 (a.trans c.symm))
theorem On{σ:Own}{i b c:Nat}{o:Obj}{r r':Res}(hi:σ[i]?=some (b,.obj o))(hc:(c,r)∈σ)(hr:∀o,r ≠ .obj o):(c,r)∈σ.set i (b,r'):=by
 rcases Bde hc with⟨j,hj,e⟩
 refine lZ6 (i:=j) ?_
 rw[Rk]
 split
 ·rename_i e2
  subst e2
  rw[Um hj,e]at hi
  cases hi
  exact absurd rfl (hr o)
 ·rw[Um hj,e]
theorem Sat.setObj{ρ:Ro}{σ:Own}{W:World}(h:Sat ρ σ W){i b:Nat}{o o':Obj}(hi:σ[i]?=some (b,.obj o))(ho:o'.isChan=false){W':World}
  (hb:W'.heap[b]?=some o') (hsz:W'.heap.size=W.heap.size) (hne:∀k,k≠b→W'.heap[k]?=W.heap[k]?) (ht:W'.tape=W.tape) (hos:W'.os=W.os) (hout:W'.output=W.output) :
  Trans ρ σ W (σ.set i (b,.obj o')) W':=by
 have d:(b,Res.obj o)∈σ:=lZ6 hi
 have a:=Tt (r':=.obj o') hi
 have j:(b,Res.obj o')∈σ.set i (b,.obj o'):=by
  have hlt:i<σ.length:=by
   rcases Mg i σ.length with h'|h'
   ·exact h'
   ·rw[Og h']at hi;cases hi
  exact lZ6 (i:=i) (by rw[Rk];simp[hlt])
 refine⟨⟨fun k ok hk=>?_,fun p hp=>?_,by rw[a];exact h.nd,by rw[a];exact h.dj⟩,by omega,fun k hk=>.inl (by rw[a]at hk;exact hk),fun k hk=>by rw[a];exact hk,fun k g f=>absurd f (by omega),fun k hk hn=>hne k fun e=>hn o (e ▸ d),fun c vs=>⟨fun hc=>?_,fun hc=>?_⟩,fun c hc=>?_,fun c hc=>?_,fun c k Rs hc=>?_,fun c k Rs hc=>?_,ht,hos,hout⟩
 ·have hkb:k≠b:=fun e=>by
   have:=h.dj b (Du d)
   rw[e,this]at hk;cases hk
  rw[hne k hkb];exact h.ro k ok hk
 ·rcases Gq hi h.nd hp with rfl|⟨hp',hpb⟩
  ·exact⟨hb,ho⟩
  ·exact Res.fits_of (h.own p hp') (hne p.1 hpb)
 ·rcases Gq hi h.nd hc with e|⟨hc',_⟩
  ·cases e
  ·exact hc'
 ·exact On hi hc (by simp)
 ·rcases Gq hi h.nd hc with e|⟨hc',_⟩
  ·cases e
  ·exact .inl hc'
 ·exact On hi hc (by simp)
 ·rcases Gq hi h.nd hc with e|⟨hc',_⟩
  ·cases e
  ·exact .inl hc'
 ·exact On hi hc (by simp)
theorem Sat.pushRes{ρ:Ro}{σ:Own}{W:World}(h:Sat ρ σ W){o:Obj}{x:Res}(hx:x.fits {W with heap:=W.heap.push o} W.heap.size)(hr:∀vs,x ≠ .recv vs)(hcr:∀k Rs,x = .crowd k Rs→Rs=[]):Trans ρ σ W ((W.heap.size,x)::σ) {W with heap:=W.heap.push o}:=by
 have hnk:W.heap.size∉keys σ:=fun hk=>absurd (h.key_lt hk) (by omega)
 have a:∀k,k<W.heap.size→(W.heap.push o)[k]?=W.heap[k]?:=fun k hk=>by
  rw[Atr];rw[if_neg (by omega)]
 refine⟨⟨fun k ok hk=>?_,fun p hp=>?_,Ol.2 ⟨hnk,h.nd⟩,fun b hb=>?_⟩,by simp,fun k hk=>?_,fun k hk=>lZ0 _ hk,fun k g d=>?_,fun k hk _=>a k hk,fun c vs=>?_,fun c hc=>?_,fun c hc=>lZ0 _ hc,fun c k Rs hc=>?_,fun c k Rs hc=>lZ0 _ hc,rfl,rfl,rfl⟩
 ·have:=h.ro k ok hk
  exact⟨by show (W.heap.push o)[k]?=_;rw[a k (Dq this.1)];exact this.1,this.2⟩
 ·rcases lZ8.1 hp with rfl|hp'
  ·exact hx
  ·exact Res.fits_of (h.own p hp') (a p.1 (Res.fits_lt (h.own p hp')))
 ·rcases lZ8.1 hb with rfl|hb'
  ·cases hr:ρ W.heap.size with
   | none=>rfl
   | some o'=>exact absurd (Dq (h.ro _ _ hr).1) (by omega)
  ·exact h.dj b hb'
 ·rcases lZ8.1 hk with rfl|hk'
  ·exact .inr ⟨Et _,by simp⟩
  ·exact .inl hk'
 ·have f:k=W.heap.size:=by simp at d;omega
  subst f;exact Oh ..
 ·constructor
  ·intro hc
   rcases lZ8.1 hc with e|hc
   ·injection e with _ e;exact absurd e.symm (hr vs)
   ·exact hc
  ·exact fun hc=>lZ0 _ hc
 ·rcases lZ8.1 hc with e|hc
  ·injection e with e _;exact .inr (by omega)
  ·exact .inl hc
 ·rcases lZ8.1 hc with e|hc
  ·injection e with e e2;exact .inr ⟨by omega,hcr _ _ e2.symm⟩
  ·exact .inl hc
theorem Sat.push{ρ:Ro}{σ:Own}{W:World}(h:Sat ρ σ W){o:Obj}(ho:o.isChan=false):Trans ρ σ W ((W.heap.size,.obj o)::σ) {W with heap:=W.heap.push o} :=
 h.pushRes (x:=.obj o) ⟨by show (W.heap.push o)[W.heap.size]?=_;simp,ho⟩ (by simp) (by simp)
theorem World.cell?_of{W:World}{a:Addr}{o:Obj}(h:W.heap[a.block]?=some o)(hs:a.spot=none):W.cell? a=Gy o a.off:=by
 unfold World.cell?
 rw[h]
 cases o<;>simp[Gy,hs]
theorem World.frozen?_of{W:World}{a:Addr}{o:Obj}(h:W.heap[a.block]?=some o):W.frozen? a=Lv o a.off:=by
 unfold World.frozen?
 rw[h]
 cases o<;>simp[Lv]
theorem World.shape?_of{W:World}{r:Nat}{o:Obj}(h:W.heap[r]?=some o):W.shape? r=Xk o:=by
 unfold World.shape?
 rw[h]
 cases o<;>simp[Xk]
/-- What a computation may list. -/
def EvW(ρ:Ro)(σ:Own)(e:Event):Prop:=Wb ρ σ e∨∃f,e.loc = .mark (.extern f)
/-- What a step's list keeps. -/
def Axo(es:Array Event)(e:Event):Prop:=e∈es∧∀f,e.loc ≠ .mark (.extern f)
theorem Amj{ρ:Ro}{σ:Own}{es:Array Event}{e:Event}(h:∀e∈es,e∈(#[]:Array Event)∨EvW ρ σ e)(hk:Axo es e):Wb ρ σ e :=
 ((h e hk.1).resolve_left (by simp)).resolve_right fun⟨f,hf⟩=>hk.2 f hf
/-- SOUNDNESS: whatever else the world holds. -/
theorem Rr{α:Type}{P:Program}{ρ:Ro}:∀(s:Sem α) (σ:Own) (Q:α→Own→Prop) (W:World) (es:Array Event),wpS P ρ s σ Q→Sat ρ σ W →
  ∃a σ' W' es',s.runT P W es=(.ok a W',es')∧Q a σ'∧Trans ρ σ W σ' W'∧∀e∈es',e∈es∨EvW ρ σ' e:=by
 intro s
 induction s with
 | pure a=>exact fun σ Q W es h hs=>⟨a,σ,W,es,rfl,h,.refl hs,fun e he=>.inl he⟩
 | load m a k ih =>
  intro σ Q W es ⟨hm,hsp,o,v,ho,hv,hk⟩ hs
  obtain⟨a',σ',W',es',d,g,b,j⟩:=ih v σ Q W (es.push ⟨.cell a,false,false⟩) hk hs
  refine⟨a',σ',W',es',?_,g,b,fun e he=>?_⟩
  ·subst hm
   simp only[Sem.runT,World.cell?_of (hs.has ho).1 hsp,hv]
   exact d
  ·rcases j e he with h|h
   ·rcases Aef.1 h with h|rfl
    ·exact .inl h
    ·refine .inr (.inl (.inl ⟨a,rfl,rfl,?_⟩))
     rcases ho with ho|ho
     ·exact .inr ⟨rfl,by simp[ho]⟩
     ·exact .inl (b.objs hs ho)
   ·exact .inr h
 | store m a v k ih =>
  intro σ Q W es ⟨hm,hsp,hv,i,c,t,fz,hi,hlt,hfz,hk⟩ hs
  have p:(a.block,Res.obj (.cells c t fz))∈σ:=lZ6 hi
  have hb:=(hs.own _ p).1
  have u:=Dq hb
  have hW:(W.setCell a v).heap[a.block]?=some (.cells (c.setIfInBounds a.off v) t fz):=by
   have:=(Aan.1 hb).2
   simp[World.setCell,Avt,hb,hsp]
  have htr:Trans ρ σ W (σ.set i (a.block,.obj (.cells (c.setIfInBounds a.off v) t fz))) (W.setCell a v) :=
   hs.setObj hi rfl hW (by simp[World.setCell]) (fun k hk=>by simp[World.setCell,Avt,Ne.symm hk]) rfl rfl rfl
  obtain⟨a',σ',W',es',d,g,b,j⟩:=ih _ Q (W.setCell a v) (es.push ⟨.cell a,true,false⟩) hk htr.sat
  refine⟨a',σ',W',es',?_,g,htr.trans hs b,fun e he=>?_⟩
  ·subst hm
   have hc:W.cell? a=some (c[a.off]):=by rw[World.cell?_of hb hsp];simp[Gy,hlt]
   have hf:W.frozen? a=false:=by rw[World.frozen?_of hb];exact hfz
   cases v<;>first|(simp[single]at hv;done)|(simp only[Sem.runT,hc,hf];exact d)
  ·rcases j e he with h|h
   ·rcases Aef.1 h with h|rfl
    ·exact .inl h
    ·obtain⟨o',ho'⟩:=htr.objs hs p
     exact .inr (.inl (.inl ⟨a,rfl,rfl,.inl (b.objs htr.sat ho')⟩))
   ·exact .inr h
 | new o k ih =>
  intro σ Q W es h hs
  rcases h with⟨ho,hk⟩|⟨rfl,hk⟩|⟨n,rfl,hk⟩
  ·have htr:=hs.push ho
   obtain⟨a',σ',W',es',d,g,b,j⟩:=ih _ _ Q _ es (hk W.heap.size) htr.sat
   exact⟨a',σ',W',es',by simp only[Sem.runT];exact d,g,htr.trans hs b,j⟩
  ·have htr:=hs.pushRes (o:=.chan 0 #[] false 0 0 false) (x:=.chan) ⟨0,0,false,by simp⟩ (by simp) (by simp)
   obtain⟨a',σ',W',es',d,g,b,j⟩:=ih _ _ Q _ es (hk W.heap.size) htr.sat
   exact⟨a',σ',W',es',by simp only[Sem.runT];exact d,g,htr.trans hs b,j⟩
  ·have htr:=hs.pushRes (o:=.chan n #[] false 0 0 false) (x:=.crowd n []) ⟨n,#[],0,0,false,by simp,by simp,fun _=>⟨rfl,rfl⟩⟩ (by simp) (fun k Rs e=>by injection e with _ e;exact e.symm)
   obtain⟨a',σ',W',es',d,g,b,j⟩:=ih _ _ Q _ es (hk W.heap.size) htr.sat
   exact⟨a',σ',W',es',by simp only[Sem.runT];exact d,g,htr.trans hs b,j⟩
 | shape r k ih =>
  intro σ Q W es ⟨o,ho,hk⟩ hs
  obtain⟨a',σ',W',es',d,g,b,j⟩:=ih _ σ Q W es hk hs
  exact⟨a',σ',W',es',by simp only[Sem.runT,World.shape?_of (hs.has ho).1];exact d,g,b,j⟩
 | freeze a n k ih =>
  intro σ Q W es h hs
  rcases h with⟨hn,hk⟩|⟨hn,i,c,t,lo,hi',hi,hk⟩
  ·obtain⟨a',σ',W',es',d,g,b,j⟩:=ih σ Q W es hk hs
   exact⟨a',σ',W',es',by subst hn;simp only[Sem.runT,World.freeze,if_true];exact d,g,b,j⟩
  ·have p:(a.block,Res.obj (.cells c t (lo,hi')))∈σ:=lZ6 hi
   have hb:=(hs.own _ p).1
   have htr:Trans ρ σ W (σ.set i (a.block,.obj (.cells c t (if lo==hi' then (a.off,a.off+n) else (min lo a.off,max hi' (a.off+n)))))) (W.freeze a n) :=
    hs.setObj hi rfl (by simp[World.freeze,hn,Avt,hb]) (by simp[World.freeze,hn]) (fun k hk=>by simp[World.freeze,hn,Avt,Ne.symm hk])
     (by simp[World.freeze,hn]) (by simp[World.freeze,hn]) (by simp[World.freeze,hn])
   obtain⟨a',σ',W',es',d,g,b,j⟩:=ih _ Q (W.freeze a n) es hk htr.sat
   exact⟨a',σ',W',es',by simp only[Sem.runT];exact d,g,htr.trans hs b,j⟩
 | frozen a k ih =>
  intro σ Q W es ⟨o,ho,hk⟩ hs
  obtain⟨a',σ',W',es',d,g,b,j⟩:=ih _ σ Q W es hk hs
  exact⟨a',σ',W',es',by simp only[Sem.runT,World.frozen?_of (hs.has ho).1];exact d,g,b,j⟩
 | getObj r k ih =>
  intro σ Q W es ⟨o,ho,hc,hk⟩ hs
  obtain⟨hh,hch⟩:=hs.has ho
  obtain⟨a',σ',W',es',d,g,b,j⟩:=ih o σ Q W (es.push ⟨.obj r,false,false⟩) hk hs
  refine⟨a',σ',W',es',?_,g,b,fun e he=>?_⟩
  ·cases o<;>first|(simp[Sj]at hc;done)|(simp[Obj.isChan]at hch;done)|(simp only[Sem.runT,hh,Obj.isChan];exact d)
  ·rcases j e he with h|h
   ·rcases Aef.1 h with h|rfl
    ·exact .inl h
    ·refine .inr (.inl (.inr (.inl ⟨r,rfl,rfl,?_⟩)))
     rcases ho with ho|ho
     ·exact .inr ⟨rfl,by simp[ho]⟩
     ·exact .inl (b.objs hs ho)
   ·exact .inr h
 | setObj r o k ih =>
  intro σ Q W es ⟨ho,i,o₀,hi,hc,hk⟩ hs
  have p:(r,Res.obj o₀)∈σ:=lZ6 hi
  have hb:=(hs.own _ p).1
  have hlt:=Dq hb
  have htr:Trans ρ σ W (σ.set i (r,.obj o)) {W with heap:=W.heap.setIfInBounds r o} :=
   hs.setObj hi ho (by simp[hlt]) (by simp) (fun k hk=>by simp[Ne.symm hk]) rfl rfl rfl
  obtain⟨a',σ',W',es',d,g,b,j⟩:=ih _ Q _ (es.push ⟨.obj r,true,false⟩) hk htr.sat
  refine⟨a',σ',W',es',?_,g,htr.trans hs b,fun e he=>?_⟩
  ·cases o₀<;>first|(simp[Sj]at hc;done)|(simp only[Sem.runT,hb,ho];exact d)
  ·rcases j e he with h|h
   ·rcases Aef.1 h with h|rfl
    ·exact .inl h
    ·obtain⟨o',ho'⟩:=htr.objs hs p
     exact .inr (.inl (.inr (.inl ⟨r,rfl,rfl,.inl (b.objs htr.sat ho')⟩)))
   ·exact .inr h
 | choose q k ih =>
  intro σ Q W es h hs
  simp only[wpS]at h
  cases hq:q.forced with
  | true =>
   simp only[hq,if_true]at h
   obtain⟨a',σ',W',es',d,g,b,j⟩:=ih _ σ Q W es h hs
   exact⟨a',σ',W',es',by simp only[Sem.runT,hq,if_true];exact d,g,b,j⟩
  | false =>
   simp only[hq,Aep,if_false]at h
   have hs':Sat ρ σ {W with drawn:=W.drawn+1}:=⟨hs.ro,hs.own,hs.nd,hs.dj⟩
   obtain⟨a',σ',W',es',d,g,b,j⟩:=ih _ σ Q {W with drawn:=W.drawn+1} es (h (W.tape W.drawn q)) hs'
   exact⟨a',σ',W',es',by simp only[Sem.runT,hq,Aep,if_false];exact d,g,⟨b.sat,b.size,b.keys,b.kept,b.fresh,b.frame,b.ends,b.chans,b.chansKept,b.crowds,b.crowdsKept,b.tape,b.os,b.output⟩,j⟩
 | sys c k ih=>exact fun σ Q W es h _=>h.elim
 | program k ih =>
  intro σ Q W es h hs
  obtain⟨a',σ',W',es',d,g,b,j⟩:=ih _ σ Q W es h hs
  exact⟨a',σ',W',es',by simp only[Sem.runT];exact d,g,b,j⟩
 | mark m k ih =>
  intro σ Q W es ⟨hm,hk⟩ hs
  obtain⟨a',σ',W',es',d,g,b,j⟩:=ih σ Q W (es.push ⟨.mark m,false,true⟩) hk hs
  refine⟨a',σ',W',es',by simp only[Sem.runT];exact d,g,b,fun e he=>?_⟩
  rcases j e he with h|h
  ·rcases Aef.1 h with h|rfl
   ·exact .inl h
   ·refine .inr ?_
    cases m with
    | extern f=>exact .inr ⟨f,rfl⟩
    | _=>exact .inl (.inr (.inr ⟨_,rfl,hm⟩))
  ·exact .inr h
 | halt h=>exact fun σ Q W es h _=>h.elim
theorem Eu{α:Type}{P:Program}{ρ:Ro}{Q Q':α→Own→Prop}(hq:∀a σ,Q a σ→Q' a σ):∀(s:Sem α) (σ:Own),wpS P ρ s σ Q→wpS P ρ s σ Q':=by
 intro s
 induction s with
 | pure a=>exact fun σ h=>hq _ _ h
 | load m a k ih=>exact fun σ ⟨b,d,o,v,e,f,g⟩=>⟨b,d,o,v,e,f,ih v σ g⟩
 | store m a v k ih=>exact fun σ ⟨b,d,e,i,c,t,fz,f,g,j,p⟩=>⟨b,d,e,i,c,t,fz,f,g,j,ih _ p⟩
 | new o k ih=>exact fun σ h=>h.imp (fun⟨b,d⟩=>⟨b,fun r=>ih r _ (d r)⟩) (fun h=>h.imp (fun⟨b,d⟩=>⟨b,fun r=>ih r _ (d r)⟩) (fun⟨n,b,d⟩=>⟨n,b,fun r=>ih r _ (d r)⟩))
 | shape r k ih=>exact fun σ ⟨o,b,d⟩=>⟨o,b,ih _ _ d⟩
 | freeze a n k ih=>exact fun σ h=>h.imp (fun⟨b,d⟩=>⟨b,ih _ d⟩) (fun⟨b,i,c,t,lo,hi,d,e⟩=>⟨b,i,c,t,lo,hi,d,ih _ e⟩)
 | frozen a k ih=>exact fun σ ⟨o,b,d⟩=>⟨o,b,ih _ _ d⟩
 | getObj r k ih=>exact fun σ ⟨o,b,d,e⟩=>⟨o,b,d,ih _ _ e⟩
 | setObj r o k ih=>exact fun σ ⟨b,i,o₀,d,e,f⟩=>⟨b,i,o₀,d,e,ih _ f⟩
 | choose q k ih =>
  intro σ h
  simp only[wpS]at h ⊢
  split
  ·rename_i hf;rw[if_pos hf]at h;exact ih _ _ h
  ·rename_i hf;rw[if_neg hf]at h;exact fun t=>ih _ _ (h t)
 | sys c k ih=>exact fun σ h=>h
 | program k ih=>exact fun σ h=>ih _ _ h
 | mark m k ih=>exact fun σ ⟨b,d⟩=>⟨b,ih _ d⟩
 | halt h=>exact fun σ h=>h
theorem Ad{α β:Type}{P:Program}{ρ:Ro}{Q:β→Own→Prop}(f:α→Sem β):∀(s:Sem α) (σ:Own),wpS P ρ (s.bind f) σ Q↔wpS P ρ s σ (fun a σ'=>wpS P ρ (f a) σ' Q):=by
 intro s
 induction s with
 | pure a=>exact fun σ=>Iff.rfl
 | load m a k ih=>intro σ;simp only[Sem.bind,wpS,ih]
 | store m a v k ih=>intro σ;simp only[Sem.bind,wpS,ih]
 | new o k ih=>intro σ;simp only[Sem.bind,wpS,ih]
 | shape r k ih=>intro σ;simp only[Sem.bind,wpS,ih]
 | freeze a n k ih=>intro σ;simp only[Sem.bind,wpS,ih]
 | frozen a k ih=>intro σ;simp only[Sem.bind,wpS,ih]
 | getObj r k ih=>intro σ;simp only[Sem.bind,wpS,ih]
 | setObj r o k ih=>intro σ;simp only[Sem.bind,wpS,ih]
 | choose q k ih=>intro σ;simp only[Sem.bind,wpS,ih]
 | sys c k ih=>intro σ;simp only[Sem.bind,wpS]
 | program k ih=>intro σ;simp only[Sem.bind,wpS,ih]
 | mark m k ih=>intro σ;simp only[Sem.bind,wpS,ih]
 | halt h=>intro σ;simp only[Sem.bind,wpS]
end
section
open Go
abbrev Cy:=Frame→List Frame→Ro→Own→Prop
/-- A program,whether the goroutine is the first one,and what else than own steps it may rely on. -/
structure Ctx where
 P:Program
 main:Bool
 X:Frame→List Frame→Ro→Own→Cy→Prop
/-- What is held may be told otherwise: forgotten,put in another order,shared for good. -/
structure Ghost(ρ:Ro)(σ:Own)(ρ':Ro)(σ':Own):Prop where
 sat:∀W,Sat ρ σ W→Sat ρ' σ' W
 objs:∀b o,(b,Res.obj o)∈σ'→∃o',(b,Res.obj o')∈σ
 dom:∀b,(ρ' b).isSome=true→(ρ b).isSome=true∨∃o,(b,Res.obj o)∈σ
 ends:∀c vs,(c,Res.recv vs)∈σ'↔(c,Res.recv vs)∈σ
 keys:∀b∈keys σ',b∈Go.Proofs.YtjdkajkimeainaaGreatDoor.keys σ
 chans:∀c,(c,Res.chan)∈σ'→(c,Res.chan)∈σ
 crowds:∀c k Rs,(c,Res.crowd k Rs)∈σ'→(c,Res.crowd k Rs)∈σ
 crowdsKept:∀c k Rs,Rs≠[]→(c,Res.crowd k Rs)∈σ→(c,Res.crowd k Rs)∈σ'
def Aal(C:Ctx)(fr:Frame)(cs:List Frame)(ρ:Ro)(σ:Own)(K:Frame→List Frame→Own→Prop):Prop :=
 ∀W,Sat ρ σ W→∃fr' cs' W' es σ',stepG C.P C.main (Conc.G fr cs) W = .go (Conc.G fr' cs') W' es∧Trans ρ σ W σ' W'∧(∀e∈es,Wb ρ σ' e)∧K fr' cs' σ'
inductive GoesH(C:Ctx)(S:Cy):Frame→List Frame→Ro→Own→Prop
 | stop {fr cs ρ σ}:S fr cs ρ σ→GoesH C S fr cs ρ σ
 | ghost {fr cs ρ σ ρ' σ'}:Ghost ρ σ ρ' σ'→GoesH C S fr cs ρ' σ'→GoesH C S fr cs ρ σ
 | step {fr cs ρ σ} (K:Frame→List Frame→Own→Prop):Aal C fr cs ρ σ K→(∀fr' cs' σ',K fr' cs' σ'→GoesH C S fr' cs' ρ σ')→GoesH C S fr cs ρ σ
 | ext {fr cs ρ σ} (K:Cy):C.X fr cs ρ σ K→(∀fr' cs' ρ' σ',K fr' cs' ρ' σ'→GoesH C S fr' cs' ρ' σ')→GoesH C S fr cs ρ σ
theorem GoesH.bind{C:Ctx}{S S':Cy}{fr:Frame}{cs:List Frame}{ρ:Ro}{σ:Own}(h:GoesH C S fr cs ρ σ)(hk:∀fr cs ρ σ,S fr cs ρ σ→GoesH C S' fr cs ρ σ):GoesH C S' fr cs ρ σ:=by
 induction h with
 | stop h=>exact hk _ _ _ _ h
 | ghost hg _ ih=>exact .ghost hg ih
 | step K h1 _ ih=>exact .step K h1 ih
 | ext K h1 _ ih=>exact .ext K h1 ih
theorem GoesH.mono{C:Ctx}{S S':Cy}{fr:Frame}{cs:List Frame}{ρ:Ro}{σ:Own}(h:GoesH C S fr cs ρ σ)(hk:∀fr cs ρ σ,S fr cs ρ σ→S' fr cs ρ σ):GoesH C S' fr cs ρ σ :=
 h.bind fun fr cs ρ σ hs=>.stop (hk fr cs ρ σ hs)
section
variable{C:Ctx}{S:Cy}{fr fr':Frame}{cs cs':List Frame}{ρ:Ro}{σ:Own}
theorem Eh(h:∀W,stepG C.P C.main (Conc.G fr cs) W = .go (Conc.G fr' cs') W #[])(hk:GoesH C S fr' cs' ρ σ):GoesH C S fr cs ρ σ :=
 .step (fun a b c=>a=fr'∧b=cs'∧c=σ) (fun W hs=>⟨fr',cs',W,#[],σ,h W,.refl hs,by simp,rfl,rfl,rfl⟩) (by rintro _ _ _ ⟨rfl,rfl,rfl⟩;exact hk)
theorem Up{P:Program}{fn:FuncId}{es:Array Event}{e:Event}(h:e∈seen P fn es)(f:FuncId):e.loc ≠ .mark (.extern f):=by
 obtain⟨l⟩:=es
 unfold seen at h
 simp only[List.foldl_toArray']at h
 revert h
 generalize (Option.any (fun x=>x.norace) P.funcs[fn]?)=q
 have key:∀(g:Bool×Array Event→Event→Bool×Array Event),(∀x ev,(g x ev).2=x.2∨((g x ev).2=x.2.push ev∧ev.loc ≠ .mark (.extern f)))→∀(l:List Event) (x:Bool×Array Event),e∈(l.foldl g x).2→e∈x.2∨e.loc ≠ .mark (.extern f):=by
  intro g hg l
  induction l with
  | nil=>exact fun x h=>.inl h
  | cons y l ih =>
   intro x h
   rcases ih _ h with h|h
   ·rcases hg x y with h1|⟨h1,h2⟩
    ·rw[h1]at h;exact .inl h
    ·rw[h1]at h
     rcases Aef.1 h with h|rfl
     ·exact .inl h
     ·exact .inr h2
   ·exact .inr h
 intro h
 rcases key _ (fun x ev=>by
  obtain⟨q,k⟩:=x
  simp only
  split
  ·exact .inl rfl
  ·rename_i hne
   simp only
   split
   ·exact .inl rfl
   ·exact .inr ⟨rfl,fun hc=>hne f hc⟩) _ _ h with h|h
 ·simp at h
 ·exact h
theorem Bft{P:Program}{fn:FuncId}{es:Array Event}{e:Event}(h:e∈seen P fn es):e∈es:=by
 obtain⟨l⟩:=es
 unfold seen at h
 simp only[List.foldl_toArray']at h
 revert h
 generalize (Option.any (fun x=>x.norace) P.funcs[fn]?)=q
 have key:∀(g:Bool×Array Event→Event→Bool×Array Event),(∀x ev,(g x ev).2=x.2∨(g x ev).2=x.2.push ev)→∀(l:List Event) (x:Bool×Array Event),e∈(l.foldl g x).2→e∈x.2∨e∈l:=by
  intro g hg l
  induction l with
  | nil=>exact fun x h=>.inl h
  | cons y l ih =>
   intro x h
   rcases ih _ h with h|h
   ·rcases hg x y with h1|h1
    ·rw[h1]at h;exact .inl h
    ·rw[h1]at h
     rcases Aef.1 h with h|rfl
     ·exact .inl h
     ·exact .inr mC
   ·exact .inr (lZ0 _ h)
 intro h
 rcases key _ (fun x ev=>by
  obtain⟨q,k⟩:=x
  simp only
  split
  ·exact .inl rfl
  ·simp only
   split
   ·exact .inl rfl
   ·exact .inr rfl) _ _ h with h|h
 ·simp at h
 ·simpa using h
theorem Lh{P:Program}{fn:FuncId}{es:Array Event}{e:Event}(h:e∈seen P fn es):Axo es e:=⟨Bft h,Up h⟩
/-- A step that carries out a computation. -/
theorem Lw{α:Type}{s:Sem α}{f:α→Frame×List Frame}
  (h:∀W,∀a W' es,s.runT C.P W #[]=(.ok a W',es)→∃es',stepG C.P C.main (Conc.G fr cs) W = .go (Conc.G (f a).1 (f a).2) W' es'∧∀e∈es',Axo es e)
  {Q:α→Own→Prop} (hw:wpS C.P ρ s σ Q) (hk:∀a σ',Q a σ'→GoesH C S (f a).1 (f a).2 ρ σ'):GoesH C S fr cs ρ σ:=by
 refine .step (fun a b c=>∃x,Q x c∧a=(f x).1∧b=(f x).2) (fun W hs=>?_) (by rintro _ _ _ ⟨x,hx,rfl,rfl⟩;exact hk x _ hx)
 obtain⟨a,σ',W',es,d,g,i,j⟩:=Rr s σ Q W #[] hw hs
 obtain⟨es',k,m⟩:=h W a W' es d
 exact⟨_,_,W',es',σ',k,i,fun e he=>Amj j (m e he),a,g,rfl,rfl⟩
end
structure FB where
 fn:FuncId
 kind:CallKind
 round:Option Nat
def Fr(b:FB)(tm:Array Value)(ds:List Deferred)(todo:List Item):Frame :=
 {fn:=b.fn,tmps:=tm,todo:=todo,defers:=ds,mode:=.run,kind:=b.kind,roundOf:=b.round}
abbrev Env:=Nat→Value
def EnvOf(n:Nat)(tm:Array Value)(e:Env):Prop:=tm.size=n∧∀i,tm.getD i undef=e i
def Af(e:Env):Operand→Value
 | .tmp t=>e t
 | .const v=>v
 | .global g=>.pointer (some ⟨g,0,none⟩)
 | .func f=>.func (.func f) #[] #[]
def upd(e:Env)(d:Nat)(v:Value):Env:=fun i=>if i=d then v else e i
def Ja(e:Env)(d:Option Tmp)(v:Value):Env :=
 match d with
 | some d=>upd e d v
 | none=>e
theorem EnvOf.eval{n:Nat}{tm:Array Value}{e:Env}(h:EnvOf n tm e)(b:FB)(ds:List Deferred)(todo:List Item):(Fr b tm ds todo).eval=Af e:=by
 funext x
 cases x<;>simp[Frame.eval,Af,Fr,←h.2]
theorem EnvOf.put{n:Nat}{tm:Array Value}{e:Env}(h:EnvOf n tm e){d:Nat}(hd:d<n)(v:Value):EnvOf n (tm.setIfInBounds d v) (upd e d v):=by
 refine⟨by simp[h.1],fun i=>?_⟩
 unfold upd
 rw[Ato,Array.getElem?_setIfInBounds]
 by_cases hi:i=d
 ·subst hi;simp[h.1,hd]
 ·rw[if_neg (Ne.symm hi),if_neg hi,←Ato];exact h.2 i
inductive Ex where
 | normal
 | exit (id:Nat)
 | ret
def Wc(id:Nat):Item→Bool
 | .inBlock id'=>id' != id
 | _=>true
def Pl:Ex→List Item→List Item→Prop
 | .normal,k,t=>t=k
 | .exit id,k,t=>∃pre,(∀x∈pre,Wc id x=true)∧t = .code (.exit id)::(pre++k)
 | .ret,k,t=>∃pre,t = .code .ret::(pre++k)
abbrev Hu:=Ex→Env→List Deferred→Ro→Own→Prop
/-- What is true where a panic leaves a frame: its value,the frame's slots,what is deferred,what is held. -/
abbrev Hn:=Value→Env→List Deferred→Ro→Own→Prop
def NoV:Hn:=fun _ _ _ _ _=>False
/-- This frame,while a panic unwinds it. -/
def FrP(b:FB)(tm:Array Value)(ds:List Deferred)(todo:List Item)(x:Value):Frame:={Fr b tm ds todo with mode:=.panicking [⟨x,false,false⟩]}
def PanS(V:Hn)(b:FB)(cs:List Frame)(fr:Frame)(cs':List Frame)(ρ:Ro)(σ:Own):Prop:=cs'=cs∧∃x tm e ds todo,(∀i,tm.getD i undef=e i)∧fr=FrP b tm ds todo x∧V x e ds ρ σ
theorem PanS.no{b:FB}{cs:List Frame}{fr:Frame}{cs':List Frame}{ρ:Ro}{σ:Own}(h:PanS NoV b cs fr cs' ρ σ):False:=let ⟨_,_,_,_,_,_,_,_,h⟩:=h;h
/-- ████ THE JUDGEMENT: a piece of code,run by this goroutine from what it holds,is left in a way and a state that satisfy Q. -/
def WpP(C:Ctx)(V:Hn)(b:FB)(n:Nat)(c:Code)(Q:Hu)(e:Env)(ds:List Deferred)(ρ:Ro)(σ:Own):Prop :=
 ∀tm k cs,EnvOf n tm e→GoesH C (fun fr cs' ρ' σ'=>(cs'=cs∧∃ex tm' e' ds' todo,EnvOf n tm' e'∧Q ex e' ds' ρ' σ'∧Pl ex k todo∧fr=Fr b tm' ds' todo)∨PanS V b cs fr cs' ρ' σ') (Fr b tm ds (.code c::k)) cs ρ σ
/-- Without panics. -/
abbrev WpC(C:Ctx)(b:FB)(n:Nat)(c:Code)(Q:Hu)(e:Env)(ds:List Deferred)(ρ:Ro)(σ:Own):Prop:=WpP C NoV b n c Q e ds ρ σ
theorem WpC.stops{C:Ctx}{b:FB}{n:Nat}{c:Code}{Q:Hu}{e:Env}{ds:List Deferred}{ρ:Ro}{σ:Own}(h:WpC C b n c Q e ds ρ σ)(tm k cs)(ht:EnvOf n tm e) :
  GoesH C (fun fr cs' ρ' σ'=>cs'=cs∧∃ex tm' e' ds' todo,EnvOf n tm' e'∧Q ex e' ds' ρ' σ'∧Pl ex k todo∧fr=Fr b tm' ds' todo) (Fr b tm ds (.code c::k)) cs ρ σ :=
 (h tm k cs ht).mono fun _ _ _ _ hs=>hs.elim id fun hp=>hp.no.elim
section rules
variable{C:Ctx}{V:Hn}{b:FB}{n:Nat}{Q Q':Hu}{e:Env}{ds:List Deferred}{ρ ρ':Ro}{σ σ':Own}
theorem Adw{c:Code}(h:WpP C V b n c Q e ds ρ σ)(hq:∀ex e ds ρ σ,Q ex e ds ρ σ→Q' ex e ds ρ σ):WpP C V b n c Q' e ds ρ σ :=
 fun tm k cs ht=>(h tm k cs ht).mono fun _ _ _ _ hs=>hs.elim (fun⟨a,ex,tm',e',ds',i,d,f,g⟩=>.inl ⟨a,ex,tm',e',ds',i,d,hq _ _ _ _ _ f,g⟩) .inr
theorem Aj{c:Code}(hg:Ghost ρ σ ρ' σ')(h:WpP C V b n c Q e ds ρ' σ'):WpP C V b n c Q e ds ρ σ :=
 fun tm k cs ht=>.ghost hg (h tm k cs ht)
theorem Al(h:Q .normal e ds ρ σ):WpP C V b n .skip Q e ds ρ σ:=fun tm k cs ht =>
 Eh (fr':=Fr b tm ds k) (cs':=cs) (fun W=>by simp[Conc.G,stepG,stepG.exec,Fr]) (.stop (.inl ⟨rfl,.normal,tm,e,ds,k,ht,h,rfl,rfl⟩))
theorem Aq(h:Q .ret e ds ρ σ):WpP C V b n .ret Q e ds ρ σ:=fun tm k _ ht =>
 .stop (.inl ⟨rfl,.ret,tm,e,ds,_,ht,h,⟨[],rfl⟩,rfl⟩)
theorem Bx{id:Nat}(h:Q (.exit id) e ds ρ σ):WpP C V b n (.exit id) Q e ds ρ σ:=fun tm k _ ht =>
 .stop (.inl ⟨rfl,.exit id,tm,e,ds,_,ht,h,⟨[],by simp,rfl⟩,rfl⟩)
def Zo(M:Env→List Deferred→Ro→Own→Prop)(Q:Hu):Hu
 | .normal,e,ds,ρ,σ=>M e ds ρ σ
 | ex,e,ds,ρ,σ=>Q ex e ds ρ σ
theorem He{ex:Ex}{x:Item}{k t:List Item}(hne:ex ≠ .normal)(hx:∀id,Wc id x=true)(h:Pl ex (x::k) t):Pl ex k t:=by
 cases ex with
 | normal=>exact absurd rfl hne
 | exit id =>
  obtain⟨pre,hp,rfl⟩:=h
  exact⟨pre++[x],fun y hy=>(Fb.1 hy).elim (hp y) (fun hy=>by rw[Lc.1 hy];exact hx id),by simp⟩
 | ret =>
  obtain⟨pre,rfl⟩:=h
  exact⟨pre++[x],by simp⟩
theorem Ai{x y:Code}(h:∀K:Env→List Deferred→Ro→Own→Prop,(∀e ds ρ σ,WpP C V b n y Q e ds ρ σ→K e ds ρ σ)→WpP C V b n x (Zo K Q) e ds ρ σ):WpP C V b n (.seq x y) Q e ds ρ σ:=by
 intro tm k cs ht
 refine Eh (fr':=Fr b tm ds (.code x :: .code y::k)) (cs':=cs) (fun W=>by simp[Conc.G,stepG,stepG.exec,Fr]) ?_
 refine(h (WpP C V b n y Q) (fun _ _ _ _ h=>h) tm (.code y::k) cs ht).bind ?_
 rintro _ _ ρ' σ' (⟨rfl,ex,tm',e',ds',f,a,c,d,rfl⟩|hp)
 rotate_left
 ·exact .stop (.inr hp)
 cases ex with
 | normal=>cases d;exact c tm' k _ a
 | exit id=>exact .stop (.inl ⟨rfl,.exit id,tm',e',ds',f,a,c,He (by simp) (fun _=>rfl) d,rfl⟩)
 | ret=>exact .stop (.inl ⟨rfl,.ret,tm',e',ds',f,a,c,He (by simp) (fun _=>rfl) d,rfl⟩)
theorem Bb{c:Operand}{x y:Code}{t:Bool}(hc:Af e c = .bool t)(h1:t=true→WpP C V b n x Q e ds ρ σ)(h0:t=false→WpP C V b n y Q e ds ρ σ):WpP C V b n (.cond c x y) Q e ds ρ σ:=by
 intro tm k cs ht
 have hev:(Fr b tm ds (.code (.cond c x y)::k)).eval c = .bool t:=by rw[ht.eval];exact hc
 refine Eh (fr':=Fr b tm ds (.code (if t then x else y)::k)) (cs':=cs) (fun W=>?_) ?_
 ·simp only[Fr]at hev
  simp[Conc.G,stepG,stepG.exec,Fr,hev]
 ·cases t with
  | true=>exact h1 rfl tm k cs ht
  | false=>exact h0 rfl tm k cs ht
def Qy(id:Nat)(Q:Hu):Hu
 | .exit id',e,ds,ρ,σ=>if id'=id then Q .normal e ds ρ σ else Q (.exit id') e ds ρ σ
 | ex,e,ds,ρ,σ=>Q ex e ds ρ σ
theorem Mj{id:Nat}{k:List Item}:∀{pre:List Item},(∀x∈pre,Wc id x=true)→exitTo id (pre++k)=exitTo id k
 | [],_=>rfl
 | x::pre,h=>by
  have hx:=h x mC
  have:=Mj (pre:=pre) (k:=k) fun y hy=>h y (lZ0 _ hy)
  cases x<;>simp_all [exitTo,Wc]
theorem Ao{id:Nat}{c:Code}(h:WpP C V b n c (Qy id Q) e ds ρ σ):WpP C V b n (.block id c) Q e ds ρ σ:=by
 intro tm k cs ht
 refine Eh (fr':=Fr b tm ds (.code c :: .inBlock id::k)) (cs':=cs) (fun W=>by simp[Conc.G,stepG,stepG.exec,Fr]) ?_
 refine(h tm (.inBlock id::k) cs ht).bind ?_
 rintro _ _ ρ' σ' (⟨rfl,ex,tm',e',ds',i,f,d,g,rfl⟩|hp)
 rotate_left
 ·exact .stop (.inr hp)
 cases ex with
 | normal =>
  cases g
  exact Eh (fr':=Fr b tm' ds' k) (fun W=>by simp[Conc.G,stepG,stepG.exec,Fr]) (.stop (.inl ⟨rfl,.normal,tm',e',ds',k,f,d,rfl,rfl⟩))
 | exit id' =>
  obtain⟨pre,hp,rfl⟩:=g
  by_cases hid:id'=id
  ·subst hid
   simp only[Qy,if_true]at d
   refine Eh (fr':=Fr b tm' ds' k) (fun W=>?_) (.stop (.inl ⟨rfl,.normal,tm',e',ds',k,f,d,rfl,rfl⟩))
   have:exitTo id' (pre ++ .inBlock id'::k)=some k:=by rw[Mj hp];simp[exitTo]
   simp[Conc.G,stepG,stepG.exec,Fr,this]
  ·simp only[Qy,hid,if_false]at d
   refine .stop (.inl ⟨rfl,.exit id',tm',e',ds',_,f,d,⟨pre++[.inBlock id],fun y hy=>?_,by simp⟩,rfl⟩)
   rcases Fb.1 hy with hy|hy
   ·exact hp y hy
   ·rw[Lc.1 hy];simp[Wc,Ne.symm hid]
 | ret =>
  obtain⟨pre,rfl⟩:=g
  exact .stop (.inl ⟨rfl,.ret,tm',e',ds',_,f,d,⟨pre++[.inBlock id],by simp⟩,rfl⟩)
/-- A loop: an invariant and a measure. -/
theorem Cc{c:Code}(I:Nat→Env→List Deferred→Ro→Own→Prop){m:Nat}(h₀:I m e ds ρ σ)
  (round:∀m e ds ρ σ,I m e ds ρ σ→WpP C V b n c (Zo (fun e' ds' ρ' σ'=>∃m',m'<m∧I m' e' ds' ρ' σ') Q) e ds ρ σ):WpP C V b n (.loop c) Q e ds ρ σ:=by
 intro tm k cs ht
 refine Eh (fr':=Fr b tm ds (.code c :: .inLoop c::k)) (cs':=cs) (fun W=>by simp[Conc.G,stepG,stepG.exec,Fr]) ?_
 induction m using Nat.strongRecOn generalizing tm e ds ρ σ with
 | _ m ih =>
  refine(round m e ds ρ σ h₀ tm (.inLoop c::k) cs ht).bind ?_
  rintro _ _ ρ' σ' (⟨rfl,ex,tm',e',ds',g,a,d,f,rfl⟩|hp)
  rotate_left
  ·exact .stop (.inr hp)
  cases ex with
  | normal =>
   cases f
   obtain⟨m',hlt,hI⟩:=d
   exact Eh (fr':=Fr b tm' ds' (.code c :: .inLoop c::k)) (fun W=>by simp[Conc.G,stepG,stepG.exec,Fr]) (ih m' hlt hI tm' a)
  | exit id=>exact .stop (.inl ⟨rfl,.exit id,tm',e',ds',g,a,d,He (by simp) (fun _=>rfl) f,rfl⟩)
  | ret=>exact .stop (.inl ⟨rfl,.ret,tm',e',ds',g,a,d,He (by simp) (fun _=>rfl) f,rfl⟩)
end rules
/-- A call of a function from what is held: it returns a value,and leaves what satisfies R. -/
def CallsH(C:Ctx)(f:FuncId)(args:Array Value)(ρ:Ro)(σ:Own)(R:Value→Ro→Own→Prop):Prop :=
 ∀c cs,GoesH C (fun fr cs' ρ' σ'=>∃v,fr=Frame.finish c v∧cs'=cs∧R v ρ' σ') (Frame.enter C.P f args .normal) (c::cs) ρ σ
/-- A round of a range over a function,called by the iterator. -/
def RoundH(C:Ctx)(l:Nat)(f:FuncId)(tmps:Array Value)(assign body:Code)(ρ:Ro)(σ:Own)(R:Value→Ro→Own→Prop):Prop :=
 ∀c cs,GoesH C (fun fr cs' ρ' σ'=>∃v,fr=Frame.finish c v∧cs'=cs∧R v ρ' σ') (Frame.round l f tmps assign body .normal) (c::cs) ρ σ
theorem CallsH.mono{C:Ctx}{f:FuncId}{args:Array Value}{ρ:Ro}{σ:Own}{R R':Value→Ro→Own→Prop}(h:CallsH C f args ρ σ R)(hr:∀v ρ' σ',R v ρ' σ'→R' v ρ' σ'):CallsH C f args ρ σ R' :=
 fun c cs=>(h c cs).mono fun _ _ _ _ ⟨v,a,b,d⟩=>⟨v,a,b,hr _ _ _ d⟩
theorem RoundH.mono{C:Ctx}{l:Nat}{f:FuncId}{tmps:Array Value}{assign body:Code}{ρ:Ro}{σ:Own}{R R':Value→Ro→Own→Prop}(h:RoundH C l f tmps assign body ρ σ R)(hr:∀v ρ' σ',R v ρ' σ'→R' v ρ' σ'):RoundH C l f tmps assign body ρ σ R' :=
 fun c cs=>(h c cs).mono fun _ _ _ _ ⟨v,a,b,d⟩=>⟨v,a,b,hr _ _ _ d⟩
/-- What follows an operation's computation. -/
def NextH(C:Ctx)(K:Value→List Deferred→Ro→Own→Prop)(rd:Option Nat)(ds:List Deferred)(ρ:Ro)(nx:Next)(σ:Own):Prop :=
 match nx with
 | .value v=>K v ds ρ σ
 | .skip=>K undef ds ρ σ
 | .defer d=>rd=none∧K undef (d::ds) ρ σ
 | .enter f args=>CallsH C f args ρ σ (fun v ρ' σ'=>K v ds ρ' σ')
 | .round l f tmps assign body=>RoundH C l f tmps assign body ρ σ (fun v ρ' σ'=>K v ds ρ' σ')
 | _=>False
theorem NextH.mono{C:Ctx}{K K':Value→List Deferred→Ro→Own→Prop}{rd:Option Nat}{ds:List Deferred}{ρ:Ro}{nx:Next}{σ:Own}(h:NextH C K rd ds ρ nx σ)(hk:∀v ds ρ σ,K v ds ρ σ→K' v ds ρ σ):NextH C K' rd ds ρ nx σ:=by
 cases nx<;>simp only[NextH]at h ⊢<;>first|exact hk _ _ _ _ h|exact⟨h.1,hk _ _ _ _ h.2⟩|exact h.mono fun _ _ _ h=>hk _ _ _ _ h
def Ht(ops:Array Oper)(e:Env)(j:Nat):Option Bool :=
 match (ops[j]?).bind (·.dst) with
 | some d=>match e d with
  | .bool b=>some b
  | _=>none
 | none=>none
def Bz(ops:Array Oper)(o:Oper)(e:Env):Bool :=
 match o.guard with
 | none=>true
 | some (j,want)=>Ht ops e j==some want
def Fu(n:Nat)(ops:Array Oper):Bool:=ops.all fun o=>match o.dst with|some d=>decide (d<n)|none=>true
theorem Uj{n:Nat}{ops:Array Oper}(h:Fu n ops=true){i:Nat}{o:Oper}(ho:ops[i]?=some o){d:Nat}(hd:o.dst=some d):d<n:=by
 have:=Array.all_eq_true_iff_forall_mem.1 h o (Array.mem_of_getElem? ho)
 simpa[hd]using this
/-- Operation number i of a region. -/
def OpH(C:Ctx)(b:FB)(ops:Array Oper)(i:Nat)(K:Env→List Deferred→Ro→Own→Prop)(e:Env)(ds:List Deferred)(ρ:Ro)(σ:Own):Prop :=
 match ops[i]? with
 | none=>False
 | some o=>if Bz ops o e=true then wpS C.P ρ (execOp (Af e) o) σ (NextH C (fun v=>K (Ja e o.dst v)) b.round ds ρ) else K (Ja e o.dst undef) ds ρ σ
theorem OpH.mono{C:Ctx}{b:FB}{ops:Array Oper}{i:Nat}{K K':Env→List Deferred→Ro→Own→Prop}{e:Env}{ds:List Deferred}{ρ:Ro}{σ:Own}(h:OpH C b ops i K e ds ρ σ)(hk:∀e ds ρ σ,K e ds ρ σ→K' e ds ρ σ):OpH C b ops i K' e ds ρ σ:=by
 unfold OpH at *
 split at h
 ·exact h.elim
 ·rename_i o ho
  split
  ·rename_i hw;rw[if_pos hw]at h;exact Eu (fun nx σ' h=>h.mono fun v ds ρ σ h=>hk _ _ _ _ h) _ _ h
  ·rename_i hw;rw[if_neg hw]at h;exact hk _ _ _ _ h
/-- The operations of a region that are still to come,in this order. -/
def Oz(C:Ctx)(V:Hn)(b:FB)(n:Nat)(ops:Array Oper)(todo:List Nat)(Q:Env→List Deferred→Ro→Own→Prop)(e:Env)(ds:List Deferred)(ρ:Ro)(σ:Own):Prop :=
 ∀tm k cs,EnvOf n tm e→GoesH C (fun fr cs' ρ' σ'=>(cs'=cs∧∃tm' e' ds',EnvOf n tm' e'∧Q e' ds' ρ' σ'∧fr=Fr b tm' ds' k)∨PanS V b cs fr cs' ρ' σ') (Fr b tm ds (.inRegion ops todo::k)) cs ρ σ
abbrev Lq(C:Ctx)(b:FB)(n:Nat)(ops:Array Oper)(todo:List Nat)(Q:Env→List Deferred→Ro→Own→Prop)(e:Env)(ds:List Deferred)(ρ:Ro)(σ:Own):Prop:=Oz C NoV b n ops todo Q e ds ρ σ
section ops
variable{C:Ctx}{V:Hn}{b:FB}{n:Nat}{ops:Array Oper}{Q:Env→List Deferred→Ro→Own→Prop}{e:Env}{ds:List Deferred}{ρ:Ro}{σ:Own}
theorem Xh(h:Q e ds ρ σ):Oz C V b n ops [] Q e ds ρ σ:=fun tm k cs ht =>
 Eh (fr':=Fr b tm ds k) (cs':=cs) (fun W=>by simp[Conc.G,stepG,stepG.exec,Fr]) (.stop (.inl ⟨rfl,tm,e,ds,ht,h,rfl⟩))
theorem Ij{tm:Array Value}(hs:Fu n ops=true)(ht:EnvOf n tm e)(o:Oper):Region.wanted o (yielded ops tm)=Bz ops o e:=by
 unfold Region.wanted Bz
 cases o.guard with
 | none=>rfl
 | some jw =>
  obtain⟨j,a⟩:=jw
  have:yielded ops tm j=Ht ops e j:=by
   unfold yielded Ht
   cases hd:(ops[j]?).bind (·.dst) with
   | none=>rfl
   | some d =>
    obtain⟨oj,hoj,hdj⟩:=Option.bind_eq_some_iff.1 hd
    have hlt:=Uj hs hoj hdj
    have:tm[d]?=some (e d):=by
     rw[←ht.2 d,Ato]
     rw[Bcx (by rw[ht.1];exact hlt)];rfl
    simp only[Bdo,this]
    cases e d<;>rfl
  simp only[this]
theorem Ju{i:Nat}{rest:List Nat}{tm:Array Value}{k:List Item}{o:Oper}(ho:ops[i]?=some o)(v:Value) :
  (Fr b tm ds (.inRegion ops (i::rest)::k)).finish v=Fr b (match o.dst with|some d=>tm.setIfInBounds d v|none=>tm) ds (.inRegion ops rest::k):=by
 simp only[Frame.finish,Fr,ho,Bdo]
 cases o.dst<;>rfl
theorem Jj{tm:Array Value}(hs:Fu n ops=true)(ht:EnvOf n tm e){i:Nat}{o:Oper}(ho:ops[i]?=some o)(v:Value) :
  EnvOf n (match o.dst with|some d=>tm.setIfInBounds d v|none=>tm) (Ja e o.dst v):=by
 cases hd:o.dst with
 | none=>exact ht
 | some d=>exact ht.put (Uj hs ho hd) v
theorem Np{tm:Array Value}{i:Nat}{rest:List Nat}{k:List Item}{cs:List Frame}{o:Oper}(ho:ops[i]?=some o)(hw:Region.wanted o (yielded ops tm)=true)
  (hd:∀c,o.op = .defer c→b.round=none) (W:World) :
  stepG C.P C.main (Conc.G (Fr b tm ds (.inRegion ops (i::rest)::k)) cs) W=stepG.apply C.P true (Fr b tm ds (.inRegion ops (i::rest)::k)) cs none (execOp (Fr b tm ds (.inRegion ops (i::rest)::k)).eval o) W:=by
 have a:(Fr b tm ds (.inRegion ops (i::rest)::k)).oper?=some o:=by simp[Frame.oper?,Fr,ho]
 simp only[Conc.G,stepG,Fr,stepG.exec]
 simp only[Fr]at a
 simp only[ho,Aes,hw,Aqf,if_true,stepG.oper,a]
 split
 ·rename_i l c h2 h3
  exact absurd (hd c h3) (by rw[h2];simp)
 ·rfl
theorem Abu{tm:Array Value}{i:Nat}{rest:List Nat}{k:List Item}{cs:List Frame}{o:Oper}(ho:ops[i]?=some o)(hw:Region.wanted o (yielded ops tm)=false)(W:World) :
  stepG C.P C.main (Conc.G (Fr b tm ds (.inRegion ops (i::rest)::k)) cs) W = .go (Conc.G ((Fr b tm ds (.inRegion ops (i::rest)::k)).finish undef) cs) W #[]:=by
 simp[Conc.G,stepG,Fr,stepG.exec,ho,hw]
end ops
end
section
open Go
section
variable{C:Ctx}{V:Hn}{b:FB}{n:Nat}{ops:Array Oper}{Q:Env→List Deferred→Ro→Own→Prop}{e:Env}{ds:List Deferred}{ρ:Ro}{σ:Own}
/-- Where an operation's step leads. -/
def Ss(P:Program)(fr:Frame)(cs:List Frame):Next→Frame→List Frame→Prop
 | .value v,fr',cs'=>fr'=fr.finish v∧cs'=cs
 | .skip,fr',cs'=>fr'=fr.finish undef∧cs'=cs
 | .defer d,fr',cs'=>fr'=Frame.finish {fr with defers:=d::fr.defers} undef∧cs'=cs
 | .enter f args,fr',cs'=>fr'=Frame.enter P f args .normal∧cs'=fr::cs
 | .round l f tmps assign body,fr',cs'=>fr'=Frame.round l f tmps assign body .normal∧cs'=fr::cs
 | _,_,_=>False
theorem Sx{P:Program}{fr:Frame}{cs:List Frame}{s:Sem Next}{W W':World}{nx:Next}{es:Array Event}(hk:fr.kind ≠ .early)(hf:∀d r s k,fr.todo ≠ .call d true r s::k)
    (hr:s.runT P W #[]=(.ok nx W',es)) (hn:∃fr' cs',Ss P fr cs nx fr' cs') :
    ∃fr' cs' es',stepG.apply P true fr cs none s W = .go (Conc.G fr' cs') W' es'∧Ss P fr cs nx fr' cs'∧∀e∈es',Axo es e:=by
  have hk':(fr.kind==CallKind.early)=false:=by cases h:fr.kind<;>simp_all<;>rfl
  have a:(match fr.todo with | .call _ true _ _::_=>CallKind.wrapped|_=>CallKind.normal)=CallKind.normal:=by
    split
    · rename_i h;exact absurd h (hf _ _ _ _)
    · rfl
  obtain⟨fr',cs',h⟩:=hn
  cases nx<;>simp only[Ss]at h <;>
    (try (obtain⟨rfl, rfl⟩ := h
          refine⟨_,_,seen P fr.fn es,?_,⟨rfl,rfl⟩,fun e he=>Lh he⟩
          simp[stepG.apply,-Sem.runT_eq,hr,hk',a,GStep.after,Conc.G]))
theorem Uc{i:Nat}{rest:List Nat}(hs:Fu n ops=true)(hk:b.kind ≠ .early)(h:OpH C b ops i (Oz C V b n ops rest Q) e ds ρ σ):Oz C V b n ops (i::rest) Q e ds ρ σ:=by
 intro tm k cs ht
 unfold OpH at h
 cases ho:ops[i]? with
 | none=>simp only[ho]at h
 | some o =>
  simp only[ho]at h
  have hev:=ht.eval b ds (.inRegion ops (i::rest)::k)
  split at h
  ·rename_i hw
   refine .step (fun fr' cs' σ'=>∃nx,NextH C (fun v=>Oz C V b n ops rest Q (Ja e o.dst v)) b.round ds ρ nx σ'∧Ss C.P (Fr b tm ds (.inRegion ops (i::rest)::k)) cs nx fr' cs') (fun W w=>?_) ?_
   ·obtain⟨nx,σ',W',es,j,a,m,p⟩:=Rr _ σ _ W #[] h w
    have hd:∀c,o.op = .defer c→b.round=none:=by
     intro c hc
     have hx:∃d,nx = .defer d:=by
      have u:execOp (Af e) o=(resolve (Af e) c o.type).bind fun d=>pure (Next.defer d):=by
       unfold execOp;rw[hc];rfl
      rw[u,Sem.runT_bind']at j
      split at j
      ·rename_i a' w' es' _
       have:(Result.ok (Next.defer a') w',es')=(Result.ok nx W',es):=j
       simp only[Prod.mk.injEq,Result.ok.injEq]at this
       exact⟨a',this.1.1.symm⟩
      ·simp at j
     obtain⟨d,rfl⟩:=hx
     exact a.1
    have hnx:∃fr' cs',Ss C.P (Fr b tm ds (.inRegion ops (i::rest)::k)) cs nx fr' cs':=by
     cases nx<;>simp only[NextH]at a<;>exact⟨_,_,rfl,rfl⟩
    obtain⟨fr',cs',es',q,g,t⟩:=Sx (s:=execOp (Af e) o) (by exact hk) (by simp[Fr]) j hnx
    refine⟨fr',cs',W',es',σ',?_,m,fun ev he=>Amj p (t ev he),nx,a,g⟩
    rw[Np ho (by rw[Ij hs ht];exact hw) hd,hev]
    exact q
   ·rintro fr' cs' σ' ⟨nx,a,g⟩
    cases nx<;>simp only[NextH]at a
    case value v =>
     obtain⟨rfl,rfl⟩:=g
     rw[Ju ho]
     exact a _ k _ (Jj hs ht ho v)
    case skip =>
     obtain⟨rfl,rfl⟩:=g
     rw[Ju ho]
     exact a _ k _ (Jj hs ht ho undef)
    case defer d =>
     obtain⟨rfl,rfl⟩:=g
     have:Frame.finish {Fr b tm ds (.inRegion ops (i::rest)::k) with defers:=d::(Fr b tm ds (.inRegion ops (i::rest)::k)).defers} undef=(Fr b tm (d::ds) (.inRegion ops (i::rest)::k)).finish undef:=rfl
     rw[this,Ju ho]
     exact a.2 _ k _ (Jj hs ht ho undef)
    case enter f args =>
     obtain⟨rfl,rfl⟩:=g
     refine(a _ cs).bind ?_
     rintro _ _ ρ' σ'' ⟨v,rfl,rfl,hv⟩
     rw[Ju ho]
     exact hv _ k _ (Jj hs ht ho v)
    case round l f tmps assign body =>
     obtain⟨rfl,rfl⟩:=g
     refine(a _ cs).bind ?_
     rintro _ _ ρ' σ'' ⟨v,rfl,rfl,hv⟩
     rw[Ju ho]
     exact hv _ k _ (Jj hs ht ho v)
  ·rename_i hw
   refine Eh (fun W=>Abu ho (by rw[Ij hs ht];simpa using hw) W) ?_
   rw[Ju ho]
   exact h _ k _ (Jj hs ht ho undef)
/-- A region in the text's order. -/
theorem Wp{id:Nat}{Q:Hu}(hs:Fu n ops=true)(hk:b.kind ≠ .early)(h:Oz C V b n ops (List.range ops.size) (fun e ds ρ σ=>Q .normal e ds ρ σ) e ds ρ σ):WpP C V b n (.region id ops false) Q e ds ρ σ:=by
 intro tm k cs ht
 refine Eh (fr':=Fr b tm ds (.inRegion ops (List.range ops.size)::k)) (cs':=cs) (fun W=>by simp[Conc.G,stepG,stepG.exec,Fr]) ?_
 refine(h tm k cs ht).mono ?_
 rintro _ _ ρ' σ' (⟨rfl,tm',e',ds',a,c,rfl⟩|hp)
 ·exact .inl ⟨rfl,.normal,tm',e',ds',k,a,c,rfl,rfl⟩
 ·exact .inr hp
/-- It waits for each of these. -/
def Pg(ops:Array Oper)(pz:List Nat)(j:Nat):Bool :=
 match ops[j]? with
 | some o=>pz.all fun i=>o.after.any fun e=>Region.binds .any e&&e.on==i
 | none=>false
theorem Ghost.same{ρ:Ro}{σ:Own}:Ghost ρ σ ρ σ:=⟨fun _ h=>h,fun _ o h=>⟨o,h⟩,fun _ h=>.inl h,fun _ _=>Iff.rfl,fun _ h=>h,fun _ h=>h,fun _ _ _ h=>h,fun _ _ _ _ h=>h⟩
/-- Whatever order is picked from here on. 'pz': the operations that may be taken first;behind each operation that does not wait for all of them,S holds. What is held may be told otherwise at every place. -/
def El(C:Ctx)(b:FB)(ops:Array Oper)(Q:Env→List Deferred→Ro→Own→Prop)(pz:List Nat)(S:Ro→Own→Prop):Nat→Array Bool→Env→List Deferred→Ro→Own→Prop
 | 0,listed,e,ds,ρ,σ=>Region.ready .any ops listed=[]∧Q e ds ρ σ
 | fuel+1,listed,e,ds,ρ,σ=>(∀W,¬Sat ρ σ W)∨∃ρ₁ σ₁,Ghost ρ σ ρ₁ σ₁∧(S ρ σ→S ρ₁ σ₁)∧(Region.ready .any ops listed=[]→Q e ds ρ₁ σ₁) ∧
  ∀i∈Region.ready .any ops listed,OpH C b ops i (fun e' ds' ρ' σ'=>(Pg ops pz i=false→S ρ' σ')∧El C b ops Q pz S fuel (listed.setIfInBounds i true) e' ds' ρ' σ') e ds ρ₁ σ₁
theorem Rc{S:Cy}{fr:Frame}{cs:List Frame}(h:∀W,¬Sat ρ σ W):GoesH C S fr cs ρ σ :=
 .step (fun _ _ _=>False) (fun W hs=>absurd hs (h W)) (fun _ _ _ h=>h.elim)
theorem Aas{pz:List Nat}{S:Ro→Own→Prop}(hs:Fu n ops=true)(hk:b.kind ≠ .early):∀(fuel t:Nat) (listed:Array Bool) (e:Env) (ds:List Deferred) (ρ:Ro) (σ:Own),El C b ops Q pz S fuel listed e ds ρ σ →
  Oz C V b n ops (Region.linearise.go .any ops fuel t listed []) Q e ds ρ σ:=by
 intro fuel
 induction fuel with
 | zero=>intro t listed e ds ρ σ h;simpa[Region.linearise.go]using Xh h.2
 | succ fuel ih =>
  intro t listed e ds ρ σ h
  rcases h with h|⟨ρ₁,σ₁,hg,_,h₀,h₁⟩
  ·exact fun tm k cs ht=>Rc h
  refine fun tm k cs ht=>.ghost hg ?_
  revert tm k cs
  change Oz C V b n ops (Region.linearise.go .any ops (fuel+1) t listed []) Q e ds ρ₁ σ₁
  simp only[Region.linearise.go]
  change Oz C V b n ops (match (Region.ready .any ops listed)[t%(Region.ready .any ops listed).length]? with
   | some i=>Region.linearise.go .any ops fuel (t/(Region.ready .any ops listed).length) (listed.setIfInBounds i true) [i]
   | none=>[].reverse) Q e ds ρ₁ σ₁
  cases hi:(Region.ready .any ops listed)[t%(Region.ready .any ops listed).length]? with
  | none =>
   have a:Region.ready .any ops listed=[]:=by
    cases hr:Region.ready .any ops listed with
    | nil=>rfl
    | cons x xs =>
     rw[hr]at hi
     have hlt:t%(x::xs).length<(x::xs).length:=Ais _ (by simp)
     simp at hi
     simp at hlt
     omega
   simpa using Xh (h₀ a)
  | some i =>
   simp only[]
   rw[linearise_go_acc,List.reverse_singleton,Azc]
   exact Uc hs hk (OpH.mono (h₁ i (lZ6 hi)) fun e' ds' ρ' σ' h=>ih _ _ e' ds' ρ' σ' h.2)
/-- What is held,told otherwise. -/
theorem Aar{pz:List Nat}{S:Ro→Own→Prop}{fuel:Nat}{listed:Array Bool}{ρ':Ro}{σ':Own}(hg:Ghost ρ σ ρ' σ')(hS:S ρ σ→S ρ' σ')(h:El C b ops Q pz S (fuel+1) listed e ds ρ' σ'):El C b ops Q pz S (fuel+1) listed e ds ρ σ:=by
 rcases h with h|⟨ρ₁,σ₁,hg1,h1,h2⟩
 ·exact .inl fun W hs=>h W (hg.sat W hs)
 ·refine .inr ⟨ρ₁,σ₁,⟨fun W hs=>hg1.sat W (hg.sat W hs),fun b o hb=>let ⟨o',ho'⟩:=hg1.objs b o hb;hg.objs b o' ho',fun b hb=>(hg1.dom b hb).elim (hg.dom b) fun⟨o,ho⟩=>.inr (hg.objs b o ho),fun c vs=>(hg1.ends c vs).trans (hg.ends c vs),
   fun b hb=>hg.keys b (hg1.keys b hb),fun c hc=>hg.chans c (hg1.chans c hc),fun c k Rs hc=>hg.crowds c k Rs (hg1.crowds c k Rs hc),fun c k Rs hn hc=>hg1.crowdsKept c k Rs hn (hg.crowdsKept c k Rs hn hc)⟩,fun hs=>h1 (hS hs),h2⟩
/-- In this state operation o yields v wherever S holds,and nothing else happens. -/
def YieldsH(P:Program)(ops:Array Oper)(S:Ro→Own→Prop)(o:Oper)(v:Value)(e:Env):Prop :=
 (Bz ops o e=true∧∀ρ σ,S ρ σ→wpS P ρ (execOp (Af e) o) σ (fun nx σ'=>nx = .value v∧σ'=σ)) ∨
 (Bz ops o e=false∧v=undef)
theorem Aer{e:Env}{dst:Option Tmp}{v:Value}{x:Operand}(h:∀d,dst=some d→x ≠ .tmp d):Af (Ja e dst v) x=Af e x:=by
 cases dst with
 | none=>rfl
 | some d =>
  cases x with
  | tmp t =>
   have hne:t≠d:=fun h'=>h d rfl (h' ▸ rfl)
   simp[Af,Ja,upd,hne]
  | _=>rfl
theorem Ru(o:Oper)(hs:∀cs b,o.op ≠ .select cs b)(e:Env)(dst:Option Tmp)(v:Value)(h:∀d,dst=some d→d∉o.looksAt ops) :
  execOp (Af (Ja e dst v)) o=execOp (Af e) o :=
 execOp_congr o hs fun x hx=>Aer fun d hd hxd=>h d hd (by
  subst hxd
  exact Lb _ (List.mem_filterMap.2 ⟨.tmp d,by simpa using hx,rfl⟩))
theorem Sd(o:Oper)(e:Env)(dst:Option Tmp)(v:Value)(h:∀d,dst=some d→d∉o.looksAt ops):Bz ops o (Ja e dst v)=Bz ops o e:=by
 cases dst with
 | none=>rfl
 | some d =>
  unfold Bz
  cases hg:o.guard with
  | none=>rfl
  | some gw =>
   obtain⟨g,a⟩:=gw
   have hy:Ht ops (Ja e (some d) v) g=Ht ops e g:=by
    unfold Ht
    cases ht:(ops[g]?).bind (·.dst) with
    | none=>rfl
    | some t =>
     have hne:t≠d:=fun h'=>h d rfl (by subst h';simp[Oper.looksAt,hg,ht])
     simp[Ja,upd,hne]
   simp only[hy]
theorem Vx(e:Env){x y:Option Tmp}(v u:Value)(h:∀d,x=some d→y≠some d):Ja (Ja e x v) y u=Ja (Ja e y u) x v:=by
 cases x with
 | none=>rfl
 | some d =>
  cases y with
  | none=>rfl
  | some d' =>
   have hne:d≠d':=fun he=>h d rfl (he ▸ rfl)
   funext i
   simp only[Ja,upd]
   by_cases h1:i=d'<;>by_cases h2:i=d<;>simp_all
theorem Akg{S:Ro→Own→Prop}{j:Nat}{oi oj:Oper}{v:Value}(hj:ops[j]?=some oj)(hap:oi.apart ops oj=true)
  (hsi:∀cs b,oi.op ≠ .select cs b) (hsj:∀cs b,oj.op ≠ .select cs b) {K:Env→List Deferred→Ro→Own→Prop}
  (hy:YieldsH C.P ops S oi v e) (h:OpH C b ops j K (Ja e oi.dst v) ds ρ σ) :
  OpH C b ops j (fun e' ds' ρ' σ'=>YieldsH C.P ops S oi v e'∧K (Ja e' oi.dst v) ds' ρ' σ') e ds ρ σ:=by
 obtain⟨a,c,d⟩:=Oper.apart_spec hap
 have f:∀u,YieldsH C.P ops S oi v (Ja e oj.dst u):=fun u=>by
  unfold YieldsH at *
  rw[Ru oi hsi e oj.dst u d,Sd oi e oj.dst u d]
  exact hy
 unfold OpH at *
 simp only[hj]at *
 rw[Sd oj e oi.dst v a]at h
 split
 ·rename_i hw
  rw[if_pos hw,Ru oj hsj e oi.dst v a]at h
  refine Eu (fun nx σ' hn=>hn.mono fun u ds ρ σ hh=>⟨f u,?_⟩) _ _ h
  rw[←Vx e v u c];exact hh
 ·rename_i hw
  rw[if_neg hw]at h
  exact⟨f _,by rw[←Vx e v undef c];exact h⟩
theorem YieldsH.opH{S:Ro→Own→Prop}{i:Nat}{o:Oper}{v:Value}(hi:ops[i]?=some o)(hy:YieldsH C.P ops S o v e)(hS:S ρ σ){K:Env→List Deferred→Ro→Own→Prop}(h:K (Ja e o.dst v) ds ρ σ):OpH C b ops i K e ds ρ σ:=by
 unfold OpH
 simp only[hi]
 rcases hy with⟨hw,hv⟩|⟨hw,rfl⟩
 ·rw[if_pos hw]
  exact Eu (by rintro nx σ' ⟨rfl,rfl⟩;exact h) _ _ (hv ρ σ hS)
 ·rw[if_neg (by simp[hw])];exact h
/-- An operation that may come up now may be taken first. -/
theorem Aaq{pz:List Nat}{S:Ro→Own→Prop}{i:Nat}{oi:Oper}{v:Value}(hi:ops[i]?=some oi)(hp:i∈pz)(hsel:∀(j:Nat) (o:Oper) cs b,ops[j]?=some o→o.op ≠ .select cs b) :
  ∀(fuel:Nat) (listed:Array Bool) (e:Env) (ds:List Deferred) (ρ:Ro) (σ:Own),
   (∀j oj,ops[j]?=some oj→j≠i→listed.getD j true=false→(∀e∈oj.after,Region.binds .any e=true→e.on≠i)→oi.apart ops oj=true) →
   i∈Region.ready .any ops listed→YieldsH C.P ops S oi v e→S ρ σ →
   El C b ops Q pz S fuel (listed.setIfInBounds i true) (Ja e oi.dst v) ds ρ σ→El C b ops Q pz S (fuel+1) listed e ds ρ σ:=by
 intro fuel
 induction fuel with
 | zero =>
  intro listed e ds ρ σ _ hr hy hS H
  refine .inr ⟨ρ,σ,.same,id,fun h=>(by rw[h]at hr;cases hr),fun j hj=>?_⟩
  by_cases hji:j=i
  ·subst hji;exact hy.opH hi hS ⟨fun _=>hS,H⟩
  ·have:=ready_mono hj hji
   rw[H.1]at this
   cases this
 | succ fuel ih =>
  intro listed e ds ρ σ f hr hy hS H
  rcases H with H|⟨ρ₁,σ₁,hg,hSS,H0,H2⟩
  ·exact .inl H
  have hS₁:=hSS hS
  refine .inr ⟨ρ₁,σ₁,hg,hSS,fun h=>(by rw[h]at hr;cases hr),fun j hj=>?_⟩
  by_cases hji:j=i
  ·subst hji;exact hy.opH hi hS₁ ⟨fun _=>hS₁,.inr ⟨ρ₁,σ₁,.same,id,H0,H2⟩⟩
  ·have a:=H2 j (ready_mono hj hji)
   obtain⟨g,oj,hoj,q⟩:=mem_ready.1 hj
   have n:∀e∈oj.after,Region.binds .any e=true→e.on≠i:=fun e he hb heq=>by
    have a:=q e he hb
    have d:=(mem_ready.1 hr).1
    rw[heq]at a
    rcases Mg i listed.size with h'|h'
    ·simp[h']at d a;rw[d]at a;cases a
    ·simp[Azb h']at a
   have m:Pg ops pz j=false:=by
    cases hl:Pg ops pz j with
    | false=>rfl
    | true =>
     simp only[Pg,hoj,Hs]at hl
     obtain⟨e,he,hb⟩:=Array.any_eq_true'.1 (hl i hp)
     simp only[Fd,beq_iff_eq]at hb
     exact absurd hb.2 (n e he hb.1)
   have p:=Akg hoj (f j oj hoj hji g n) (fun cs b=>hsel i oi cs b hi) (fun cs b=>hsel j oj cs b hoj) hy a
   have t:∀k ok,ops[k]?=some ok→k≠i→(listed.setIfInBounds j true).getD k true=false →
     (∀e∈ok.after,Region.binds .any e=true→e.on≠i)→oi.apart ops ok=true:=fun k ok hk hki hun hno=>by
    refine f k ok hk hki ?_ hno
    by_cases hjk:j=k
    ·subst hjk;exact g
    ·rw[getD_set_ne true hjk]at hun;exact hun
   refine OpH.mono p fun e' ds' ρ' σ' c=>⟨fun _=>c.2.1 m,ih (listed.setIfInBounds j true) e' ds' ρ' σ' t (ready_mono hr (Ne.symm hji)) c.1 (c.2.1 m) ?_⟩
   rw[Array.setIfInBounds_comm _ _ hji]
   exact c.2.2
/-- Take number i first. -/
theorem Vm{pz:List Nat}{S:Ro→Own→Prop}{i:Nat}{oi:Oper}{v:Value}{fuel:Nat}{listed:Array Bool}(hi:ops[i]?=some oi)(hp:pz.contains i=true)
  (hs:Region.noSelect ops=true) (hf:Region.free .any ops listed i=true) (hr:(Region.ready .any ops listed).contains i=true)
  (hy:YieldsH C.P ops S oi v e) (hS:S ρ σ) (h:El C b ops Q pz S fuel (listed.setIfInBounds i true) (Ja e oi.dst v) ds ρ σ):El C b ops Q pz S (fuel+1) listed e ds ρ σ :=
 Aaq hi (by simpa using hp) (Region.noSelect_spec hs) fuel listed e ds ρ σ (Region.free_spec hi hf) (by simpa using hr) hy hS h
/-- Whichever of those that may come up comes up. -/
theorem Mz{pz:List Nat}{S:Ro→Own→Prop}{rs:List Nat}{fuel:Nat}{listed:Array Bool}(hr:Region.ready .any ops listed=rs)(hne:rs≠[])
  (h:∀i∈rs,OpH C b ops i (fun e' ds' ρ' σ'=>(Pg ops pz i=false→S ρ' σ')∧El C b ops Q pz S fuel (listed.setIfInBounds i true) e' ds' ρ' σ') e ds ρ σ):El C b ops Q pz S (fuel+1) listed e ds ρ σ :=
 .inr ⟨ρ,σ,.same,id,fun a=>absurd (hr ▸ a) hne,hr ▸ h⟩
/-- All have come up. -/
theorem Aeb{pz:List Nat}{S:Ro→Own→Prop}{listed:Array Bool}(hr:Region.ready .any ops listed=[])(h:Q e ds ρ σ):∀fuel,El C b ops Q pz S fuel listed e ds ρ σ
 | 0=>⟨hr,h⟩
 | _+1=>.inr ⟨ρ,σ,.same,id,fun _=>h,by rw[hr];simp⟩
/-- The beginning. -/
theorem Vk{id:Nat}{Q:Hu}(pz:List Nat)(S:Ro→Own→Prop)(hm:C.P.follows .mixedOrders=true)(hs:Fu n ops=true)(hk:b.kind ≠ .early)
  (h:El C b ops (fun e ds ρ σ=>Q .normal e ds ρ σ) pz S ops.size (Array.replicate ops.size false) e ds ρ σ):WpP C V b n (.region id ops true) Q e ds ρ σ:=by
 intro tm k cs ht
 refine .step (fun fr' cs' σ'=>∃t,fr'=Fr b tm ds (.inRegion ops (Region.linearise .any ops t)::k)∧cs'=cs∧σ'=σ) (fun W a=>?_) ?_
 ·refine⟨_,cs,{W with drawn:=W.drawn+1},#[],σ,?_,?_,by simp,W.tape W.drawn (.order b.fn id),rfl,rfl,rfl⟩
  ·simp[Conc.G,stepG,stepG.exec,Fr,choose,Sem.run,Question.forced,Question.cut,Region.schedule,hm]
  ·have:=Trans.refl a
   exact⟨⟨a.ro,a.own,a.nd,a.dj⟩,this.size,this.keys,this.kept,this.fresh,this.frame,this.ends,this.chans,this.chansKept,this.crowds,this.crowdsKept,rfl,rfl,rfl⟩
 ·rintro _ _ _ ⟨t,rfl,rfl,rfl⟩
  refine(Aas (V:=V) hs hk ops.size t _ e ds ρ _ h tm k _ ht).mono ?_
  rintro _ _ ρ' σ' (⟨rfl,tm',e',ds',c,d,rfl⟩|hp)
  ·exact .inl ⟨rfl,.normal,tm',e',ds',k,c,d,rfl,rfl⟩
  ·exact .inr hp
end
end
section
open Go
theorem Ghost.perm{ρ:Ro}{σ σ':Own}(h:σ.Perm σ'):Ghost ρ σ ρ σ' :=
  ⟨fun W hs => ⟨hs.ro, fun p hp => hs.own p (h.mem_iff.2 hp), (h.map Prod.fst).nodup_iff.1 hs.nd, fun b hb => hs.dj b ((h.map Prod.fst).mem_iff.2 hb)⟩,
   fun b o hb=>⟨o,h.mem_iff.2 hb⟩,fun _ h=>.inl h,fun _ _=>h.mem_iff.symm,fun b hb=>(h.map Prod.fst).mem_iff.2 hb,fun c hc=>h.mem_iff.2 hc,fun c k Rs hc=>h.mem_iff.2 hc,fun c k Rs _ hc=>h.mem_iff.1 hc⟩
/-- An owned block is forgotten. -/
theorem Ghost.drop{ρ:Ro}{σ:Own}{b:Nat}{o:Obj}:Ghost ρ ((b,.obj o)::σ) ρ σ :=
  ⟨fun W hs => ⟨hs.ro, fun p hp => hs.own p (lZ0 _ hp), (Ol.1 hs.nd).2, fun b hb => hs.dj b (lZ0 _ hb)⟩,
   fun b o hb=>⟨o,lZ0 _ hb⟩,fun _ h=>.inl h,fun _ _=>by simp,fun b hb=>lZ0 _ hb,fun c hc=>lZ0 _ hc,fun c k Rs hc=>lZ0 _ hc,fun c k Rs _ hc=>(lZ8.1 hc).elim (fun e=>by cases e) id⟩
/-- A channel over which nothing more is to come is forgotten. -/
theorem Ghost.dropC{ρ:Ro}{σ:Own}{b n:Nat}:Ghost ρ ((b,.crowd n [])::σ) ρ σ :=
  ⟨fun W hs => ⟨hs.ro, fun p hp => hs.own p (lZ0 _ hp), (Ol.1 hs.nd).2, fun b hb => hs.dj b (lZ0 _ hb)⟩,
   fun b o hb=>⟨o,lZ0 _ hb⟩,fun _ h=>.inl h,fun _ _=>by simp,fun b hb=>lZ0 _ hb,fun c hc=>lZ0 _ hc,fun c k Rs hc=>lZ0 _ hc,
   fun c k Rs hn hc=>(lZ8.1 hc).elim (fun e=>by injection e with _ e;injection e with _ e;exact absurd e hn) id⟩
def Ro.add(ρ:Ro)(b:Nat)(o:Obj):Ro:=fun k=>if k=b then some o else ρ k
theorem Ghost.trans{ρ ρ' ρ'':Ro}{σ σ' σ'':Own}(h:Ghost ρ σ ρ' σ')(h':Ghost ρ' σ' ρ'' σ''):Ghost ρ σ ρ'' σ'' :=
  ⟨fun W hs => h'.sat W (h.sat W hs), fun b o hb => let ⟨o', ho'⟩ := h'.objs b o hb;h.objs b o' ho',
   fun b hb=>(h'.dom b hb).elim (h.dom b) fun⟨o,ho⟩=>.inr (h.objs b o ho),fun c vs=>(h'.ends c vs).trans (h.ends c vs),fun b hb=>h.keys b (h'.keys b hb),fun c hc=>h.chans c (h'.chans c hc),fun c k Rs hc=>h.crowds c k Rs (h'.crowds c k Rs hc),fun c k Rs hn hc=>h'.crowdsKept c k Rs hn (h.crowdsKept c k Rs hn hc)⟩
theorem Ghost.refl{ρ:Ro}{σ:Own}:Ghost ρ σ ρ σ:=.perm (.refl _)
/-- What more may be read: nothing that could be read is lost. -/
def Ro.le(ρ ρ':Ro):Prop:=∀b o,ρ b=some o→ρ' b=some o
theorem Ro.le.refl{ρ:Ro}:Ro.le ρ ρ:=fun _ _ h=>h
theorem Ro.le.trans{ρ ρ' ρ'':Ro}(h:Ro.le ρ ρ')(h':Ro.le ρ' ρ''):Ro.le ρ ρ'':=fun b o hb=>h' b o (h b o hb)
/-- What may be read may be forgotten. -/
theorem Ghost.forget{ρ ρ':Ro}{σ:Own}(h:Ro.le ρ' ρ):Ghost ρ σ ρ' σ :=
  ⟨fun W hs=>⟨fun b o hb=>hs.ro b o (h b o hb),hs.own,hs.nd,fun b hb=>by
      cases hr:ρ' b with
      | none=>rfl
      | some o => have := hs.dj b hb;rw[h b o hr]at this;cases this⟩,
   fun b o hb => ⟨o, hb⟩, fun b hb => by
      obtain⟨o,ho⟩:=Atp.1 hb
      exact .inl (by rw[h b o ho];rfl),fun _ _=>Iff.rfl,fun _ h=>h,fun _ h=>h,fun _ _ _ h=>h,fun _ _ _ _ h=>h⟩
theorem Ghost.freeze{ρ:Ro}{σ:Own}{b:Nat}{o:Obj}(hb:ρ b=none):Ghost ρ ((b,.obj o)::σ) (ρ.add b o) σ:=by
 refine⟨fun W hs=>?_,fun k ok hk=>⟨ok,lZ0 _ hk⟩,fun k hk=>?_,fun _ _=>by simp,fun k hk=>lZ0 _ hk,fun k hk=>lZ0 _ hk,fun c k Rs hc=>lZ0 _ hc,fun c k Rs _ hc=>(lZ8.1 hc).elim (fun e=>by cases e) id⟩
 ·have hnd:=Ol.1 hs.nd
  refine⟨fun k ok hk=>?_,fun p hp=>hs.own p (lZ0 _ hp),hnd.2,fun k hk=>?_⟩
  ·unfold Ro.add at hk
   split at hk
   ·rename_i e;subst e;cases hk;exact hs.own _ mC
   ·exact hs.ro k ok hk
  ·unfold Ro.add
   rw[if_neg (fun (e:k=b)=>hnd.1 (by rw[e]at hk;exact hk))]
   exact hs.dj k (lZ0 _ hk)
 ·unfold Ro.add at hk
  split at hk
  ·rename_i e;subst e;exact .inr ⟨o,Oh ..⟩
  ·exact .inl hk
/-- From now on the block is read alone,by whoever. -/
theorem Rv{C:Ctx}{S:Cy}{fr:Frame}{cs:List Frame}{ρ:Ro}{σ:Own}{b:Nat}{o:Obj}(h:∀ρ',Ro.le ρ ρ'→ρ' b=some o→GoesH C S fr cs ρ' σ):GoesH C S fr cs ρ ((b,.obj o)::σ):=by
 by_cases hb:ρ b=none
 ·exact .ghost (.freeze hb) (h _ (fun x ox hx=>by unfold Ro.add;rw[if_neg (fun e=>by rw[e,hb]at hx;cases hx)];exact hx) (by simp[Ro.add]))
 ·exact Rc fun W hs=>absurd (hs.dj b mC) hb
section
variable{C:Ctx}{V:Hn}{b:FB}{n:Nat}{Q:Hu}{e:Env}{ds:List Deferred}{ρ ρ':Ro}{σ σ':Own}
theorem Wo{c:Code}{k:Nat}{o:Obj}(h:∀ρ',Ro.le ρ ρ'→ρ' k=some o→WpP C V b n c Q e ds ρ' σ):WpP C V b n c Q e ds ρ ((k,.obj o)::σ) :=
 fun tm kk cs ht=>Rv fun ρ' a d=>h ρ' a d tm kk cs ht
theorem Abn{ops:Array Oper}{todo:List Nat}{Q:Env→List Deferred→Ro→Own→Prop}{k:Nat}{o:Obj}(h:∀ρ',Ro.le ρ ρ'→ρ' k=some o→Oz C V b n ops todo Q e ds ρ' σ):Oz C V b n ops todo Q e ds ρ ((k,.obj o)::σ) :=
 fun tm kk cs ht=>Rv fun ρ' a c=>h ρ' a c tm kk cs ht
theorem Afg{ops:Array Oper}{todo:List Nat}{Q:Env→List Deferred→Ro→Own→Prop}(hg:Ghost ρ σ ρ' σ')(h:Oz C V b n ops todo Q e ds ρ' σ'):Oz C V b n ops todo Q e ds ρ σ :=
 fun tm k cs ht=>.ghost hg (h tm k cs ht)
def Hp(fn:Func)(e:Env):Sem Value:=do
 let vs ←fn.results.mapM fun
  | .tmp t=>pure (e t)
  | .cell a t=>do loadVar t (←asAddr (e a))
 pure (if h:vs.size=1 then vs[0] else .tuple vs)
theorem Abq{fn:Func}{tm:Array Value}(h:EnvOf n tm e):results fn tm=Hp fn e:=by
 unfold results Hp
 congr 1
 congr 1
 funext r
 cases r<;>simp only[h.2]
/-- What was deferred (marks of ranges over functions alone) is taken,the results are read. -/
def Aki(C:Ctx)(fn:Func)(R:Value→Ro→Own→Prop)(e:Env)(ρ:Ro):List Deferred→Own→Prop
 | [],σ=>wpS C.P ρ (Hp fn e) σ (fun v σ'=>R v ρ σ')
 | d::ds,σ=>∃r i,d.target = .collected r∧σ[i]?=some (r,.obj (.deferred (some [])))∧Aki C fn R e ρ ds (σ.set i (r,.obj (.deferred none)))
theorem Ajr{P:Program}{r i:Nat}{σ:Own}{Q:List Deferred→Own→Prop}(hi:σ[i]?=some (r,.obj (.deferred (some []))))(h:Q [] (σ.set i (r,.obj (.deferred none)))):wpS P ρ (Instr.takeDeferred r) σ Q:=by
 show wpS P ρ ((getObj r).bind _) σ Q
 rw[Ad]
 exact⟨_,.inr (lZ6 hi),rfl,rfl,i,_,hi,rfl,h⟩
theorem Ahz{S:Cy}{fn:Func}{R:Value→Ro→Own→Prop}{tm:Array Value}{todo:List Item}{c:Frame}{cs:List Frame}(hf:C.P.funcs[b.fn]?=some fn)(hk:b.kind = .normal)(ht:EnvOf n tm e)
  (h:Aki C fn R e ρ ds σ) (hS:∀v ρ' σ',R v ρ' σ'→GoesH C S (Frame.finish c v) cs ρ' σ'):GoesH C S {Fr b tm ds todo with mode:=.returning} (c::cs) ρ σ:=by
 induction ds generalizing σ with
 | nil =>
  refine Lw (f:=fun v=>(Frame.finish c v,cs)) (s:=Hp fn e) (Q:=fun v σ'=>R v ρ σ') (fun W v W' es hr=>?_) h fun v σ' hv=>hS v ρ σ' hv
  rw[←Abq ht]at hr
  exact⟨seen C.P b.fn es,by simp[Conc.G,stepG,Fr,unwind,hf,-Sem.runT_eq,hr,doReturn,hk,GStep.after],fun e he=>Lh he⟩
 | cons d ds ih =>
  obtain⟨r,i,hd,hi,h⟩:=h
  obtain⟨tgt,a⟩:=d
  simp only at hd;subst hd
  refine Lw (f:=fun (l:List Deferred)=>({Fr b tm (l++ds) todo with mode:=.returning},c::cs)) (s:=Instr.takeDeferred r) (Q:=fun l σ'=>l=[]∧Aki C fn R e ρ ds σ') (fun W l W' es hr=>?_) (Ajr hi ⟨rfl,h⟩) ?_
  ·exact⟨seen C.P b.fn es,by simp[Conc.G,stepG,Fr,unwind,-Sem.runT_eq,hr,GStep.after],fun e he=>Lh he⟩
  ·rintro l σ' ⟨rfl,h⟩
   exact ih h
/-- The frame's first state: the arguments lie in the first slots. -/
def Pn(args:List Value):Env:=fun i=>args.getD i undef
theorem Tn{args:List Value}(h:args.length≤n):EnvOf n (args.toArray++Array.replicate (n-args.toArray.size) undef) (Pn args):=by
 refine⟨by simp;omega,fun i=>?_⟩
 unfold Pn
 rw[Ato,Uk,Array.getElem?_append]
 simp only[Aaw,Ib]
 split
 ·rfl
 ·rename_i hlt
  rw[Og (by omega),Array.getElem?_replicate]
  split<;>rfl
theorem Oy{f:FuncId}{fn:Func}{c:Code}{args:List Value}{R:Value→Ro→Own→Prop}(hf:C.P.funcs[f]?=some fn)(hc:fn.body=some c)(hn:fn.ntmps=n)(ha:args.length≤n)
  (h:WpC C ⟨f,.normal,none⟩ n c (fun ex e ds ρ' σ'=>(∀id,ex ≠ .exit id)∧Aki C fn R e ρ' ds σ') (Pn args) [] ρ σ):CallsH C f args.toArray ρ σ R:=by
 intro c' cs
 have g:Frame.enter C.P f args.toArray .normal=Fr ⟨f,.normal,none⟩ (args.toArray++Array.replicate (n-args.toArray.size) undef) [] [.code c]:=by
  simp[Frame.enter,hf,hc,hn,Fr]
 rw[g]
 refine(h.stops _ [] (c'::cs) (Tn ha)).bind ?_
 rintro _ _ ρ' σ' ⟨rfl,ex,tm',e',ds',a,i,⟨j,k⟩,d,rfl⟩
 have fin:∀a,GoesH C (fun fr cs' ρ' σ'=>∃v,fr=Frame.finish c' v∧cs'=cs∧R v ρ' σ') {Fr ⟨f,.normal,none⟩ tm' ds' a with mode:=.returning} (c'::cs) ρ' σ' :=
  fun a=>Ahz (b:=⟨f,.normal,none⟩) hf rfl i k fun v ρ'' σ'' hv=>.stop ⟨v,rfl,rfl,hv⟩
 cases ex with
 | normal =>
  cases d
  exact Eh (fr':={Fr ⟨f,.normal,none⟩ tm' ds' [] with mode:=.returning}) (cs':=c'::cs) (fun W=>by simp[Conc.G,stepG,stepG.exec,Fr]) (fin _)
 | exit id=>exact absurd rfl (j id)
 | ret =>
  obtain⟨pre,rfl⟩:=d
  exact Eh (fr':={Fr ⟨f,.normal,none⟩ tm' ds' (.code .ret::(pre++[])) with mode:=.returning}) (cs':=c'::cs) (fun W=>by simp[Conc.G,stepG,stepG.exec,Fr]) (fin _)
def Pf:Ex→Option Code
 | .normal=>none
 | .exit id=>some (.exit id)
 | .ret=>some .ret
theorem Xs{P:Program}{l i:Nat}{r:Loop}{σ:Own}{Q:Value→Own→Prop}{j:Option Code}(hi:σ[i]?=some (l,.obj (.loop r)))
  (h:Q (.bool j.isNone) (σ.set i (l,.obj (.loop {r with state:=if j.isNone then .ready else .done,pending:=j})))):wpS P ρ (Instr.endRound l j) σ Q:=by
 show wpS P ρ ((Instr.getLoop l).bind _) σ Q
 rw[Ad]
 show wpS P ρ ((getObj l).bind _) σ _
 rw[Ad]
 exact⟨_,.inr (lZ6 hi),rfl,rfl,i,_,hi,rfl,h⟩
theorem Ut{P:Program}{l i:Nat}{r:Loop}{σ:Own}{Q:Unit→Own→Prop}(hi:σ[i]?=some (l,.obj (.loop r)))(hr:r.state = .ready)
  (h:Q () (σ.set i (l,.obj (.loop {r with state:=.busy})))):wpS P ρ (Instr.beginRound l) σ Q:=by
 show wpS P ρ ((Instr.getLoop l).bind _) σ Q
 rw[Ad]
 show wpS P ρ ((getObj l).bind _) σ _
 rw[Ad]
 refine⟨_,.inr (lZ6 hi),rfl,?_⟩
 show wpS P ρ ((setObj l _).bind _) σ _
 rw[Ad]
 refine⟨rfl,i,_,hi,rfl,?_⟩
 simp only[hr]
 exact h
theorem Abr{l:Nat}{f:FuncId}{tm:Array Value}{assign body:Code}{R:Value→Ro→Own→Prop}(ht:EnvOf n tm e)
  (h:WpC C ⟨f,.normal,some l⟩ n assign (fun ex e1 ds1 ρ1 σ1=>ex = .normal∧ds1=[]∧∃i r,σ1[i]?=some (l,.obj (.loop r))∧r.state = .ready ∧
   WpC C ⟨f,.normal,some l⟩ n body (fun ex _ _ ρ2 σ2=>∃i2 r2,σ2[i2]?=some (l,.obj (.loop r2)) ∧
    R (.bool (Pf ex).isNone) ρ2 (σ2.set i2 (l,.obj (.loop {r2 with state:=if (Pf ex).isNone then .ready else .done,pending:=Pf ex})))) e1 [] ρ1 (σ1.set i (l,.obj (.loop {r with state:=.busy})))) e [] ρ σ) :
  RoundH C l f tm assign body ρ σ R:=by
 intro c' cs
 have e1:Frame.round l f tm assign body .normal=Fr ⟨f,.normal,some l⟩ tm [] [.code assign,.beginRound,.code body]:=rfl
 rw[e1]
 refine(h.stops tm [.beginRound,.code body] (c'::cs) ht).bind ?_
 rintro _ _ ρ1 σ1 ⟨rfl,ex,c,e1,ds1,k,j,⟨rfl,rfl,i,r,hi,hr,hb⟩,b,rfl⟩
 cases b
 refine Lw (f:=fun (_:Unit)=>(Fr ⟨f,.normal,some l⟩ c [] [.code body],c'::cs)) (s:=Instr.beginRound l) (Q:=fun _ σ'=>σ'=σ1.set i (l,.obj (.loop {r with state:=.busy}))) (fun W u W' es a=>?_) (Ut hi hr rfl) ?_
 ·refine⟨seen C.P f es,?_,fun e he=>Lh he⟩
  have g:(do (some l).elim (stuck "beginRound: no round") Instr.beginRound;pure Next.skip:Sem Next).runT C.P W #[]=(.ok Next.skip W',es):=by
   show ((Instr.beginRound l).bind fun _=>Sem.pure Next.skip).runT C.P W #[]=_
   rw[Sem.runT_bind',a];rfl
  simp only[Conc.G,stepG,stepG.exec,Fr,stepG.apply,if_true,g,GStep.after]
  simp only[Frame.finish]
  rfl
 rintro u σ' rfl
 refine(hb.stops c [] (c'::cs) j).bind ?_
 rintro _ _ ρ2 σ2 ⟨rfl,ex,t,p,m,k,q,⟨i2,r2,d,hR⟩,b,rfl⟩
 refine Lw (f:=fun v=>(Frame.finish c' v,cs)) (s:=Instr.endRound l (Pf ex)) (Q:=fun v σ'=>R v ρ2 σ') (fun W v W' es a=>?_) (Xs d hR) fun v σ' hv=>.stop ⟨v,rfl,rfl,hv⟩
 refine⟨seen C.P f es,?_,fun e he=>Lh he⟩
 cases ex with
 | normal =>
  cases b
  simp only[Pf]at a
  simp[Conc.G,stepG,stepG.exec,Fr,-Sem.runT_eq,a,doReturn,GStep.after]
 | exit id =>
  obtain⟨pre,hp,rfl⟩:=b
  have hno:exitTo id (pre++[])=none:=by rw[Mj hp];rfl
  simp only[Pf]at a
  simp only[Lz]at hno
  simp[Conc.G,stepG,stepG.exec,Fr,-Sem.runT_eq,a,hno,doReturn,GStep.after]
 | ret =>
  obtain⟨pre,rfl⟩:=b
  simp only[Pf]at a
  simp[Conc.G,stepG,stepG.exec,Fr,-Sem.runT_eq,a,doReturn,GStep.after]
end
abbrev Bsy:=@Ro.le.refl
abbrev Bsz:=@Ro.le.trans
end
section
open Go
/-- The rest of a region in the text's order. -/
def Db(C:Ctx)(V:Hn)(b:FB)(n:Nat)(l₀ rest:List Oper)(Q:Env→List Deferred→Ro→Own→Prop)(e:Env)(ds:List Deferred)(ρ:Ro)(σ:Own):Prop :=
 ∀pre,l₀=pre++rest→Fu n l₀.toArray=true→b.kind ≠ .early→Oz C V b n l₀.toArray (List.range' pre.length rest.length) Q e ds ρ σ
abbrev Ey(C:Ctx)(b:FB)(n:Nat)(l₀ rest:List Oper)(Q:Env→List Deferred→Ro→Own→Prop)(e:Env)(ds:List Deferred)(ρ:Ro)(σ:Own):Prop:=Db C NoV b n l₀ rest Q e ds ρ σ
section
variable{C:Ctx}{V:Hn}{b:FB}{n:Nat}{l₀ rest:List Oper}{Q:Env→List Deferred→Ro→Own→Prop}{e:Env}{ds:List Deferred}{ρ:Ro}{σ:Own}
def Nm(n:Nat):List Oper→Bool
 | []=>true
 | o::l=>(match o.dst with|some d=>Nat.ble (d+1) n|none=>true)&&Nm n l
theorem Ih{n:Nat}:∀{l:List Oper},Nm n l=true→Fu n l.toArray=true:=by
 intro l h
 unfold Fu
 rw[Bdj,Hs]
 induction l with
 | nil=>simp
 | cons o l ih =>
  simp only[Nm,Fd]at h
  intro x hx
  rcases lZ8.1 hx with rfl|hx
  ·cases hd:x.dst with
   | none=>rfl
   | some d=>have:=h.1;rw[hd]at this;exact Lg (lZ5 this)
  ·exact ih h.2 x hx
theorem Ag{id:Nat}{Q:Hu}(hs:Nm n l₀=true)(hk:b.kind = .normal)(h:Db C V b n l₀ l₀ (fun e ds ρ σ=>Q .normal e ds ρ σ) e ds ρ σ):WpP C V b n (.region id l₀.toArray false) Q e ds ρ σ:=by
 have hk':b.kind ≠ .early:=by rw[hk];simp
 refine Wp (Ih hs) hk' ?_
 have:=h [] rfl (Ih hs) hk'
 simpa[Apn]using this
theorem Ac(h:Q e ds ρ σ):Db C V b n l₀ [] Q e ds ρ σ:=fun _ _ _ _=>Xh h
theorem Apt{o:Oper}(h:(if Bz l₀.toArray o e=true then wpS C.P ρ (execOp (Af e) o) σ (NextH C (fun v=>Db C V b n l₀ rest Q (Ja e o.dst v)) b.round ds ρ) else Db C V b n l₀ rest Q (Ja e o.dst undef) ds ρ σ)) :
  Db C V b n l₀ (o::rest) Q e ds ρ σ:=by
 intro pre a hs hk
 have ho:l₀.toArray[pre.length]?=some o:=by subst a;simp
 rw[lZ2,Yy]
 have c:∀e ds ρ σ,Db C V b n l₀ rest Q e ds ρ σ→Oz C V b n l₀.toArray (List.range' (pre.length+1) rest.length) Q e ds ρ σ:=fun e ds ρ σ h'=>by
  have:=h' (pre++[o]) (by rw[a];simp) hs hk
  simpa using this
 refine Uc hs hk ?_
 unfold OpH
 simp only[ho]
 split
 ·rename_i hw
  rw[if_pos hw]at h
  exact Eu (fun nx σ' hn=>hn.mono fun v ds ρ σ hh=>c _ _ _ _ hh) _ _ h
 ·rename_i hw
  rw[if_neg hw]at h
  exact c _ _ _ _ h
/-- An operation whose guard fails. -/
theorem Ap{o:Oper}(hw:Bz l₀.toArray o e=false)(h:Db C V b n l₀ rest Q (Ja e o.dst undef) ds ρ σ):Db C V b n l₀ (o::rest) Q e ds ρ σ :=
 Apt (by rw[if_neg (by simp[hw])];exact h)
theorem Add{o:Oper}(hw:Bz l₀.toArray o e=true)(h:wpS C.P ρ (execOp (Af e) o) σ (NextH C (fun v=>Db C V b n l₀ rest Q (Ja e o.dst v)) b.round ds ρ)):Db C V b n l₀ (o::rest) Q e ds ρ σ :=
 Apt (by rw[if_pos hw];exact h)
theorem Bj{ρ':Ro}{σ':Own}(hg:Ghost ρ σ ρ' σ')(h:Db C V b n l₀ rest Q e ds ρ' σ'):Db C V b n l₀ rest Q e ds ρ σ:=fun pre a c d=>Afg hg (h pre a c d)
theorem Tu{k:Nat}{o:Obj}(h:∀ρ',Ro.le ρ ρ'→ρ' k=some o→Db C V b n l₀ rest Q e ds ρ' σ):Db C V b n l₀ rest Q e ds ρ ((k,.obj o)::σ) :=
 fun pre a c d=>Abn fun ρ' f g=>h ρ' f g pre a c d
/-- A guard that holds,or not. -/
theorem Ar{j:Nat}{w x:Bool}{d:Nat}{o:Oper}(hg:o.guard=some (j,w))(hd:(l₀.toArray[j]?).bind (·.dst)=some d)(he:e d = .bool x)(hx:x=w):Bz l₀.toArray o e=true:=by
 subst hx
 unfold Bz Ht
 simp only[hg,hd,he]
 simp
theorem Bl{j:Nat}{w x:Bool}{d:Nat}{o:Oper}(hg:o.guard=some (j,w))(hd:(l₀.toArray[j]?).bind (·.dst)=some d)(he:e d = .bool x)(hx:x = !w):Bz l₀.toArray o e=false:=by
 subst hx
 unfold Bz Ht
 simp only[hg,hd,he]
 cases w<;>rfl
def gV(l:List Oper)(o:Oper)(e:Env):Option (Bool×Bool):=match o.guard with
 | some (j,w)=>match (l.toArray[j]?).bind (·.dst) with
  | some d=>match e d with
   | .bool x=>some (x,w)
   | _=>none
  | none=>none
 | none=>none
theorem Bkq{l:List Oper}{o:Oper}{e:Env}{x w:Bool}(h:gV l o e=some (x,w)):∃j d,o.guard=some (j,w)∧(l.toArray[j]?).bind (·.dst)=some d∧e d = .bool x:=by
 unfold gV at h
 split at h
 ·split at h
  ·split at h
   ·cases h;exact⟨_,_,by assumption,by assumption,by assumption⟩
   ·cases h
  ·cases h
 ·cases h
theorem gN{l:List Oper}{o:Oper}{e:Env}{x w:Bool}(h:gV l o e=some (x,w))(hx:x = !w):Bz l.toArray o e=false:=let ⟨_,_,h1,h2,h3⟩:=Bkq h;Bl h1 h2 h3 hx
theorem gY{l:List Oper}{o:Oper}{e:Env}{x w:Bool}(h:gV l o e=some (x,w))(hx:x=w):Bz l.toArray o e=true:=let ⟨_,_,h1,h2,h3⟩:=Bkq h;Ar h1 h2 h3 hx
theorem Jf{j:Nat}{w:Bool}{d:Nat}{o:Oper}(hg:o.guard=some (j,w))(hd:(l₀.toArray[j]?).bind (·.dst)=some d)(he:e d=undef):Bz l₀.toArray o e=false:=by
 unfold Bz Ht
 simp only[hg,hd,he,undef]
 rfl
/-- What an operation yields,whatever else is held: it touches nothing that is not only read. -/
def Yld(P:Program)(ρ:Ro)(e:Env)(o:Op)(ty:TypeId)(v:Value):Prop :=
 ∀ρ' σ d pos af g,(∀b o,ρ b=some o→ρ' b=some o)→wpS P ρ' (execOp (Af e) ⟨d,o,ty,pos,af,g⟩) σ (fun nx σ'=>nx = .value v∧σ'=σ)
theorem Aa{d:Nat}{op:Op}{ty:TypeId}{pos:String}{af:Array Edge}{g:Option (Nat×Bool)}{v:Value}(hw:Bz l₀.toArray ⟨some d,op,ty,pos,af,g⟩ e=true)(hy:Yld C.P ρ e op ty v)(h:Db C V b n l₀ rest Q (upd e d v) ds ρ σ) :
  Db C V b n l₀ (⟨some d,op,ty,pos,af,g⟩::rest) Q e ds ρ σ :=
 Add hw (Eu (by rintro nx σ' ⟨rfl,rfl⟩;exact h) _ _ (hy ρ σ _ _ _ _ fun _ _ h=>h))
theorem Ak{F:Value→Prop}{d:Nat}{op:Op}{ty:TypeId}{pos:String}{af:Array Edge}{g:Option (Nat×Bool)}(hw:Bz l₀.toArray ⟨some d,op,ty,pos,af,g⟩ e=true)(hy:∃v,F v∧Yld C.P ρ e op ty v)(h:∀v,F v→Db C V b n l₀ rest Q (upd e d v) ds ρ σ) :
  Db C V b n l₀ (⟨some d,op,ty,pos,af,g⟩::rest) Q e ds ρ σ:=let ⟨v,h1,h2⟩:=hy;Aa hw h2 (h v h1)
theorem Ae{d:Nat}{op:Op}{ty:TypeId}{pos:String}{af:Array Edge}{g:Option (Nat×Bool)}(hw:Bz l₀.toArray ⟨some d,op,ty,pos,af,g⟩ e=true)
  (h:wpS C.P ρ (execOp (Af e) ⟨some d,op,ty,pos,af,g⟩) σ (NextH C (fun v=>Db C V b n l₀ rest Q (upd e d v)) b.round ds ρ)):Db C V b n l₀ (⟨some d,op,ty,pos,af,g⟩::rest) Q e ds ρ σ:=Add hw h
theorem Cx{op:Op}{ty:TypeId}{pos:String}{af:Array Edge}{g:Option (Nat×Bool)}(hw:Bz l₀.toArray ⟨none,op,ty,pos,af,g⟩ e=true)
  (h:wpS C.P ρ (execOp (Af e) ⟨none,op,ty,pos,af,g⟩) σ (NextH C (fun _=>Db C V b n l₀ rest Q e) b.round ds ρ)):Db C V b n l₀ (⟨none,op,ty,pos,af,g⟩::rest) Q e ds ρ σ:=Add hw h
end
section
variable{P:Program}{ρ:Ro}{e:Env}{ty t t':TypeId}{x y:Operand}{v:Value}
theorem Mt{s:Sem Value}{op:Op}(hs:∀d pos af g,execOp (Af e) ⟨d,op,ty,pos,af,g⟩=s.bind fun v=>Sem.pure (Next.value v))
  (h:∀ρ' σ,(∀b o,ρ b=some o→ρ' b=some o)→wpS P ρ' s σ (fun w σ'=>w=v∧σ'=σ)):Yld P ρ e op ty v:=fun ρ' σ d pos af g hle=>by
 rw[hs,Ad]
 exact Eu (by rintro w σ' ⟨rfl,rfl⟩;exact⟨rfl,rfl⟩) _ _ (h ρ' σ hle)
theorem Ah(hx:Af e x=v):Yld P ρ e (.move x) ty v:=fun ρ' σ d pos af g _=>by subst hx;exact⟨rfl,rfl⟩
theorem Cp(hx:Af e x=v):Yld P ρ e (.assign x) ty v:=fun ρ' σ d pos af g _=>by subst hx;exact⟨rfl,rfl⟩
theorem Bt{c:Operand}{k:Bool}(hc:Af e c = .bool k)(ht:k=true)(hx:Af e x=v):Yld P ρ e (.pick c x y) ty v:=fun ρ' σ d pos af g _=>by
 show wpS P ρ' (do pure (Next.value (if ←asBool (Af e c) then Af e x else Af e y)):Sem Next) σ _
 rw[hc];subst hx ht;exact⟨rfl,rfl⟩
theorem Bn{c:Operand}{k:Bool}(hc:Af e c = .bool k)(ht:k=false)(hy:Af e y=v):Yld P ρ e (.pick c x y) ty v:=fun ρ' σ d pos af g _=>by
 show wpS P ρ' (do pure (Next.value (if ←asBool (Af e c) then Af e x else Af e y)):Sem Next) σ _
 rw[hc];subst hy ht;exact⟨rfl,rfl⟩
theorem Bk{i:Nat}{vs:Array Value}(hx:Af e x = .tuple vs)(hi:vs[i]?=some v):Yld P ρ e (.extract x i) ty v :=
 Mt (s:=Instr.extract (Af e x) i) (fun _ _ _ _=>rfl) fun ρ' σ _=>by rw[hx];simp only[Instr.extract,hi];exact⟨rfl,rfl⟩
theorem Rf{i:Nat}{vs:Array Value}(v:Value)(hx:Af e x = .tuple vs:=by exact rfl)(hi:vs[i]?=some v:=by exact rfl):Yld P ρ e (.extract x i) ty v:=Bk hx hi
theorem Iy{k:Bool}(hx:Af e x = .bool k):Yld P ρ e (.unOp .not t x) ty (.bool (!k)) :=
 Mt (s:=Op.unary .not (Af e x)) (fun _ _ _ _=>rfl) fun ρ' σ _=>by rw[hx];exact⟨rfl,rfl⟩
theorem Dh{op:BinOp}{k k':IntKind}{p q:Int}:eqGuard op t x y (.int k p) (.int k' q)=pure ():=by
 cases op<;>rfl
theorem Nc{op:BinOp}{p q:ByteArray}:eqGuard op t x y (.string p) (.string q)=pure ():=by
 cases op<;>rfl
theorem La{op:BinOp}{p q:Value}(hx:Af e x=p)(hy:Af e y=q)(hg:eqGuard op t x y p q=pure ())(h:binOp op t p q=pure v):Yld P ρ e (.binOp op t x y t') ty v :=
 Mt (s:=(do eqGuard op t x y (Af e x) (Af e y);binOp op t (Af e x) (Af e y))) (fun _ _ _ _=>rfl) fun ρ' σ _=>by
  rw[hx,hy,hg,h];exact⟨rfl,rfl⟩
section
variable{k:IntKind}{p q:Int}
theorem Da(hx:Af e x = .int k p)(hy:Af e y = .int k q):Yld P ρ e (.binOp .lss t x y t') ty (.bool (decide (p<q))):=La hx hy Dh (by simp[binOp];rfl)
theorem Uz(hx:Af e x = .int k p)(hy:Af e y = .int k q):Yld P ρ e (.binOp .leq t x y t') ty (.bool (decide (p≤q))):=La hx hy Dh (by simp[binOp];rfl)
theorem Gl(hx:Af e x = .int k p)(hy:Af e y = .int k q):Yld P ρ e (.binOp .gtr t x y t') ty (.bool (decide (p>q))):=La hx hy Dh (by simp only[binOp];rw[if_neg (by simp)];rfl)
theorem Uy(hx:Af e x = .int k p)(hy:Af e y = .int k q):Yld P ρ e (.binOp .geq t x y t') ty (.bool (decide (p≥q))):=La hx hy Dh (by simp only[binOp];rw[if_neg (by simp)];rfl)
theorem Ek(hx:Af e x = .int k p)(hy:Af e y = .int k q):Yld P ρ e (.binOp .eql t x y t') ty (.bool (p==q)):=La hx hy Dh (by simp only[binOp];rw[if_neg (by simp)];rfl)
theorem Dg(hx:Af e x = .int k p)(hy:Af e y = .int k q):Yld P ρ e (.binOp .neq t x y t') ty (.bool (p != q)):=La hx hy Dh (by simp only[binOp];rw[if_neg (by simp)];rfl)
theorem Br{z:Int}(hx:Af e x = .int k p)(hy:Af e y = .int k q)(hz:k.wrap (p+q)=z):Yld P ρ e (.binOp .add t x y t') ty (.int k z):=La hx hy Dh (by subst hz;simp only[binOp];rw[if_neg (by simp)];rfl)
theorem Ou{z:Int}(hx:Af e x = .int k p)(hy:Af e y = .int k q)(hz:k.wrap (p-q)=z):Yld P ρ e (.binOp .sub t x y t') ty (.int k z):=La hx hy Dh (by subst hz;simp only[binOp];rw[if_neg (by simp)];rfl)
theorem Wq{z:Int}(hx:Af e x = .int k p)(hy:Af e y = .int k q)(hz:k.wrap (p*q)=z):Yld P ρ e (.binOp .mul t x y t') ty (.int k z):=La hx hy Dh (by subst hz;simp only[binOp];rw[if_neg (by simp)];rfl)
end
end
section
variable{C:Ctx}{V:Hn}{b:FB}{n:Nat}{l₀:List Oper}{Q:Env→List Deferred→Ro→Own→Prop}{e:Env}{ds:List Deferred}{ρ ρ₀:Ro}{σ:Own}{pz:List Nat}{fuel:Nat}{listed:Array Bool}
def leS(ρ₀:Ro):Ro→Own→Prop:=fun ρ' _=>Ro.le ρ₀ ρ'
/-- What may come up,looked at as lists. -/
def Dl(l:List Oper)(li:List Bool):List Nat:=(List.range l.length).filter fun i =>
 !li.getD i true&&(match l[i]? with|some o=>o.after.toList.all fun e=>!Region.binds .any e||li.getD e.on false|none=>false)
def Xf(l:List Oper)(o:Oper):List Tmp :=
  (o.op.operands.toList.filterMap fun | .tmp t => some t|_ => none)++(match o.guard with
   | some (g,_)=>((l[g]?).bind (·.dst)).toList
   | none=>[])
def Aat(l:List Oper)(x y:Oper):Bool :=
 (match x.dst with|some d=>!(Xf l y).contains d&&y.dst != some d|none=>true)&&(match y.dst with|some d=>!(Xf l x).contains d|none=>true)
def Ahv(l:List Oper)(li:List Bool)(i:Nat):Bool :=
 match l[i]? with
 | none=>false
 | some oi=>(List.range l.length).all fun j=>j==i||li.getD j true||match l[j]? with
   | some oj=>oj.after.toList.any (fun e=>Region.binds .any e&&e.on==i)||Aat l oi oj
   | none=>true
def Apw(l:List Oper):Bool:=l.all fun o=>match o.op with | .select ..=>false|_=>true
def Py(l:List Oper)(li:List Bool)(pz:List Nat)(i:Nat):Bool:=pz.contains i&&Apw l&&Ahv l li i&&(Dl l li).contains i
theorem Hh(l:List Oper)(li:List Bool):Region.ready .any l.toArray li.toArray=Dl l li:=by
 unfold Region.ready Dl
 simp only[Aaw,Ib]
 congr 1
 funext i
 have a:∀k d,li.toArray.getD k d=li.getD k d:=fun k d=>by simp[Ato,Uk]
 rw[a]
 cases l[i]? with
 | none=>rfl
 | some o =>
  simp only[Aes,Aqf]
  rw[←Array.all_toList]
  simp only[a]
theorem Ahw{l:List Oper}{li:List Bool}{i:Nat}(h:Ahv l li i=true):Region.free .any l.toArray li.toArray i=true:=by
 unfold Region.free
 unfold Ahv at h
 simp only[Aaw,Ib]
 have a:∀k d,li.toArray.getD k d=li.getD k d:=fun k d=>by simp[Ato,Uk]
 have b:∀o,Oper.looksAt l.toArray o=Xf l o:=fun o=>by
  unfold Oper.looksAt Xf
  simp only[Ib]
  rfl
 have c:∀x y,Oper.apart l.toArray x y=Aat l x y:=fun x y=>by unfold Oper.apart Aat;simp only[b];rfl
 revert h
 cases l[i]? with
 | none=>exact id
 | some oi =>
  simp only[a,c,←Array.any_toList]
  exact id
theorem Alr{l:List Oper}(h:Apw l=true):Region.noSelect l.toArray=true:=by
 unfold Region.noSelect
 rw[Bdj];exact h
theorem Dc{id:Nat}{Q:Hu}(pz:List Nat)(hm:C.P.follows .mixedOrders=true)(hs:Nm n l₀=true)(hk:b.kind = .normal)
  (h:El C b l₀.toArray (fun e ds ρ σ=>Q .normal e ds ρ σ) pz (leS ρ) l₀.length (List.replicate l₀.length false).toArray e ds ρ σ):WpP C V b n (.region id l₀.toArray true) Q e ds ρ σ :=
 Vk pz (leS ρ) hm (Ih hs) (by rw[hk];simp) (by simpa using h)
theorem Agu{id:Nat}{Q:Hu}(h:El C b l₀.toArray (fun e ds ρ σ=>Q .normal e ds ρ σ) (List.range l₀.length) (leS ρ) l₀.length (List.replicate l₀.length false).toArray e ds ρ σ)(hm:C.P.follows .mixedOrders=true:=by kernel_rfl)(hs:Nm n l₀=true:=by rfl)(hk:b.kind = .normal:=by rfl):WpC C b n (.region id l₀.toArray true) Q e ds ρ σ:=Dc (List.range l₀.length) hm hs hk h
theorem Ec{li:List Bool}(hr:Dl l₀ li=[])(h:Q e ds ρ σ):El C b l₀.toArray Q pz (leS ρ₀) fuel li.toArray e ds ρ σ:=Aeb (by rw[Hh];exact hr) h fuel
section
variable{d i:Nat}{op:Op}{ty:TypeId}{pos:String}{af:Array Edge}{g:Option (Nat×Bool)}{v:Value}{li:List Bool}
theorem Mo{li li':List Bool}{i:Nat}(h:li.set i true=li'):li.toArray.setIfInBounds i true=li'.toArray:=by subst h;simp
theorem Wg{pz:List Nat}(h:Py l₀ li pz i=true):pz.contains i=true∧Region.noSelect l₀.toArray=true∧Region.free .any l₀.toArray li.toArray i=true∧(Region.ready .any l₀.toArray li.toArray).contains i=true:=by
 unfold Py at h
 simp only[Fd]at h
 exact⟨h.1.1.1,Alr h.1.1.2,Ahw h.1.2,by rw[Hh];exact h.2⟩
theorem Bd(li':List Bool)(hli:li.set i true=li')(ht:Py l₀ li pz i=true)(hi:l₀[i]?=some ⟨some d,op,ty,pos,af,g⟩)
  (hS:Ro.le ρ₀ ρ) (hw:Bz l₀.toArray ⟨some d,op,ty,pos,af,g⟩ e=true) (hy:Yld C.P ρ₀ e op ty v) (h:El C b l₀.toArray Q pz (leS ρ₀) fuel li'.toArray (upd e d v) ds ρ σ) :
  El C b l₀.toArray Q pz (leS ρ₀) (fuel+1) li.toArray e ds ρ σ:=by
 obtain⟨a,c,f,j⟩:=Wg ht
 refine Vm (by rw[Ib];exact hi) a c f j (.inl ⟨hw,fun ρ' σ' hS'=>hy ρ' σ' _ _ _ _ hS'⟩) hS ?_
 rw[Mo hli];exact h
theorem Nl  (i:Nat) (li':List Bool) (hi:l₀[i]?=some ⟨some d,op,ty,pos,af,g⟩) (hS:Ro.le ρ₀ ρ) (hw:Bz l₀.toArray ⟨some d,op,ty,pos,af,g⟩ e=true) (hy:Yld C.P ρ₀ e op ty v) (h:El C b l₀.toArray Q pz (leS ρ₀) fuel li'.toArray (upd e d v) ds ρ σ) (hli:li.set i true=li':=by rfl) (ht:Py l₀ li pz i=true:=by kernel_rfl) :
  El C b l₀.toArray Q pz (leS ρ₀) (fuel+1) li.toArray e ds ρ σ:=Bd (i:=i) li' hli ht hi hS hw hy h
theorem Bu  (i:Nat) (li':List Bool) (hi:l₀[i]?=some ⟨some d,op,ty,pos,af,g⟩) (hy:Yld C.P ρ₀ e op ty v) (h:El C b l₀.toArray Q pz (leS ρ₀) fuel li'.toArray (upd e d v) ds ρ σ) (hli:li.set i true=li':=by rfl) (ht:Py l₀ li pz i=true:=by kernel_rfl) (hS:Ro.le ρ₀ ρ:=by exact Bsy) (hw:Bz l₀.toArray ⟨some d,op,ty,pos,af,g⟩ e=true:=by rfl) :
  El C b l₀.toArray Q pz (leS ρ₀) (fuel+1) li.toArray e ds ρ σ:=Bd (i:=i) li' hli ht hi hS hw hy h
theorem Cd{F:Value→Prop}(li':List Bool)(hli:li.set i true=li')(ht:Py l₀ li pz i=true)(hi:l₀[i]?=some ⟨some d,op,ty,pos,af,g⟩)
  (hS:Ro.le ρ₀ ρ) (hw:Bz l₀.toArray ⟨some d,op,ty,pos,af,g⟩ e=true) (hy:∃v,F v∧Yld C.P ρ₀ e op ty v) (h:∀v,F v→El C b l₀.toArray Q pz (leS ρ₀) fuel li'.toArray (upd e d v) ds ρ σ) :
  El C b l₀.toArray Q pz (leS ρ₀) (fuel+1) li.toArray e ds ρ σ:=let ⟨v,h1,h2⟩:=hy;Bd li' hli ht hi hS hw h2 (h v h1)
theorem Akp{F:Value→Prop}(i:Nat)(li':List Bool)(hi:l₀[i]?=some ⟨some d,op,ty,pos,af,g⟩)(hy:∃v,F v∧Yld C.P ρ₀ e op ty v)(h:∀v,F v→El C b l₀.toArray Q pz (leS ρ₀) fuel li'.toArray (upd e d v) ds ρ σ)(hli:li.set i true=li':=by rfl)(ht:Py l₀ li pz i=true:=by kernel_rfl)(hS:Ro.le ρ₀ ρ:=by exact Bsy)(hw:Bz l₀.toArray ⟨some d,op,ty,pos,af,g⟩ e=true:=by rfl) :
  El C b l₀.toArray Q pz (leS ρ₀) (fuel+1) li.toArray e ds ρ σ:=Cd (i:=i) li' hli ht hi hS hw hy h
theorem Sw(li':List Bool)(hli:li.set i true=li')(ht:Py l₀ li pz i=true)(hi:l₀[i]?=some ⟨some d,op,ty,pos,af,g⟩)
  (hS:Ro.le ρ₀ ρ) (hw:Bz l₀.toArray ⟨some d,op,ty,pos,af,g⟩ e=false) (h:El C b l₀.toArray Q pz (leS ρ₀) fuel li'.toArray (upd e d undef) ds ρ σ) :
  El C b l₀.toArray Q pz (leS ρ₀) (fuel+1) li.toArray e ds ρ σ:=by
 obtain⟨a,c,f,j⟩:=Wg ht
 refine Vm (by rw[Ib];exact hi) a c f j (.inr ⟨hw,rfl⟩) hS ?_
 rw[Mo hli];exact h
theorem Gn  (i:Nat) (li':List Bool) (hi:l₀[i]?=some ⟨some d,op,ty,pos,af,g⟩) (hS:Ro.le ρ₀ ρ) (hw:Bz l₀.toArray ⟨some d,op,ty,pos,af,g⟩ e=false) (h:El C b l₀.toArray Q pz (leS ρ₀) fuel li'.toArray (upd e d undef) ds ρ σ) (hli:li.set i true=li':=by rfl) (ht:Py l₀ li pz i=true:=by kernel_rfl) :
  El C b l₀.toArray Q pz (leS ρ₀) (fuel+1) li.toArray e ds ρ σ:=Sw (i:=i) li' hli ht hi hS hw h
/-- What is held,told otherwise. -/
theorem Ej{ρ':Ro}{σ':Own}(hg:Ghost ρ σ ρ' σ')(hS:Ro.le ρ₀ ρ→Ro.le ρ₀ ρ')(h:El C b l₀.toArray Q pz (leS ρ₀) (fuel+1) li.toArray e ds ρ' σ'):El C b l₀.toArray Q pz (leS ρ₀) (fuel+1) li.toArray e ds ρ σ:=Aar hg hS h
theorem Agi{k:Nat}{o:Obj}(h:∀ρ',Ro.le ρ ρ'→ρ' k=some o→El C b l₀.toArray Q pz (leS ρ₀) (fuel+1) li.toArray e ds ρ' σ):El C b l₀.toArray Q pz (leS ρ₀) (fuel+1) li.toArray e ds ρ ((k,.obj o)::σ):=by
 by_cases hb:ρ k=none
 ·have hle:Ro.le ρ (ρ.add k o):=fun x ox hx=>by
   unfold Ro.add;rw[if_neg (fun e=>by rw[e,hb]at hx;cases hx)];exact hx
  exact Ej (.freeze hb) (fun a=>a.trans hle) (h _ hle (by simp[Ro.add]))
 ·exact .inl fun W hs=>absurd (hs.dj k mC) hb
/-- The one that may come up. -/
theorem Dj(li':List Bool)(hli:li.set i true=li')(hr:Dl l₀ li=[i])(hi:l₀[i]?=some ⟨some d,op,ty,pos,af,g⟩)(hw:Bz l₀.toArray ⟨some d,op,ty,pos,af,g⟩ e=true)
  (h:wpS C.P ρ (execOp (Af e) ⟨some d,op,ty,pos,af,g⟩) σ (NextH C (fun v ds' ρ' σ'=>Ro.le ρ₀ ρ'∧El C b l₀.toArray Q pz (leS ρ₀) fuel li'.toArray (upd e d v) ds' ρ' σ') b.round ds ρ)) :
  El C b l₀.toArray Q pz (leS ρ₀) (fuel+1) li.toArray e ds ρ σ:=by
 refine Mz ((Hh _ _).trans hr) (by simp) fun j hj=>?_
 rw[Lc]at hj;subst hj
 unfold OpH
 simp only[Ib,hi,Mo hli]
 rw[if_pos hw]
 exact Eu (fun nx σ' hn=>hn.mono fun v ds ρ σ hh=>⟨fun _=>hh.1,hh.2⟩) _ _ h
theorem Rq  (i:Nat) (li':List Bool) (hi:l₀[i]?=some ⟨some d,op,ty,pos,af,g⟩) (h:wpS C.P ρ (execOp (Af e) ⟨some d,op,ty,pos,af,g⟩) σ (NextH C (fun v ds' ρ' σ'=>Ro.le ρ₀ ρ'∧El C b l₀.toArray Q pz (leS ρ₀) fuel li'.toArray (upd e d v) ds' ρ' σ') b.round ds ρ)) (hli:li.set i true=li':=by rfl) (hr:Dl l₀ li=[i]:=by kernel_rfl) (hw:Bz l₀.toArray ⟨some d,op,ty,pos,af,g⟩ e=true:=by rfl) :
  El C b l₀.toArray Q pz (leS ρ₀) (fuel+1) li.toArray e ds ρ σ:=Dj (i:=i) li' hli hr hi hw h
theorem Bg(li':List Bool)(hli:li.set i true=li')(hr:Dl l₀ li=[i])(hi:l₀[i]?=some ⟨some d,op,ty,pos,af,g⟩)(hS:Ro.le ρ₀ ρ)(hw:Bz l₀.toArray ⟨some d,op,ty,pos,af,g⟩ e=true)(hy:Yld C.P ρ e op ty v)
  (h:El C b l₀.toArray Q pz (leS ρ₀) fuel li'.toArray (upd e d v) ds ρ σ):El C b l₀.toArray Q pz (leS ρ₀) (fuel+1) li.toArray e ds ρ σ :=
 Dj li' hli hr hi hw (Eu (by rintro nx σ' ⟨rfl,rfl⟩;exact⟨hS,h⟩) _ _ (hy ρ σ _ _ _ _ fun _ _ h=>h))
theorem De  (i:Nat) (li':List Bool) (hi:l₀[i]?=some ⟨some d,op,ty,pos,af,g⟩) (hS:Ro.le ρ₀ ρ) (hw:Bz l₀.toArray ⟨some d,op,ty,pos,af,g⟩ e=true) (hy:Yld C.P ρ e op ty v) (h:El C b l₀.toArray Q pz (leS ρ₀) fuel li'.toArray (upd e d v) ds ρ σ) (hli:li.set i true=li':=by rfl) (hr:Dl l₀ li=[i]:=by kernel_rfl):El C b l₀.toArray Q pz (leS ρ₀) (fuel+1) li.toArray e ds ρ σ:=Bg (i:=i) li' hli hr hi hS hw hy h
theorem Bq  (i:Nat) (li':List Bool) (hi:l₀[i]?=some ⟨some d,op,ty,pos,af,g⟩) (hy:Yld C.P ρ e op ty v) (h:El C b l₀.toArray Q pz (leS ρ₀) fuel li'.toArray (upd e d v) ds ρ σ) (hli:li.set i true=li':=by rfl) (hr:Dl l₀ li=[i]:=by kernel_rfl) (hS:Ro.le ρ₀ ρ:=by exact Bsy) (hw:Bz l₀.toArray ⟨some d,op,ty,pos,af,g⟩ e=true:=by rfl):El C b l₀.toArray Q pz (leS ρ₀) (fuel+1) li.toArray e ds ρ σ:=Bg (i:=i) li' hli hr hi hS hw hy h
theorem Hk{F:Value→Prop}(li':List Bool)(hli:li.set i true=li')(hr:Dl l₀ li=[i])(hi:l₀[i]?=some ⟨some d,op,ty,pos,af,g⟩)(hS:Ro.le ρ₀ ρ)(hw:Bz l₀.toArray ⟨some d,op,ty,pos,af,g⟩ e=true)(hy:∃v,F v∧Yld C.P ρ e op ty v)
  (h:∀v,F v→El C b l₀.toArray Q pz (leS ρ₀) fuel li'.toArray (upd e d v) ds ρ σ):El C b l₀.toArray Q pz (leS ρ₀) (fuel+1) li.toArray e ds ρ σ:=let ⟨v,h1,h2⟩:=hy;Bg li' hli hr hi hS hw h2 (h v h1)
theorem Bay{F:Value→Prop}(i:Nat)(li':List Bool)(hi:l₀[i]?=some ⟨some d,op,ty,pos,af,g⟩)(hy:∃v,F v∧Yld C.P ρ e op ty v)(h:∀v,F v→El C b l₀.toArray Q pz (leS ρ₀) fuel li'.toArray (upd e d v) ds ρ σ)(hli:li.set i true=li':=by rfl)(hr:Dl l₀ li=[i]:=by kernel_rfl)(hS:Ro.le ρ₀ ρ:=by exact Bsy)(hw:Bz l₀.toArray ⟨some d,op,ty,pos,af,g⟩ e=true:=by rfl):El C b l₀.toArray Q pz (leS ρ₀) (fuel+1) li.toArray e ds ρ σ:=Hk (i:=i) li' hli hr hi hS hw hy h
theorem Wv(li':List Bool)(hli:li.set i true=li')(hr:Dl l₀ li=[i])(hi:l₀[i]?=some ⟨some d,op,ty,pos,af,g⟩)(hS:Ro.le ρ₀ ρ)(hw:Bz l₀.toArray ⟨some d,op,ty,pos,af,g⟩ e=false)
  (h:El C b l₀.toArray Q pz (leS ρ₀) fuel li'.toArray (upd e d undef) ds ρ σ):El C b l₀.toArray Q pz (leS ρ₀) (fuel+1) li.toArray e ds ρ σ:=by
 refine Mz ((Hh _ _).trans hr) (by simp) fun j hj=>?_
 rw[Lc]at hj;subst hj
 unfold OpH
 simp only[Ib,hi,Mo hli]
 rw[if_neg (by simp[hw])]
 exact⟨fun _=>hS,h⟩
theorem Bv  (i:Nat) (li':List Bool) (hi:l₀[i]?=some ⟨some d,op,ty,pos,af,g⟩) (hS:Ro.le ρ₀ ρ) (hw:Bz l₀.toArray ⟨some d,op,ty,pos,af,g⟩ e=false) (h:El C b l₀.toArray Q pz (leS ρ₀) fuel li'.toArray (upd e d undef) ds ρ σ) (hli:li.set i true=li':=by rfl) (hr:Dl l₀ li=[i]:=by kernel_rfl):El C b l₀.toArray Q pz (leS ρ₀) (fuel+1) li.toArray e ds ρ σ:=Wv (i:=i) li' hli hr hi hS hw h
/-- Two that may come up. -/
theorem Acq{d' j:Nat}{op':Op}{ty':TypeId}{pos':String}{af':Array Edge}{g':Option (Nat×Bool)}(li' li'':List Bool)(hli:li.set i true=li')(hlj:li.set j true=li'')(hr:Dl l₀ li=[i,j])(hi:l₀[i]?=some ⟨some d,op,ty,pos,af,g⟩)(hj:l₀[j]?=some ⟨some d',op',ty',pos',af',g'⟩)
  (hw:Bz l₀.toArray ⟨some d,op,ty,pos,af,g⟩ e=true) (hw':Bz l₀.toArray ⟨some d',op',ty',pos',af',g'⟩ e=true)
  (h:wpS C.P ρ (execOp (Af e) ⟨some d,op,ty,pos,af,g⟩) σ (NextH C (fun v ds' ρ' σ'=>Ro.le ρ₀ ρ'∧El C b l₀.toArray Q pz (leS ρ₀) fuel li'.toArray (upd e d v) ds' ρ' σ') b.round ds ρ))
  (h':wpS C.P ρ (execOp (Af e) ⟨some d',op',ty',pos',af',g'⟩) σ (NextH C (fun v ds' ρ' σ'=>Ro.le ρ₀ ρ'∧El C b l₀.toArray Q pz (leS ρ₀) fuel li''.toArray (upd e d' v) ds' ρ' σ') b.round ds ρ)) :
  El C b l₀.toArray Q pz (leS ρ₀) (fuel+1) li.toArray e ds ρ σ:=by
 refine Mz ((Hh _ _).trans hr) (by simp) fun m hm=>?_
 simp only[lZ8,Rl,or_false]at hm
 rcases hm with rfl|rfl
 ·unfold OpH
  simp only[Ib,hi,Mo hli]
  rw[if_pos hw]
  exact Eu (fun nx σ' hn=>hn.mono fun v ds ρ σ hh=>⟨fun _=>hh.1,hh.2⟩) _ _ h
 ·unfold OpH
  simp only[Ib,hj,Mo hlj]
  rw[if_pos hw']
  exact Eu (fun nx σ' hn=>hn.mono fun v ds ρ σ hh=>⟨fun _=>hh.1,hh.2⟩) _ _ h'
theorem Akk(t:Bool)(h1:t=true→El C b l₀.toArray Q pz (leS ρ₀) fuel li.toArray e ds ρ σ)(h0:t=false→El C b l₀.toArray Q pz (leS ρ₀) fuel li.toArray e ds ρ σ):El C b l₀.toArray Q pz (leS ρ₀) fuel li.toArray e ds ρ σ:=by
 cases t
 ·exact h0 rfl
 ·exact h1 rfl
end
end
theorem l_M{C:Ctx}{V:Hn}{b:FB}{n:Nat}{l₀ rest:List Oper}{Q:Env→List Deferred→Ro→Own→Prop}{e:Env}{ds:List Deferred}{ρ:Ro}{σ:Own}{d:Nat}{x:Operand}{ty:TypeId}{pos:String}{af:Array Edge}{g:Option (Nat×Bool)}(v:Value)(hw:Bz l₀.toArray ⟨some d,.move x,ty,pos,af,g⟩ e=true)(hx:Af e x=v)(h:Db C V b n l₀ rest Q (upd e d v) ds ρ σ):Db C V b n l₀ (⟨some d,.move x,ty,pos,af,g⟩::rest) Q e ds ρ σ:=Aa hw (Ah hx) h
theorem w_q{C:Ctx}{V:Hn}{b:FB}{n:Nat}{l₀:List Oper}{y:Code}{id:Nat}{Q:Hu}{e:Env}{ds:List Deferred}{ρ:Ro}{σ:Own}(hs:Nm n l₀=true)(hk:b.kind = .normal)(h:∀K:Env→List Deferred→Ro→Own→Prop,(∀e ds ρ σ,WpP C V b n y Q e ds ρ σ→K e ds ρ σ)→Db C V b n l₀ l₀ (fun e ds ρ σ=>Zo K Q .normal e ds ρ σ) e ds ρ σ):WpP C V b n (.seq (.region id l₀.toArray false) y) Q e ds ρ σ:=Ai fun K k=>Ag hs hk (h K k)
theorem l_k{C:Ctx}{V:Hn}{b:FB}{n:Nat}{l₀:List Oper}{e:Env}{ds:List Deferred}{ρ:Ro}{σ:Own}{K W:Env→List Deferred→Ro→Own→Prop}(hk:∀e ds ρ σ,W e ds ρ σ→K e ds ρ σ)(h:W e ds ρ σ):Db C V b n l₀ [] K e ds ρ σ:=Ac (hk _ _ _ _ h)
theorem Asa{C:Ctx}{V:Hn}{b:FB}{n:Nat}{l₀:List Oper}{e:Env}{ds:List Deferred}{ρ:Ro}{σ:Own}{K:Env→List Deferred→Ro→Own→Prop}{x y:Code}{Q:Hu}(hk:∀e ds ρ σ,WpP C V b n (.seq x y) Q e ds ρ σ→K e ds ρ σ)(h:∀K':Env→List Deferred→Ro→Own→Prop,(∀e ds ρ σ,WpP C V b n y Q e ds ρ σ→K' e ds ρ σ)→WpP C V b n x (Zo K' Q) e ds ρ σ):Db C V b n l₀ [] K e ds ρ σ:=Ac (hk _ _ _ _ (Ai h))
theorem Arx{C:Ctx}{V:Hn}{b:FB}{n:Nat}{l₀ l₁:List Oper}{e:Env}{ds:List Deferred}{ρ:Ro}{σ:Own}{K:Env→List Deferred→Ro→Own→Prop}{y:Code}{id:Nat}{Q:Hu}(hs:Nm n l₁=true)(hb:b.kind = .normal)(hk:∀e ds ρ σ,WpP C V b n (.seq (.region id l₁.toArray false) y) Q e ds ρ σ→K e ds ρ σ)(h:∀K':Env→List Deferred→Ro→Own→Prop,(∀e ds ρ σ,WpP C V b n y Q e ds ρ σ→K' e ds ρ σ)→Db C V b n l₁ l₁ (fun e ds ρ σ=>Zo K' Q .normal e ds ρ σ) e ds ρ σ):Db C V b n l₀ [] K e ds ρ σ:=Ac (hk _ _ _ _ (w_q hs hb h))
theorem Asb{C:Ctx}{V:Hn}{b:FB}{n:Nat}{l₁:List Oper}{e:Env}{ds:List Deferred}{ρ:Ro}{σ:Own}{x y:Code}{id:Nat}{Q:Hu}(hs:Nm n l₁=true)(hb:b.kind = .normal)(h:∀K K':Env→List Deferred→Ro→Own→Prop,(∀e ds ρ σ,WpP C V b n y Q e ds ρ σ→K e ds ρ σ)→(∀e ds ρ σ,WpP C V b n x (Zo K Q) e ds ρ σ→K' e ds ρ σ)→Db C V b n l₁ l₁ (fun e ds ρ σ=>Zo K' (Zo K Q) .normal e ds ρ σ) e ds ρ σ):WpP C V b n (.seq (.seq (.region id l₁.toArray false) x) y) Q e ds ρ σ:=Ai fun K k=>w_q hs hb fun K' k'=>h K K' k k'
theorem Ary{C:Ctx}{V:Hn}{b:FB}{n:Nat}{l₀ l₁:List Oper}{e:Env}{ds:List Deferred}{ρ:Ro}{σ:Own}{K₀:Env→List Deferred→Ro→Own→Prop}{x y:Code}{id:Nat}{Q:Hu}(hs:Nm n l₁=true)(hb:b.kind = .normal)(hk:∀e ds ρ σ,WpP C V b n (.seq (.seq (.region id l₁.toArray false) x) y) Q e ds ρ σ→K₀ e ds ρ σ)(h:∀K K':Env→List Deferred→Ro→Own→Prop,(∀e ds ρ σ,WpP C V b n y Q e ds ρ σ→K e ds ρ σ)→(∀e ds ρ σ,WpP C V b n x (Zo K Q) e ds ρ σ→K' e ds ρ σ)→Db C V b n l₁ l₁ (fun e ds ρ σ=>Zo K' (Zo K Q) .normal e ds ρ σ) e ds ρ σ):Db C V b n l₀ [] K₀ e ds ρ σ:=Ac (hk _ _ _ _ (Asb hs hb h))
theorem l_v{C:Ctx}{V:Hn}{b:FB}{n:Nat}{l₀ rest:List Oper}{Q:Env→List Deferred→Ro→Own→Prop}{e:Env}{ds:List Deferred}{ρ:Ro}{σ:Own}{d:Nat}{op:Op}{ty:TypeId}{pos:String}{af:Array Edge}{v:Value}(hy:Yld C.P ρ e op ty v)(h:Db C V b n l₀ rest Q (upd e d v) ds ρ σ):Db C V b n l₀ (⟨some d,op,ty,pos,af,none⟩::rest) Q e ds ρ σ:=Aa rfl hy h
theorem Arw{C:Ctx}{V:Hn}{b:FB}{n:Nat}{l₀ rest:List Oper}{Q:Env→List Deferred→Ro→Own→Prop}{e:Env}{ds:List Deferred}{ρ:Ro}{σ:Own}{F:Value→Prop}{d:Nat}{op:Op}{ty:TypeId}{pos:String}{af:Array Edge}(hy:∃v,F v∧Yld C.P ρ e op ty v)(h:∀v,F v→Db C V b n l₀ rest Q (upd e d v) ds ρ σ):Db C V b n l₀ (⟨some d,op,ty,pos,af,none⟩::rest) Q e ds ρ σ:=Ak rfl hy h
theorem Arv{C:Ctx}{V:Hn}{b:FB}{n:Nat}{l₀ rest:List Oper}{Q:Env→List Deferred→Ro→Own→Prop}{e:Env}{ds:List Deferred}{ρ:Ro}{σ:Own}{d:Nat}{op:Op}{ty:TypeId}{pos:String}{af:Array Edge}(h:wpS C.P ρ (execOp (Af e) ⟨some d,op,ty,pos,af,none⟩) σ (NextH C (fun v=>Db C V b n l₀ rest Q (upd e d v)) b.round ds ρ)):Db C V b n l₀ (⟨some d,op,ty,pos,af,none⟩::rest) Q e ds ρ σ:=Ae rfl h
theorem Ay{C:Ctx}{V:Hn}{b:FB}{n:Nat}{l₀ rest:List Oper}{Q:Env→List Deferred→Ro→Own→Prop}{e:Env}{ds:List Deferred}{ρ:Ro}{σ:Own}{d:Nat}{x:Operand}{ty:TypeId}{pos:String}{af:Array Edge}(v:Value)(h:Db C V b n l₀ rest Q (upd e d v) ds ρ σ)(hx:Af e x=v:=by rfl):Db C V b n l₀ (⟨some d,.move x,ty,pos,af,none⟩::rest) Q e ds ρ σ:=Aa rfl (Ah hx) h
theorem Av{C:Ctx}{V:Hn}{b:FB}{n:Nat}{l₀ rest:List Oper}{Q:Env→List Deferred→Ro→Own→Prop}{e:Env}{ds:List Deferred}{ρ:Ro}{σ:Own}{d:Nat}{x:Operand}{ty:TypeId}{pos:String}{af:Array Edge}(v:Value)(h:Db C V b n l₀ rest Q (upd e d v) ds ρ σ)(hx:Af e x=v:=by rfl):Db C V b n l₀ (⟨some d,.assign x,ty,pos,af,none⟩::rest) Q e ds ρ σ:=Aa rfl (Cp hx) h
abbrev rP(ρ:Ro)(σ:Own)(v:Value):Value→Ro→Own→Prop:=fun w ρ' σ'=>ρ'=ρ∧σ'=σ∧w=v
theorem eT{a c:Value}(b:Value)(h:b=c)(h0:a=b:=by rfl):a=c:=h0.trans h
abbrev oC(c:Array Value)(t:TypeId):Res:=Res.obj (Obj.cells c t (0,0))
theorem Arz{x y:Nat×Res}{R:Own}:(x::y::R).Perm (y::x::R):=List.Perm.swap ..
theorem Asc{x:Nat×Res}{g R:Own}:(x::(g++R)).Perm (g++(x::R)):=Bio [x] g R
theorem Asd{x:Nat×Res}{g R:Own}:(g++(x::R)).Perm (x::(g++R)):=Bio g [x] R
theorem p_c{x:Nat×Res}{A B:Own}(h:A.Perm B):(x::A).Perm (x::B):=h.cons x
theorem p_a{g A B:Own}(h:A.Perm B):(g++A).Perm (g++B):=h.append_left g
theorem kk{K W:Env→List Deferred→Ro→Own→Prop}(hk:∀e ds ρ σ,W e ds ρ σ→K e ds ρ σ){e:Env}{ds:List Deferred}{ρ:Ro}{σ:Own}(h:W e ds ρ σ):K e ds ρ σ:=hk _ _ _ _ h
theorem rT{ρ:Ro}{σ:Own}{w u:Value}(v:Value)(h:v=u)(h0:w=v:=by exact rfl):ρ=ρ∧σ=σ∧w=u:=⟨rfl,rfl,h0.trans h⟩
theorem Jc{x y:Nat×Res}{A B:Own}(h:A.Perm (y::B)):(x::A).Perm (y::x::B):=(p_c h).trans Arz
theorem Bfd{x:Nat×Res}{g A B:Own}(h:A.Perm (g++B)):(x::A).Perm (g++(x::B)):=(p_c h).trans Asc
theorem Azz{x:Nat×Res}{g A B:Own}(h:A.Perm (x::B)):(g++A).Perm (x::(g++B)):=(p_a h).trans Asd
end
section
open Go
/-- A kind of data: how many cells it takes,whether its value is an aggregate,which cells stand for it. -/
class Dat (α:Type) where
 k:Nat
 agg:Bool
 rep:Ro→List Value→α→Prop
 mono:∀{ρ ρ':Ro} {cs:List Value} {x:α},Ro.le ρ ρ'→rep ρ cs x→rep ρ' cs x
 len:∀{ρ:Ro} {cs:List Value} {x:α},rep ρ cs x→cs.length=k
 sgl:∀{ρ:Ro} {cs:List Value} {x:α},rep ρ cs x→∀c∈cs,single c=true
 one:agg=false→k=1
def Vu(agg:Bool)(cs:List Value):Value:=if agg then .agg cs.toArray else cs.headD undef
def Val{α:Type}[Dat α](ρ:Ro)(v:Value)(x:α):Prop:=∃cs,Dat.rep ρ cs x∧v=Vu (Dat.agg α) cs
/-- The data stands at this place,in a block that is only read. -/
def At{α:Type}[Dat α](ρ:Ro)(p:Value)(x:α):Prop :=
 ∃b off c t fz cs rest,p = .pointer (some ⟨b,off,none⟩)∧ρ b=some (.cells c t fz)∧Dat.rep ρ cs x∧c.toList.drop off=cs++rest
section
variable{α:Type}[Dat α]{ρ ρ':Ro}
theorem Val.mono(h:Ro.le ρ ρ'){v:Value}{x:α}:Val ρ v x→Val ρ' v x:=fun⟨cs,a,b⟩=>⟨cs,Dat.mono h a,b⟩
theorem At.mono(h:Ro.le ρ ρ'){p:Value}{x:α}:At ρ p x→At ρ' p x:=fun⟨b,off,c,t,fz,cs,rest,a,d,e,f⟩=>⟨b,off,c,t,fz,cs,rest,a,h _ _ d,Dat.mono h e,f⟩
theorem Yw{cs:List Value}(hs:∀c∈cs,single c=true)(h1:Dat.agg α=false→cs.length=1):(Vu (Dat.agg α) cs).cells=cs.toArray:=by
 unfold Vu
 cases ha:Dat.agg α with
 | true=>rfl
 | false =>
  have:=h1 ha
  match cs,this with
  | [c],_ =>
   have hc:=hs c (Lc.2 rfl)
   cases c<;>first|rfl|(simp[single]at hc)
theorem Val.cells{v:Value}{x:α}(h:Val ρ v x):∃cs,Dat.rep ρ cs x∧v=Vu (Dat.agg α) cs∧v.cells=cs.toArray:=by
 obtain⟨cs,a,b⟩:=h
 refine⟨cs,a,b,?_⟩
 rw[b]
 exact Yw (Dat.sgl a) fun ha=>by rw[Dat.len a,Dat.one ha]
end
def SliceV{α:Type}[Dat α](ρ:Ro)(v:Value)(xs:List α):Prop :=
 ∃a len cap,v = .slice a len cap∧xs.length=len∧len<2^60∧len≤cap∧∀i x,xs[i]?=some x→∃b off,a=some ⟨b,off,none⟩∧At ρ (.pointer (some ⟨b,off+i*Dat.k α,none⟩)) x
theorem SliceV.mono{α:Type}[Dat α]{ρ ρ':Ro}(h:Ro.le ρ ρ'){v:Value}{xs:List α}:SliceV ρ v xs→SliceV ρ' v xs:=fun⟨a,len,cap,c,d,e,hc,f⟩ =>
 ⟨a,len,cap,c,d,e,hc,fun i x hx=>let ⟨b,off,h5,h6⟩:=f i x hx;⟨b,off,h5,h6.mono h⟩⟩
instance{α:Type}[Dat α]:Dat (List α) where
 k:=1
 agg:=false
 rep ρ cs xs:=∃v,cs=[v]∧SliceV ρ v xs
 mono h:=fun⟨v,h1,h2⟩=>⟨v,h1,h2.mono h⟩
 len:=fun⟨v,h1,_⟩=>by rw[h1];rfl
 sgl:=fun⟨v,h1,a,len,cap,h2,_⟩ c hc=>by
  rw[h1,Lc]at hc
  rw[hc,h2];rfl
 one _:=rfl
theorem Cs{α:Type}[Dat α]{ρ:Ro}{v:Value}{xs:List α}:Val ρ v xs↔SliceV ρ v xs :=
 ⟨fun⟨cs,⟨w,a,b⟩,c⟩=>by rw[c,a];exact b,fun h=>⟨[v],⟨v,rfl,h⟩,rfl⟩⟩
def I64(x:Int):Prop:=-9223372036854775808≤x∧x<9223372036854775808
instance:Dat ByteArray where
 k:=1
 agg:=false
 rep _ cs x:=cs=[.string x]∧x.size<2^60
 mono _ h:=h
 len h:=by rw[h.1];rfl
 sgl h:=by rw[h.1];simp[single]
 one _:=rfl
theorem Jk{ρ:Ro}{v:Value}{x:ByteArray}:Val ρ v x↔v = .string x∧x.size<2^60 :=
 ⟨fun⟨cs,a,b⟩=>by rw[b,a.1];exact⟨rfl,a.2⟩,fun h=>⟨[v],⟨by rw[h.1],h.2⟩,rfl⟩⟩
theorem At.slen{ρ:Ro}{p:Value}{x:ByteArray}(h:At ρ p x):x.size<2^60:=let ⟨_,_,_,_,_,_,_,_,_,h3,_⟩:=h;h3.2
theorem Val.len{α:Type}[Dat α]{ρ:Ro}{v:Value}{xs:List α}(h:Val ρ v xs):xs.length<2^60:=by
 obtain⟨a,len,cap,_,b,c,_,_⟩:=Cs.1 h
 omega
def Qv:TypeDesc→Bool
 | .struct _ | .array _ _=>true
 | _=>false
/-- A type of the program takes this kind of data. -/
structure GoTy(P:Program)(t:TypeId)(α:Type)[Dat α]:Prop where
 und:∃d,P.underlying t=some d∧Qv d=Dat.agg α
 info:∃i,P.info? t=some i∧i.size=Dat.k α
section
variable{P:Program}{ρ:Ro}{σ:Own}{t:TypeId}
theorem Gj{i:TypeInfo}(h:P.info? t=some i){Q:TypeInfo→Own→Prop}(hq:Q i σ):wpS P ρ (typeInfo t) σ Q:=by
 show wpS P ρ (program.bind _) σ Q
 rw[Ad]
 show wpS P ρ (match P.info? t with|some i=>pure i|none=>stuck _) σ Q
 rw[h];exact hq
theorem Az{d:TypeDesc}(h:P.underlying t=some d){Q:TypeDesc→Own→Prop}(hq:Q d σ):wpS P ρ (underlying t) σ Q:=by
 show wpS P ρ (program.bind _) σ Q
 rw[Ad]
 show wpS P ρ (match P.underlying t with|some d=>pure d|none=>stuck _) σ Q
 rw[h];exact hq
theorem Dx{n:Nat}(h:∃i,P.info? t=some i∧i.size=n){Q:Nat→Own→Prop}(hq:Q n σ):wpS P ρ (sizeOf t) σ Q:=by
 obtain⟨i,a,b⟩:=h
 show wpS P ρ ((typeInfo t).bind _) σ Q
 rw[Ad]
 exact Gj a (by rw[b];exact hq)
theorem Hi{a:Bool}(h:∃d,P.underlying t=some d∧Qv d=a){Q:Bool→Own→Prop}(hq:Q a σ):wpS P ρ (isAgg t) σ Q:=by
 obtain⟨d,b,c⟩:=h
 show wpS P ρ ((underlying t).bind _) σ Q
 rw[Ad]
 refine Az b ?_
 subst c
 cases d<;>exact hq
theorem Ld(bl off i:Nat):(⟨bl,off,none⟩:Addr).add i=⟨bl,off+i,none⟩:=by
 unfold Addr.add
 split
 ·rename_i h;subst h;rfl
 ·rfl
theorem Agj(a:Addr)(h:a.spot=none)(i:Nat):a.add i=⟨a.block,a.off+i,none⟩:=by
 obtain⟨bl,off,sp⟩:=a
 cases h;exact Ld bl off i
theorem Ff{a:Addr}{o:Obj}(hs:a.spot=none)(ho:Has ρ σ a.block o){Q:Array Value→Own→Prop}:∀(cs:List Value) (i:Nat) (acc:Array Value),
  (∀j v,cs[j]?=some v→Gy o (a.off+i+j)=some v)→Q (acc++cs.toArray) σ→wpS P ρ (loadCellsFrom a i cs.length acc) σ Q:=by
 intro cs
 induction cs with
 | nil=>intro i acc _ h;exact(show Q acc σ by simpa using h)
 | cons v cs ih =>
  intro i acc h hq
  show wpS P ρ ((load (a.add i)).bind _) σ Q
  rw[Ad,Agj a hs]
  refine⟨rfl,rfl,o,v,ho,?_,?_⟩
  ·have:=h 0 v rfl;simpa using this
  ·refine ih (i+1) (acc.push v) (fun j w hw=>?_) (by simpa using hq)
   have:=h (j+1) w (by simpa using hw)
   rw[show a.off+(i+1)+j=a.off+i+(j+1) by omega];exact this
/-- A variable is read. -/
theorem Aaa{α:Type}[Dat α](hT:GoTy P t α){a:Addr}{c:Array Value}{t':TypeId}{fz:Nat×Nat}{cs rest:List Value}(hs:a.spot=none)(ho:Has ρ σ a.block (.cells c t' fz))(hl:cs.length=Dat.k α)
  (hc:c.toList.drop a.off=cs++rest) {Q:Value→Own→Prop} (hq:Q (Vu (Dat.agg α) cs) σ):wpS P ρ (loadVar t a) σ Q:=by
 have b:∀j v,cs[j]?=some v→c[a.off+j]?=some v:=fun j v hj=>by
  have:(c.toList.drop a.off)[j]?=some v:=by rw[hc,Ahm];exact hj;exact(Ig.1 hj).1
  rw[Yx]at this
  simpa using this
 show wpS P ρ ((isAgg t).bind _) σ Q
 rw[Ad]
 refine Hi hT.und ?_
 cases ha:Dat.agg α with
 | true =>
  show wpS P ρ ((sizeOf t).bind fun n=>(loadCells a n).bind _) σ Q
  rw[Ad]
  refine Dx hT.info ?_
  rw[Ad,←hl]
  refine Ff hs ho cs 0 #[] (fun j v hj=>?_) ?_
  ·simpa[Gy]using b j v hj
  ·rw[ha]at hq
   have hq':Q (.agg cs.toArray) σ:=by simpa[Vu]using hq
   have d:(#[]:Array Value)++cs.toArray=cs.toArray:=by simp
   rw[d];exact hq'
 | false =>
  have e:=Dat.one ha
  rw[e]at hl
  match cs,hl with
  | [v],_ =>
   refine⟨rfl,hs,_,v,ho,?_,?_⟩
   ·simpa[Gy]using b 0 v rfl
   ·rw[ha]at hq;exact hq
end
section
variable{C:Ctx}{b:FB}{n:Nat}{l₀ rest:List Oper}{Q:Env→List Deferred→Ro→Own→Prop}{e:Env}{ds:List Deferred}{ρ:Ro}{σ:Own}
variable{d:Nat}{ty:TypeId}{pos:String}{af:Array Edge}{g:Option (Nat×Bool)}{x y:Operand}{v p:Value}{t:TypeId}
/-- A load from a place that is only read. -/
theorem Ax{P:Program}{α:Type}[Dat α]{a:α}(hT:GoTy P t α)(hx:Af e x=p)(hp:At ρ p a):∃v,Val ρ v a∧Yld P ρ e (.load t x) ty v:=by
 obtain⟨bl,off,c,t',fz,cs,rs,d,f,b,g⟩:=hp
 refine⟨_,⟨cs,b,rfl⟩,Mt (s:=Instr.loadAt t (Af e x)) (fun _ _ _ _=>rfl) fun ρ' σ hle=>?_⟩
 rw[hx,d]
 exact Aaa hT rfl (.inl (hle _ _ f)) (Dat.len b) g ⟨rfl,rfl⟩
theorem Pk{P:Program}{a:ByteArray}(hT:GoTy P t ByteArray)(hx:Af e x=p)(hp:At ρ p a):Yld P ρ e (.load t x) ty (.string a):=by
 obtain⟨v,c,b⟩:=Ax (ty:=ty) hT hx hp
 rw[(Jk.1 c).1]at b;exact b
theorem Mc{P:Program}{bi:Builtin}{args:List Operand}{tys:Array TypeId}{vs:List Value}{s:Array Bool→Sem Value}(hv:args.map (Af e)=vs)(hb:∀cs,builtin bi tys ty cs vs.toArray=(s cs).bind fun v=>Sem.pure (Next.value v))
  (h:∀ρ' σ cs,(∀b o,ρ b=some o→ρ' b=some o)→wpS P ρ' (s cs) σ (fun w σ'=>w=v∧σ'=σ)):Yld P ρ e (.call ⟨.builtin bi,args.toArray,tys⟩) ty v:=by
 have a:args.toArray.map (Af e)=vs.toArray:=by rw[←hv];simp
 refine Mt (s:=s (args.toArray.map fun | .const _=>true|_=>false)) (fun d pos af g=>?_) fun ρ' σ hle=>h ρ' σ _ hle
 rw[←hb,←a];rfl
theorem Ci{P:Program}{α:Type}[Dat α]{xs:List α}{el:TypeId}(hT:P.underlying t=some (.slice el))(hx:Af e x=v)(hv:Val ρ v xs):Yld P ρ e (.call ⟨.builtin .len,#[x],#[t]⟩) ty (.int .i64 (xs.length:Int)):=by
 obtain⟨a,len,cap,b,c,d,_,f⟩:=Cs.1 hv
 refine Mc (args:=[x]) (vs:=[v]) (s:=fun _=>Builtin.len_ #[t] ty #[v]) (by simp[hx]) (fun _=>rfl) fun ρ' σ cs _=>?_
 show wpS P ρ' ((underlying t).bind _) σ _
 rw[Ad]
 refine Az hT ?_
 rw[b,←c]
 exact⟨rfl,rfl⟩
theorem Afz{P:Program}{s:ByteArray}(hT:P.underlying t=some .string)(hx:Af e x = .string s):Yld P ρ e (.call ⟨.builtin .len,#[x],#[t]⟩) ty (.int .i64 (s.size:Int)):=by
 refine Mc (args:=[x]) (vs:=[.string s]) (s:=fun _=>Builtin.len_ #[t] ty #[.string s]) (by simp[hx]) (fun _=>rfl) fun ρ' σ cs _=>?_
 show wpS P ρ' ((underlying t).bind _) σ _
 rw[Ad]
 refine Az hT ?_
 exact⟨rfl,rfl⟩
/-- An element's place. -/
theorem Ch{P:Program}{α:Type}[Dat α]{xs:List α}{el:TypeId}{k:IntKind}{q:Int}{a:α}(i:Nat)(hT:P.underlying t=some (.slice el))(hE:GoTy P el α)
  (hx:Af e x=v) (hv:Val ρ v xs) (hy:Af e y = .int k q) (hq:q=(i:Int)) (ha:xs[i]?=some a):∃p,At ρ p a∧Yld P ρ e (.indexAddr t x y) ty p:=by
 obtain⟨h,len,cap,c,j,m,_,d⟩:=Cs.1 hv
 obtain⟨bl,off,f,g⟩:=d i a ha
 have hi:i<xs.length:=(Ig.1 ha).1
 refine⟨_,g,Mt (s:=Instr.indexAt t (Af e x) (Af e y)) (fun _ _ _ _=>rfl) fun ρ' σ _=>?_⟩
 rw[hx,hy,c,f,hq]
 show wpS P ρ' ((underlying t).bind _) σ _
 rw[Ad]
 refine Az hT ?_
 show wpS P ρ' ((underlying t).bind _) σ _
 rw[Ad]
 refine Az hT ?_
 simp only[]
 rw[if_pos ⟨by omega,by omega⟩]
 show wpS P ρ' ((sizeOf el).bind _) σ _
 rw[Ad]
 refine Dx hE.info ?_
 have b:((i:Int).toNat*Dat.k α)=i*Dat.k α:=by simp
 rw[b,Ld];exact⟨rfl,rfl⟩
theorem Ajb{α:Type}[Dat α]{xs:List α}{a:Option Addr}{len cap l:Nat}(hv:Val ρ (.slice a len cap) xs)(hl:l≤len):Val ρ (.slice (if cap=l then a else a.map (·.add (l*Dat.k α))) (len-l) (cap-l)) (xs.drop l):=by
 obtain⟨a',n,g,c,h,j,m,d⟩:=Cs.1 hv
 cases c
 refine Cs.2 ⟨_,_,_,rfl,by simp;omega,by omega,by omega,fun i x hx=>?_⟩
 rw[Yx]at hx
 obtain⟨b,off,e,f⟩:=d _ x hx
 have hlt:=(Ig.1 hx).1
 subst e
 rw[if_neg (by omega)]
 refine⟨b,off+l*Dat.k α,by simp[Ld],?_⟩
 rw[show off+l*Dat.k α+i*Dat.k α=off+(l+i)*Dat.k α by rw[Pp,Aqb]];exact f
theorem Ack{P:Program}{α:Type}[Dat α]{xs:List α}{el:TypeId}{k:IntKind}{q:Int}(l:Nat)(hT:P.underlying t=some (.slice el))(hE:GoTy P el α)(hx:Af e x=v)(hv:Val ρ v xs)(hy:Af e y = .int k q)(hq:q=(l:Int))(hl:l≤xs.length) :
  ∃w,Val ρ w (xs.drop l)∧Yld P ρ e (.slice t x (some y) none none) ty w:=by
 obtain⟨a,len,cap,b,c,d,f,g⟩:=Cs.1 hv
 subst b
 refine⟨_,Ajb hv (by omega),Mt (s:=Instr.sliceAt t (Af e x) (some (Af e y)) none none) (fun _ _ _ _=>rfl) fun ρ' σ _=>?_⟩
 rw[hx,hy,hq]
 show wpS P ρ' ((underlying t).bind _) σ _
 rw[Ad]
 refine Az hT ?_
 show wpS P ρ' ((underlying t).bind _) σ _
 rw[Ad]
 refine Az hT ?_
 simp only[]
 show wpS P ρ' ((Instr.sliceBounds true len cap (some (.int k l)) none none).bind _) σ _
 have hb:Instr.sliceBounds true len cap (some (.int k (l:Int))) none none=pure (l,len,cap):=by
  have:Instr.sliceBound (.int k (l:Int)) len .sliceB=pure l:=by
   show (if 0≤(l:Int)∧(l:Int)≤len then pure (l:Int).toNat else _)=_
   rw[if_pos (by omega)];simp
  show (Instr.sliceBound (.int k (l:Int)) len .sliceB).bind _=_
  rw[this];rfl
 rw[hb]
 show wpS P ρ' ((sizeOf el).bind _) σ _
 rw[Ad]
 exact Dx hE.info ⟨rfl,rfl⟩
theorem Mr{P:Program}{f:FuncId}{fn:Func}{args:Array Value}{K:Next→Own→Prop}(hf:P.funcs[f]?=some fn)(hn:(fn.name == "runtime.NumGoroutine")=false)(hb:fn.body.isNone=false)(h:K (.enter f args) σ) :
  wpS P ρ (callFunc f args) σ K:=by
 show wpS P ρ (program.bind _) σ K
 rw[Ad]
 show wpS P ρ (match P.funcs[f]? with|none=>_|some fn=>_) σ K
 rw[hf]
 simp only[hn,hb]
 exact h
end
end
section
open Go
/-- A type's zero value. -/
def Fw(P:Program)(t:TypeId)(z:Value):Prop:=∃i,P.info? t=some i∧i.zero=some z
theorem Ab{P:Program}{t:TypeId}{i:TypeInfo}(h:∀w,Sem.run P (typeInfo t) w = .ok i w):P.info? t=some i:=by
 have b:=h default
 cases hi:P.info? t with
 | none =>
  have a:Sem.run P (typeInfo t) default=Sem.run P (match P.info? t with|some i=>pure i|none=>stuck "no such type") default:=rfl
  rw[hi]at a
  rw[a]at b
  cases b
 | some j =>
  have a:Sem.run P (typeInfo t) default=Sem.run P (match P.info? t with|some i=>pure i|none=>stuck "no such type") default:=rfl
  rw[hi]at a
  rw[a]at b
  have c:(Result.ok j default:Result TypeInfo) = .ok i default:=b
  cases c;rfl
structure Span where
 low:Int
 high:Int
deriving DecidableEq
structure FField where
 name:ByteArray
 house:Int
 grows:Span
 marks:List Span
deriving DecidableEq
structure Sale where
 grams:Int
 sellers:List Int
deriving DecidableEq
structure Market where
 houses:List ByteArray
 marks:List ByteArray
 fields:List FField
 sales:List Sale
deriving DecidableEq
structure FTest where
 name:ByteArray
 sees:List Int
 errs:Bool
deriving DecidableEq
structure Lab where
 kinds:List ByteArray
 most:Int
 tests:List FTest
deriving DecidableEq
theorem ty9:GoTy Tryz.prog 9 (ByteArray):=⟨⟨_,Tryz.underlying9,rfl⟩,⟨_,Ab Tryz.typeInfo9,rfl⟩⟩
theorem zr3:Fw Tryz.prog 3 (z0):=⟨_,Ab Tryz.typeInfo3,rfl⟩
theorem zr9:Fw Tryz.prog 9 (.string (ByteArray.mk #[])):=⟨_,Ab Tryz.typeInfo9,rfl⟩
theorem Brq:Fw Tryz.prog 22 (nS):=⟨_,Ab Tryz.typeInfo22,rfl⟩
theorem Brr:Fw Tryz.prog 25 (z0):=⟨_,Ab Tryz.typeInfo25,rfl⟩
theorem zr5:Fw Tryz.prog 5 (.int .u8 0):=⟨_,Ab Tryz.typeInfo5,rfl⟩
abbrev Brs:=@Tryz.underlying9
abbrev Brt:=@Tryz.underlying22
abbrev Bru:=@Tryz.underlying33
abbrev Brv:=@Tryz.underlying5
abbrev Brw:=@Tryz.underlying3
abbrev Brx:=@Tryz.underlying103
abbrev Bry:=@Tryz.typeInfo3
abbrev Brz:=@Tryz.func7
abbrev Bsa:=@Tryz.func37
abbrev Bsb:=@Tryz.underlying90
abbrev Bsc:=@Tryz.typeInfo9
abbrev Bsd:=@Tryz.typeInfo22
abbrev Bse:=@Tryz.underlying88
abbrev Bsf:=@Tryz.underlying101
abbrev Bsg:=@Tryz.typeInfo33
abbrev Bsh:=@Tryz.typeInfo25
abbrev Bsi:=@Tryz.underlying100
abbrev Bsj:=@Tryz.typeInfo282
abbrev Bsk:=@Tryz.func10
abbrev Bsl:=@Tryz.typeInfo88
abbrev Bsm:=@Tryz.underlying282
abbrev Bsn:=@Tryz.func41
abbrev Bso:=@Tryz.typeInfo90
abbrev Bsp:=@Tryz.typeInfo5
abbrev Bsq:=@Tryz.func42
abbrev Bsr:=@Tryz.func25
abbrev Bss:=@Tryz.func30
abbrev Bst:=@Tryz.func33
abbrev Bsu:=@Tryz.func34
abbrev Bsv:=@Tryz.func62
abbrev Bsw:=@Tryz.func65
abbrev Bsx:=@Tryz.func66
end
section
open Go
noncomputable abbrev CX(mn:Bool)(X:Frame→List Frame→Ro→Own→Cy→Prop):Ctx:=⟨Tryz.prog,mn,X⟩
def Abp:List Nat→Env→Value
 | [r],e=>e r
 | rs,e=>.tuple (rs.map e).toArray
theorem Lm{P:Program}{ρ:Ro}{σ:Own}{fn:Func}{rs:List Nat}{e:Env}{Q:Value→Own→Prop}(hr:fn.results=(rs.map ResultVar.tmp).toArray)(h:Q (Abp rs e) σ):wpS P ρ (Hp fn e) σ Q:=by
 have key:∀(g:ResultVar→Sem Value),(∀t,g (.tmp t)=pure (e t))→∀(l:List Nat) (acc:Array Value),(List.foldlM (m:=Sem) (fun (bs:Array Value) (a:ResultVar)=>Functor.map bs.push (g a)) acc (l.map ResultVar.tmp))=pure (acc++(l.map e).toArray):=by
  intro g hg l
  induction l with
  | nil=>intro acc;simp
  | cons r l ih =>
   intro acc
   simp only[Hd,Aim,hg]
   show (List.foldlM _ (acc.push (e r)) (l.map ResultVar.tmp))=_
   rw[ih]
   simp
 have hvs:Hp fn e=pure (if h:(rs.map e).toArray.size=1 then (rs.map e).toArray[0] else .tuple (rs.map e).toArray):=by
  unfold Hp
  rw[hr,Atq,Bdd,key _ (fun t=>rfl)]
  simp only[Vh]
  rfl
 rw[hvs]
 have:(if h:(rs.map e).toArray.size=1 then (rs.map e).toArray[0] else .tuple (rs.map e).toArray)=Abp rs e:=by
  match rs with
  | []=>rfl
  | [r]=>rfl
  | r::r'::rs=>rfl
 rw[this];exact h
theorem Bh{C:Ctx}{f:FuncId}{fn:Func}{c:Code}{n:Nat}{args:List Value}{ρ:Ro}{σ:Own}{R:Value→Ro→Own→Prop}(rs:List Nat)(hf:C.P.funcs[f]?=some fn)(hc:fn.body=some c)(hn:fn.ntmps=n)(ha:Nat.ble args.length n=true)(hr:fn.results=(rs.map ResultVar.tmp).toArray)
  (h:∀Q:Hu,(∀e ρ' σ',R (Abp rs e) ρ' σ'→Q .ret e [] ρ' σ')→(∀e ρ' σ',R (Abp rs e) ρ' σ'→Q .normal e [] ρ' σ')→WpC C ⟨f,.normal,none⟩ n c Q (Pn args) [] ρ σ):CallsH C f args.toArray ρ σ R :=
 Oy hf hc hn (lZ5 ha) (h _ (fun e ρ' σ' hR=>⟨fun id h=>(by cases h),Lm (Q:=fun v σ'=>R v ρ' σ') hr hR⟩) (fun e ρ' σ' hR=>⟨fun id h=>(by cases h),Lm (Q:=fun v σ'=>R v ρ' σ') hr hR⟩))
theorem Bf{C:Ctx}{f:FuncId}{fn:Func}{c:Code}{args:List Value}{ρ:Ro}{σ:Own}{R:Value→Ro→Own→Prop}(n:Nat)(rs:List Nat)(hf:C.P.funcs[f]?=some fn)(hc:fn.body=some c)(h:∀Q:Hu,(∀{e ρ' σ'},R (Abp rs e) ρ' σ'→Q .ret e [] ρ' σ')→(∀{e ρ' σ'},R (Abp rs e) ρ' σ'→Q .normal e [] ρ' σ')→WpC C ⟨f,.normal,none⟩ n c Q (Pn args) [] ρ σ)(hn:fn.ntmps=n:=by exact rfl)(ha:Nat.ble args.length n=true:=by exact rfl)(hr:fn.results=(rs.map ResultVar.tmp).toArray:=by exact rfl):CallsH C f args.toArray ρ σ R:=Bh rs hf hc hn ha hr fun Q a b=>h Q (fun {_ _ _} x=>a _ _ _ x) (fun {_ _ _} x=>b _ _ _ x)
section
variable{C:Ctx}{b:FB}{n:Nat}{l₀ rest:List Oper}{Q:Env→List Deferred→Ro→Own→Prop}{Q':Hu}{e:Env}{ds:List Deferred}{ρ:Ro}{σ:Own}
variable{d:Nat}{ty:TypeId}{pos:String}{af:Array Edge}{g:Option (Nat×Bool)}{x y:Operand}{v p:Value}{t t':TypeId}
theorem Co{V:Hn}{c:Operand}{x y:Code}{t:Bool}(hc:Af e c = .bool t)(ht:t=true)(h:WpP C V b n x Q' e ds ρ σ):WpP C V b n (.cond c x y) Q' e ds ρ σ :=
 Bb hc (fun _=>h) (fun a=>by rw[ht]at a;cases a)
theorem Cg{V:Hn}{c:Operand}{x y:Code}{t:Bool}(hc:Af e c = .bool t)(ht:t=false)(h:WpP C V b n y Q' e ds ρ σ):WpP C V b n (.cond c x y) Q' e ds ρ σ :=
 Bb hc (fun d=>by rw[ht]at d;cases d) (fun _=>h)
/-- By what a bool is. -/
theorem Cn{V:Hn}(t:Bool)(h1:t=true→Db C V b n l₀ rest Q e ds ρ σ)(h0:t=false→Db C V b n l₀ rest Q e ds ρ σ):Db C V b n l₀ rest Q e ds ρ σ:=by
 cases t
 ·exact h0 rfl
 ·exact h1 rfl
def EvL(e:Env):List Operand→List Value→Prop
 | [],[]=>True
 | x::xs,v::vs=>Af e x=v∧EvL e xs vs
 | _,_=>False
theorem EvL.map{e:Env}:∀{xs:List Operand} {vs:List Value},EvL e xs vs→xs.toArray.map (Af e)=vs.toArray
 | [],[],_=>by simp
 | x::xs,v::vs,⟨h1,h2⟩=>by
  have:=EvL.map h2
  simp only[List.map_toArray,Hd]at this ⊢
  rw[h1]
  have a:xs.map (Af e)=vs:=by simpa using congrArg Array.toList this
  rw[a]
 | [],_::_,h=>h.elim
 | _::_,[],h=>h.elim
/-- A function of the program,called by its name. -/
theorem Cm{K:Value→List Deferred→Ro→Own→Prop}{rd:Option Nat}{dd:Option Tmp}{f:FuncId}{fn:Func}{args:List Operand}{tys:Array TypeId}{vs:List Value}{R:Value→Ro→Own→Prop}(hc:CallsH C f vs.toArray ρ σ R)(hf:C.P.funcs[f]?=some fn)(hn:(fn.name == "runtime.NumGoroutine")=false)(hb:fn.body.isNone=false)
  (hv:EvL e args vs) (h:∀v ρ' σ',R v ρ' σ'→K v ds ρ' σ'):wpS C.P ρ (execOp (Af e) ⟨dd,.call ⟨.value (.func f),args.toArray,tys⟩,ty,pos,af,g⟩) σ (NextH C K rd ds ρ):=by
 have hv':=hv.map
 show wpS C.P ρ (invoke (.fn (.func f) #[]) (#[]++args.toArray.map (Af e))) σ _
 show wpS C.P ρ (callFunc f ((#[]++args.toArray.map (Af e)) ++ #[])) σ _
 rw[Wx,Vh,hv']
 exact Mr hf hn hb (hc.mono h)
theorem Bm{K:Value→List Deferred→Ro→Own→Prop}{rd:Option Nat}{dd:Option Tmp}{f:FuncId}{fn:Func}{args:List Operand}{tys:Array TypeId}{vs:List Value}(hc:CallsH C f vs.toArray ρ σ (fun w ρ' σ'=>ρ'=ρ∧σ'=σ∧w=v))(hf:C.P.funcs[f]?=some fn)(hn:(fn.name == "runtime.NumGoroutine")=false)(hb:fn.body.isNone=false)
  (hv:EvL e args vs) (h:K v ds ρ σ):wpS C.P ρ (execOp (Af e) ⟨dd,.call ⟨.value (.func f),args.toArray,tys⟩,ty,pos,af,g⟩) σ (NextH C K rd ds ρ) :=
 Cm hc hf hn hb hv (by rintro w ρ' σ' ⟨rfl,rfl,rfl⟩;exact h)
theorem Ii{K:Value→List Deferred→Ro→Own→Prop}{rd:Option Nat}{dd:Option Tmp}{f:FuncId}{fn:Func}{args:List Operand}{tys:Array TypeId}{vs:List Value}(hc:CallsH C f vs.toArray ρ σ (fun w ρ' σ'=>ρ'=ρ∧σ'=σ∧w=v))(hf:C.P.funcs[f]?=some fn)(h:K v ds ρ σ)(hv:EvL e args vs:=by repeat first|exact trivial|refine⟨rfl,?_⟩)(hn:(fn.name == "runtime.NumGoroutine")=false:=by exact rfl)(hb:fn.body.isNone=false:=by exact rfl):wpS C.P ρ (execOp (Af e) ⟨dd,.call ⟨.value (.func f),args.toArray,tys⟩,ty,pos,af,g⟩) σ (NextH C K rd ds ρ):=Bm hc hf hn hb hv h
theorem Bo{z z':Int}(h:z=z')(h1:-9223372036854775808≤z')(h2:z'<9223372036854775808):IntKind.i64.wrap z=z':=by
 subst h
 rw[IntKind.wrap_i64];omega
theorem wrE{z z':Int}(h:z=z':=by first|rfl|omega|(push_cast;rfl))(h1:-9223372036854775808≤z':=by omega)(h2:z'<9223372036854775808:=by omega):IntKind.i64.wrap z=z':=Bo h h1 h2
theorem wrR{z z':Int}(h:z=z':=by rfl)(h1:-9223372036854775808≤z':=by omega)(h2:z'<9223372036854775808:=by omega):IntKind.i64.wrap z=z':=Bo h h1 h2
theorem Ga{P:Program}{p q:Int}(z:Int)(hx:Af e x = .int .i64 p:=by exact rfl)(hy:Af e y = .int .i64 q:=by exact rfl)(hz:IntKind.i64.wrap (p+q)=z:=by exact wrE):Yld P ρ e (.binOp .add t x y t') ty (.int .i64 z):=Br hx hy hz
theorem Ed{α:Type}{xs:List α}{i:Nat}(h:i<xs.length):∃a,xs[i]?=some a:=⟨xs[i],Um h⟩
section
variable{P:Program}
theorem Aah{k:IntKind}{p q z:Int}(hx:Af e x = .int k p)(hy:Af e y = .int k q)(h0:q≠0)(hz:p.tmod q=z):Yld P ρ e (.binOp .rem t x y t') ty (.int k z) :=
 La hx hy Dh (by subst hz;simp only[binOp];rw[if_neg (by simp)];unfold Op.intDiv;rw[if_neg h0])
theorem Bgi{k:IntKind}{p q z:Int}(hx:Af e x = .int k p)(hy:Af e y = .int k q)(h0:q≠0)(hz:k.wrap (p.tdiv q)=z):Yld P ρ e (.binOp .quo t x y t') ty (.int k z) :=
 La hx hy Dh (by subst hz;simp only[binOp];rw[if_neg (by simp)];unfold Op.intDiv;rw[if_neg h0])
end
section
variable{P:Program}
theorem Bqi{p q:ByteArray}(hx:Af e x = .string p)(hy:Af e y = .string q):Yld P ρ e (.binOp .eql t x y t') ty (.bool (p.toList==q.toList)):=La hx hy Nc (by simp only[binOp];rfl)
theorem Bqj{p q:ByteArray}(hx:Af e x = .string p)(hy:Af e y = .string q):Yld P ρ e (.binOp .neq t x y t') ty (.bool !(p.toList==q.toList)):=La hx hy Nc (by simp only[binOp];rfl)
/-- A string's byte. -/
theorem Ace{s:ByteArray}{k:IntKind}{q:Int}(i:Nat)(c:UInt8)(hT:P.underlying t=some .string)(hx:Af e x = .string s)(hy:Af e y = .int k q)(hq:q=(i:Int))(hc:s[i]?=some c):Yld P ρ e (.index t x y) ty (.int .u8 (c.toNat:Int)) :=
 Mt (s:=Instr.index t (Af e x) (Af e y)) (fun _ _ _ _=>rfl) fun ρ' σ _=>by
 rw[hx,hy,hq]
 show wpS P ρ' ((underlying t).bind _) σ _
 rw[Ad]
 refine Az hT ?_
 simp only[Amw,hc]
 rw[if_pos (by omega)]
 exact⟨rfl,rfl⟩
end
theorem not_t{t:Bool}(h:t=true):(!t)=false:=by rw[h];rfl
theorem Pu{t:Bool}(h:t=false):(!t)=true:=by rw[h];rfl
theorem not_eq_t{t:Bool}(h:(!t)=true):t=false:=by cases t;rfl;cases h
theorem Ev{t:Bool}(h:(!t)=false):t=true:=by cases t;cases h;rfl
theorem Jr{α:Type}[BEq α][LawfulBEq α]{p q:α}(h:(p==q)=true):p=q:=eq_of_beq h
theorem Jq{α:Type}[BEq α][LawfulBEq α]{p q:α}(h:(p==q)=false):p≠q:=fun e=>by subst e;simp at h
theorem Ls{α:Type}[BEq α][LawfulBEq α]{p q:α}(h:(p != q)=true):p≠q:=fun e=>by subst e;simp at h
theorem Jh{α:Type}[BEq α][LawfulBEq α]{p q:α}(h:(p != q)=false):p=q:=by simpa using h
theorem Alc{s:ByteArray}{i:Nat}(h:i<s.size):∃c,s[i]?=some c:=⟨s[i],by simp[h]⟩
def EvS(e:Env):List Nat→List Value→Prop
 | [],[]=>True
 | r::rs,v::vs=>e r=v∧EvS e rs vs
 | _,_=>False
theorem EvS.map{e:Env}:∀{rs:List Nat} {vs:List Value},EvS e rs vs→rs.map e=vs
 | [],[],_=>rfl
 | r::rs,v::vs,⟨h1,h2⟩=>by rw[Hd,h1,EvS.map h2]
 | [],_::_,h=>h.elim
 | _::_,[],h=>h.elim
theorem Mp{e:Env}{r r':Nat}{rs:List Nat}{v v':Value}{vs:List Value}(h:EvS e (r::r'::rs) (v::v'::vs)):Abp (r::r'::rs) e = .tuple (v::v'::vs).toArray:=by
 show Value.tuple (List.map e (r::r'::rs)).toArray=_
 rw[EvS.map h]
theorem Ik{P:Program}{el:TypeId}{cs:Array Value}{K:Addr→Own→Prop}(h:∀r,K ⟨r,0,none⟩ ((r,.obj (.cells cs el (0,0)))::σ)):wpS P ρ (newRow el cs) σ K:=by
 show wpS P ρ ((newObj _).bind _) σ K
 rw[Ad]
 exact .inl ⟨rfl,fun r=>h r⟩
theorem Gd{K:Value→List Deferred→Ro→Own→Prop}{rd:Option Nat}{s:Sem Value}(h:wpS C.P ρ s σ (fun v σ'=>K v ds ρ σ')):wpS C.P ρ (s.bind fun v=>Sem.pure (Next.value v)) σ (NextH C K rd ds ρ):=by
 rw[Ad];exact h
/-- A box of what is owned from now on. -/
theorem Eb{K:Value→List Deferred→Ro→Own→Prop}{rd:Option Nat}{dd:Option Tmp}(hx:Af e x=v)(h:∀r,K (.pointer (some ⟨r,0,none⟩)) ds ρ ((r,.obj (.cells v.cells t (0,0)))::σ)) :
  wpS C.P ρ (execOp (Af e) ⟨dd,.box t x,ty,pos,af,g⟩) σ (NextH C K rd ds ρ):=by
 show wpS C.P ρ ((Instr.box t (Af e x)).bind _) σ _
 refine Gd ?_
 show wpS C.P ρ ((newVar t (Af e x)).bind _) σ _
 rw[Ad,hx]
 exact Ik fun r=>h r
end
end
section
open Go
section
variable{C:Ctx}{b:FB}{n:Nat}{l₀ rest:List Oper}{e:Env}{ds:List Deferred}{ρ:Ro}{σ:Own}{K:Value→List Deferred→Ro→Own→Prop}{rd:Option Nat}{dd:Option Tmp}
variable{ty:TypeId}{pos:String}{af:Array Edge}{g:Option (Nat×Bool)}{x y:Operand}{v p:Value}{t t':TypeId}{P:Program}
theorem Baq{s:Sem Unit}(h:wpS C.P ρ s σ (fun _ σ'=>K undef ds ρ σ')):wpS C.P ρ (s.bind fun _=>Sem.pure Next.skip) σ (NextH C K rd ds ρ):=by
 rw[Ad];exact h
theorem Jz{z:Value}(h:Fw P t z){Q:Value→Own→Prop}(hq:Q z σ):wpS P ρ (zeroValue t) σ Q:=by
 obtain⟨i,a,b⟩:=h
 show wpS P ρ ((typeInfo t).bind _) σ Q
 rw[Ad]
 refine Gj a ?_
 rw[b];exact hq
/-- A new variable. -/
theorem Ct{z:Value}(hz:Fw C.P t z)(h:∀r,K (.pointer (some ⟨r,0,none⟩)) ds ρ ((r,.obj (.cells z.cells t (0,0)))::σ)):wpS C.P ρ (execOp (Af e) ⟨dd,.alloc t,ty,pos,af,g⟩) σ (NextH C K rd ds ρ):=by
 show wpS C.P ρ ((Instr.alloc t true (.tuple #[])).bind _) σ _
 refine Gd ?_
 show wpS C.P ρ ((zeroValue t).bind _) σ _
 rw[Ad]
 refine Jz hz ?_
 show wpS C.P ρ ((newVar t z).bind _) σ _
 rw[Ad]
 exact Ik fun r=>h r
def over:List Value→Nat→List Value→List Value
 | c,_,[]=>c
 | c,off,v::vs=>over (c.set off v) (off+1) vs
theorem Lo:∀(vs c:List Value) (off:Nat),(over c off vs).length=c.length
 | [],c,off=>rfl
 | v::vs,c,off=>by rw[over,Lo vs];simp
theorem Qe:∀(vs c:List Value) (off:Nat),off+vs.length≤c.length→over c off vs=c.take off++(vs++c.drop (off+vs.length))
 | [],c,off,h=>by simp[over]
 | v::vs,c,off,h=>by
  simp only[lZ2]at h
  have hlen:off<c.length:=by omega
  rw[over,Qe vs (c.set off v) (off+1) (by rw[Sm];omega)]
  have a:(c.set off v).take (off+1)=c.take off++[v]:=by
   rw[Apx,List.take_set_of_le (Et _),List.getElem?_set_self hlen];rfl
  have b:(c.set off v).drop (off+1+vs.length)=c.drop (off+(v::vs).length):=by
   rw[List.drop_set_of_lt (by omega)]
   congr 1
   simp only[lZ2];omega
  rw[a,b];simp
theorem fz0(c:Array Value)(t:TypeId)(i:Nat):Lv (.cells c t (0,0)) i=false:=by
 simp[Lv]
/-- Cells are stored,one after the other. -/
theorem Ns{Q:Unit→Own→Prop}{r i:Nat}:∀(vs:List Value) (a:Addr) (k:Nat) (c:List Value) (σ:Own),a.block=r→a.spot=none→(∀v∈vs,single v=true)→σ[i]?=some (r,.obj (.cells c.toArray t (0,0)))→a.off+k+vs.length≤c.length →
  Q () (σ.set i (r,.obj (.cells (over c (a.off+k) vs).toArray t (0,0))))→wpS P ρ (storeCells a vs k) σ Q:=by
 intro vs
 induction vs with
 | nil =>
  intro a k c σ _ _ _ hi _ hq
  have:σ.set i (r,Res.obj (.cells (over c (a.off+k) []).toArray t (0,0)))=σ:=by
   apply Ats
   intro j
   rw[Rk]
   split
   ·rename_i e;subst e
    split
    ·exact hi.symm
    ·rename_i h;rw[Og (by omega)]
   ·rfl
  rw[this]at hq
  exact hq
 | cons v vs ih =>
  intro a k c σ ha hs hv hi hl hq
  simp only[lZ2]at hl
  show wpS P ρ ((store (a.add k) v).bind _) σ Q
  rw[Ad,Agj a hs]
  refine⟨rfl,rfl,hv v mC,i,c.toArray,t,(0,0),by rw[ha];exact hi,by simp;omega,fz0 _ _ _,?_⟩
  have hlt:i<σ.length:=by
   rcases Mg i σ.length with h|h
   ·exact h
   ·rw[Og h]at hi;cases hi
  refine ih a (k+1) (c.set (a.off+k) v) _ ha hs (fun w hw=>hv w (lZ0 _ hw)) ?_ (by rw[Sm];omega) ?_
  ·rw[Rk]
   simp only[if_true,hlt]
   rw[ha];simp
  ·rw[Awg]
   rw[over]at hq
   rw[show a.off+(k+1)=a.off+k+1 by omega]
   exact hq
/-- A variable,or a part of one,is stored. -/
theorem Li{r off i:Nat}{c vs c':List Value}{n':Nat}(hz:∃i,C.P.info? t=some i∧i.size=n')(hx:Af e x = .pointer (some ⟨r,off,none⟩))(hy:Af e y=v)(hv:v.cells=vs.toArray)(hn:vs.length=n')(hs:∀w∈vs,single w=true)
  (hi:σ[i]?=some (r,.obj (.cells c.toArray t' (0,0)))) (hl:off+vs.length≤c.length) (hc:over c off vs=c') (h:K undef ds ρ (σ.set i (r,.obj (.cells c'.toArray t' (0,0))))) :
  wpS C.P ρ (execOp (Af e) ⟨dd,.store t x y,ty,pos,af,g⟩) σ (NextH C K rd ds ρ):=by
 show wpS C.P ρ ((Instr.storeAt t (Af e x) (Af e y)).bind _) σ _
 refine Baq ?_
 rw[hx,hy]
 show wpS C.P ρ (storeVar t ⟨r,off,none⟩ v) σ _
 show wpS C.P ρ ((sizeOf t).bind _) σ _
 rw[Ad]
 refine Dx hz ?_
 have hsz:v.cells.size=n':=by rw[hv];simpa using hn
 show wpS C.P ρ (if v.cells.size≠n' then _ else storeCells ⟨r,off,none⟩ v.cells.toList) σ _
 rw[if_neg (by simpa using hsz),hv]
 refine Ns vs ⟨r,off,none⟩ 0 c σ rfl rfl hs hi (by simpa using hl) ?_
 simp only[Vn,hc]
 exact h
/-- A single cell that is owned is read. -/
theorem Dt{r off i:Nat}{c:List Value}{fz:Nat×Nat}(hT:∃d,C.P.underlying t=some d∧Qv d=false)(hx:Af e x = .pointer (some ⟨r,off,none⟩))(hi:σ[i]?=some (r,.obj (.cells c.toArray t' fz)))(hc:c[off]?=some v)(h:K v ds ρ σ) :
  wpS C.P ρ (execOp (Af e) ⟨dd,.load t x,ty,pos,af,g⟩) σ (NextH C K rd ds ρ):=by
 show wpS C.P ρ ((Instr.loadAt t (Af e x)).bind _) σ _
 refine Gd ?_
 rw[hx]
 show wpS C.P ρ (loadVar t ⟨r,off,none⟩) σ _
 show wpS C.P ρ ((isAgg t).bind _) σ _
 rw[Ad]
 refine Hi hT ?_
 exact⟨rfl,rfl,_,v,.inr (lZ6 hi),by simpa[Gy]using hc,h⟩
/-- Cells that are owned are read together. -/
theorem Xo{r off i n':Nat}{c cs rs:List Value}{fz:Nat×Nat}(hT:∃d,C.P.underlying t=some d∧Qv d=true)(hz:∃i,C.P.info? t=some i∧i.size=n')(hx:Af e x = .pointer (some ⟨r,off,none⟩))(hi:σ[i]?=some (r,.obj (.cells c.toArray t' fz)))
  (hc:c.drop off=cs++rs) (hn:cs.length=n') (h:K (.agg cs.toArray) ds ρ σ):wpS C.P ρ (execOp (Af e) ⟨dd,.load t x,ty,pos,af,g⟩) σ (NextH C K rd ds ρ):=by
 show wpS C.P ρ ((Instr.loadAt t (Af e x)).bind _) σ _
 refine Gd ?_
 rw[hx]
 show wpS C.P ρ ((isAgg t).bind _) σ _
 rw[Ad]
 refine Hi hT ?_
 show wpS C.P ρ ((sizeOf t).bind fun n=>(loadCells ⟨r,off,none⟩ n).bind _) σ _
 rw[Ad]
 refine Dx hz ?_
 rw[Ad,←hn]
 refine Ff rfl (.inr (lZ6 hi)) cs 0 #[] (fun j w hj=>?_) ?_
 ·have:(c.drop off)[j]?=some w:=by rw[hc,Ahm];exact hj;exact(Ig.1 hj).1
  rw[Yx]at this
  simpa[Gy]using this
 ·have a:(#[]:Array Value)++cs.toArray=cs.toArray:=by simp
  rw[a];exact h
/-- A field's place,by its offset. -/
theorem Ajt{r off off0 i:Nat}{fs:Array Field}{f:Field}{n':Nat}(hT:P.underlying t=some (.struct fs))(hi:fs[i]?=some f)(ho:f.offset=off0)(hF:∃i,P.info? f.type=some i∧i.size=n')(hk:n'≠0)(hx:Af e x = .pointer (some ⟨r,off,none⟩)){off':Nat}(ho':off+off0=off') :
  Yld P ρ e (.fieldAddr t x i) ty (.pointer (some ⟨r,off',none⟩)):=Mt (s:=Instr.fieldAt t (Af e x) i) (fun _ _ _ _=>rfl) fun ρ' σ _=>by
 rw[hx]
 show wpS P ρ' ((underlying t).bind _) σ _
 rw[Ad]
 refine Az hT ?_
 simp only[hi]
 show wpS P ρ' ((fieldPlace ⟨r,off,none⟩ f).bind _) σ _
 rw[Ad]
 show wpS P ρ' ((sizeOf f.type).bind _) σ _
 rw[Ad]
 refine Dx hF ?_
 rw[if_neg hk,ho,Ld,ho']
 exact⟨rfl,rfl⟩
/-- An element's place in an array's variable. -/
theorem Aju{r off len k':Nat}{el:TypeId}{k:IntKind}{q:Int}(i:Nat)(hT:P.underlying t=some (.array len el))(hE:∃i,P.info? el=some i∧i.size=k')(hx:Af e x = .pointer (some ⟨r,off,none⟩))(hy:Af e y = .int k q)(hq:q=(i:Int))(hi:i<len){off':Nat}(ho:off+i*k'=off') :
  Yld P ρ e (.indexAddr t x y) ty (.pointer (some ⟨r,off',none⟩)):=Mt (s:=Instr.indexAt t (Af e x) (Af e y)) (fun _ _ _ _=>rfl) fun ρ' σ _=>by
 rw[hx,hy,hq]
 show wpS P ρ' ((underlying t).bind _) σ _
 rw[Ad]
 refine Az hT ?_
 show wpS P ρ' ((underlying t).bind _) σ _
 rw[Ad]
 refine Az hT ?_
 simp only[]
 rw[if_pos ⟨by omega,by omega⟩]
 show wpS P ρ' ((sizeOf el).bind _) σ _
 rw[Ad]
 refine Dx hE ?_
 rw[show (i:Int).toNat=i by simp,Ld,ho];exact⟨rfl,rfl⟩
/-- An element's place in a slice,by its block. -/
theorem Ajv{r off len cap k':Nat}{el:TypeId}{k:IntKind}{q:Int}(i:Nat)(hT:P.underlying t=some (.slice el))(hE:∃i,P.info? el=some i∧i.size=k')(hx:Af e x = .slice (some ⟨r,off,none⟩) len cap)(hy:Af e y = .int k q)(hq:q=(i:Int))(hi:i<len){off':Nat}(ho:off+i*k'=off') :
  Yld P ρ e (.indexAddr t x y) ty (.pointer (some ⟨r,off',none⟩)):=Mt (s:=Instr.indexAt t (Af e x) (Af e y)) (fun _ _ _ _=>rfl) fun ρ' σ _=>by
 rw[hx,hy,hq]
 show wpS P ρ' ((underlying t).bind _) σ _
 rw[Ad]
 refine Az hT ?_
 show wpS P ρ' ((underlying t).bind _) σ _
 rw[Ad]
 refine Az hT ?_
 simp only[]
 rw[if_pos ⟨by omega,by omega⟩]
 show wpS P ρ' ((sizeOf el).bind _) σ _
 rw[Ad]
 refine Dx hE ?_
 rw[show (i:Int).toNat=i by simp,Ld,ho];exact⟨rfl,rfl⟩
end
section
variable{C:Ctx}{b:FB}{n:Nat}{l₀ rest:List Oper}{Q:Env→List Deferred→Ro→Own→Prop}{e:Env}{ds:List Deferred}{ρ:Ro}{σ:Own}{K:Value→List Deferred→Ro→Own→Prop}{rd:Option Nat}{dd:Option Tmp}
variable{ty:TypeId}{pos:String}{af:Array Edge}{g:Option (Nat×Bool)}{x y:Operand}{v p:Value}{t t':TypeId}
end
end
section
open Go
/-- These cells are the elements' cells,one after the other. -/
def Rows{α:Type}[Dat α](ρ:Ro):List Value→List α→Prop
 | cs,[]=>cs=[]
 | cs,x::xs=>∃c1 c2,cs=c1++c2∧Dat.rep ρ c1 x∧Rows ρ c2 xs
section
variable{α:Type}[Dat α]{ρ ρ':Ro}
theorem Rows.mono(h:Ro.le ρ ρ'):∀{xs:List α} {cs:List Value},Rows ρ cs xs→Rows ρ' cs xs
 | [],_,h'=>h'
 | _::_,_,⟨c1,c2,h1,h2,h3⟩=>⟨c1,c2,h1,Dat.mono h h2,Rows.mono h h3⟩
theorem Rows.len:∀{xs:List α} {cs:List Value},Rows ρ cs xs→cs.length=xs.length*Dat.k α
 | [],_,h=>by rw[show _=[] from h];simp
 | x::xs,_,⟨c1,c2,h1,h2,h3⟩=>by
  rw[h1,lZ1,Dat.len h2,Rows.len h3,lZ2,Pp,Ael,Aei]
theorem Rows.sgl:∀{xs:List α} {cs:List Value},Rows ρ cs xs→∀c∈cs,single c=true
 | [],_,h,c,hc=>by rw[show _=[] from h]at hc;cases hc
 | x::xs,_,⟨c1,c2,h1,h2,h3⟩,c,hc=>by
  rw[h1,Fb]at hc
  exact hc.elim (Dat.sgl h2 c) (Rows.sgl h3 c)
theorem Rows.append:∀{xs ys:List α} {cs cs':List Value},Rows ρ cs xs→Rows ρ cs' ys→Rows ρ (cs++cs') (xs++ys)
 | [],_,_,_,h,h'=>by rw[show _=[] from h];exact h'
 | x::xs,_,_,_,⟨c1,c2,h1,h2,h3⟩,h'=>⟨c1,c2++_,by rw[h1,lZ9],h2,Rows.append h3 h'⟩
theorem Rows.get:∀{xs:List α} {cs:List Value},Rows ρ cs xs→∀{i:Nat} {x:α},xs[i]?=some x→∃c post,cs.drop (i*Dat.k α)=c++post∧Dat.rep ρ c x
 | [],_,_,i,x,hx=>by simp at hx
 | y::ys,_,⟨c1,c2,h1,h2,h3⟩,i,x,hx=>by
  cases i with
  | zero =>
   simp only[Aza,Option.some.injEq]at hx
   subst hx
   exact⟨c1,c2,by simp[h1],h2⟩
  | succ i =>
   obtain⟨c,post,h4,h5⟩:=h3.get (i:=i) (x:=x) (by simpa using hx)
   refine⟨c,post,?_,h5⟩
   rw[h1,Pp,Ael,Aei,←Aqh]
   have:(c1++c2).drop (Dat.k α)=c2:=by rw[←Dat.len h2,List.drop_left]
   rw[this];exact h4
/-- A slice whose elements' cells stand in a block that is only read. -/
theorem Zv{r cap:Nat}{cs rest:List Value}{t:TypeId}{fz:Nat×Nat}{xs:List α}(hr:ρ r=some (.cells (cs++rest).toArray t fz))(hc:Rows ρ cs xs)(hl:xs.length<2^60)(hcap:xs.length≤cap):Val ρ (.slice (some ⟨r,0,none⟩) xs.length cap) xs:=by
 refine Cs.2 ⟨_,_,_,rfl,rfl,hl,hcap,fun i x hx=>⟨r,0,rfl,?_⟩⟩
 obtain⟨c,d,a,b⟩:=hc.get hx
 have hlt:=(Ig.1 hx).1
 refine⟨r,0+i*Dat.k α,_,_,_,c,d++rest,rfl,hr,b,?_⟩
 simp only[Po,App]
 have hle:i*Dat.k α≤cs.length:=by rw[hc.len];exact Apo _ (by omega)
 rw[Bip hle,a,lZ9]
theorem Gx:Val ρ (.slice none 0 0) ([]:List α):=Cs.2 ⟨none,0,0,rfl,rfl,by omega,Et _,fun i x hx=>by simp at hx⟩
end
/-- Values of elements. -/
def Aam{α:Type}[Dat α](ρ:Ro):List Value→List α→Prop
 | [],[]=>True
 | v::vs,x::xs=>Val ρ v x∧Aam ρ vs xs
 | _,_=>False
section
variable{C:Ctx}{b:FB}{n:Nat}{l₀ rest:List Oper}{e:Env}{ds:List Deferred}{ρ:Ro}{σ:Own}{K:Value→List Deferred→Ro→Own→Prop}{rd:Option Nat}{dd:Option Tmp}
variable{ty:TypeId}{pos:String}{af:Array Edge}{g:Option (Nat×Bool)}{x y:Operand}{v p:Value}{t t':TypeId}{P:Program}
theorem Pd:∀(vs:List Value) (c:List Value) (off k:Nat),(vs.zipIdx k).foldl (fun (cs:Array Value) (p:Value×Nat)=>cs.setIfInBounds (off+p.2) p.1) c.toArray=(over c (off+k) vs).toArray
 | [],c,off,k=>rfl
 | v::vs,c,off,k=>by
  simp only[Bdm,Aio]
  have:(c.toArray.setIfInBounds (off+k) v)=(c.set (off+k) v).toArray:=by simp
  rw[this,Pd vs _ off (k+1),over]
  rfl
/-- Given elements,one after the other,fill their slice. -/
theorem Vq{α:Type}[Dat α]:∀(vs:List Value) (xs:List α) (i:Nat) (pre suf:List Value),Aam ρ vs xs→pre.length=i*Dat.k α→suf.length=xs.length*Dat.k α →
  ∃cs,Rows ρ cs xs∧Instr.fill (fun i=>some (i*Dat.k α,Dat.k α)) (pre++suf).toArray ((vs.zipIdx i).map fun p=>(p.2,p.1))=some (pre++cs).toArray
 | [],[],i,pre,suf,_,_,hs=>by
  refine⟨[],rfl,?_⟩
  have:suf=[]:=Aem (by simpa using hs)
  simp[Instr.fill,this]
 | v::vs,y::ys,i,pre,suf,⟨hv,hvs⟩,hp,hs=>by
  obtain⟨c,b,j,d⟩:=hv.cells
  have a:=Dat.len b
  simp only[lZ2,Pp,Ael]at hs
  simp only[Bdm,Hd,Instr.fill]
  have hsz:v.cells.size=Dat.k α:=by rw[d];simpa using a
  have g:(decide (v.cells.size≠Dat.k α)||decide (i*Dat.k α+v.cells.size>(pre++suf).toArray.size))=false:=by
   simp only[hsz,Bdq,decide_eq_false_iff_not]
   refine⟨by simp,?_⟩
   simp only[Aaw,lZ1,hp,hs];omega
  rw[if_neg (by simpa using g)]
  have m:v.cells.zipIdx.foldl (fun (cs:Array Value) (p:Value×Nat)=>cs.setIfInBounds (i*Dat.k α+p.2) p.1) (pre++suf).toArray=((pre++c)++suf.drop (Dat.k α)).toArray:=by
   rw[d]
   have:=Pd c (pre++suf) (i*Dat.k α) 0
   rw[←Array.foldl_toList]
   simp only[Array.toList_zipIdx,App]
   rw[this,Vn,Qe c (pre++suf) (i*Dat.k α) (by rw[lZ1,hp,hs,a];omega)]
   rw[←hp,Aqi,a,←Aqh,List.drop_left,lZ9]
  obtain⟨cs,e,f⟩:=Vq vs ys (i+1) (pre++c) (suf.drop (Dat.k α)) hvs (by rw[lZ1,hp,a,Pp,Ael]) (by rw[En,hs];omega)
  refine⟨c++cs,⟨c,cs,rfl,b,e⟩,?_⟩
  rw[←lZ9,←f]
  congr 1
 | [],_::_,_,_,_,h,_,_=>h.elim
 | _::_,[],_,_,_,h,_,_=>h.elim
/-- A slice of given elements. -/
theorem Bi{α:Type}[Dat α]{xs:List α}{el:TypeId}{z:Value}{ps:List (Nat×Operand)}{vs:List Value}{len:Nat}(hT:C.P.underlying t=some (.slice el))(hE:GoTy C.P el α)(hz:Fw C.P el z)(hzk:z.cells.size=Dat.k α)(hk:Dat.k α≠0)
  (hp:ps.map (fun p=>(p.1,Af e p.2))=(vs.zipIdx.map fun p=>(p.2,p.1))) (hv:Aam ρ vs xs) (hlen:xs.length=len) (hsm:len*Dat.k α≤2^24)
  (h:∀r cs,Rows ρ cs xs→K (.slice (some ⟨r,0,none⟩) len len) ds ρ ((r,.obj (.cells cs.toArray el (0,0)))::σ)) :
  wpS C.P ρ (execOp (Af e) ⟨dd,.buildSlice t len ps.toArray,ty,pos,af,g⟩) σ (NextH C K rd ds ρ):=by
 have c:execOp (Af e) ⟨dd,.buildSlice t len ps.toArray,ty,pos,af,g⟩=(Instr.buildSlice t len (ps.toArray.map fun (p:Nat×Operand)=>(p.1,Af e p.2))).bind fun v=>Sem.pure (Next.value v):=rfl
 rw[c]
 refine Gd ?_
 have hps:(ps.toArray.map fun (p:Nat×Operand)=>(p.1,Af e p.2))=(vs.zipIdx.map fun p=>(p.2,p.1)).toArray:=by
  rw[←hp];simp
 rw[hps]
 unfold Instr.buildSlice
 show wpS C.P ρ ((underlying t).bind _) σ _
 rw[Ad]
 refine Az hT ?_
 show wpS C.P ρ ((sizeOf el).bind _) σ _
 rw[Ad]
 refine Dx hE.info ?_
 dsimp only
 rw[if_neg (by omega)]
 have rest:∀(zz:Array Value),∃cs,Rows ρ cs xs∧Instr.fill (fun i=>some (i*Dat.k α,Dat.k α)) ((Array.range (len*Dat.k α)).map fun i=>zz[i%zz.size]!) (vs.zipIdx.map fun p=>(p.2,p.1))=some cs.toArray:=fun zz=>by
  obtain⟨cs,a,b⟩:=Vq (ρ:=ρ) vs xs 0 [] ((List.range (len*Dat.k α)).map fun i=>zz[i%zz.size]!) hv (by simp) (by simp[hlen])
  refine⟨cs,a,?_⟩
  have d:((Array.range (len*Dat.k α)).map fun i=>zz[i%zz.size]!)=([]++(List.range (len*Dat.k α)).map fun i=>zz[i%zz.size]!).toArray:=by
   apply Array.ext'
   simp
  rw[d,b];simp
 split
 ·obtain⟨cs,a,b⟩:=rest #[]
  simp only[pure_bind,b]
  show wpS C.P ρ ((newRow el cs.toArray).bind _) σ _
  rw[Ad]
  exact Ik fun r=>h r cs a
 ·show wpS C.P ρ ((zeroValue el).bind _) σ _
  rw[Ad]
  refine Jz hz ?_
  obtain⟨cs,a,b⟩:=rest z.cells
  simp only[pure_bind,b]
  show wpS C.P ρ ((newRow el cs.toArray).bind _) σ _
  rw[Ad]
  exact Ik fun r=>h r cs a
/-- A slice that is being made: it owns its block (newest first;what it had before is forgotten later). -/
def Grow{α:Type}[Dat α](ρ:Ro)(el:TypeId)(v:Value)(xs:List α)(gr:Own):Prop :=
 (∀p∈gr,∃o,p.2=Res.obj o)∧xs.length<2^60 ∧
 ((v = .slice none 0 0∧xs=[])∨∃r cap cs rs gb,v = .slice (some ⟨r,0,none⟩) xs.length cap∧gr=(r,.obj (.cells (cs++rs).toArray el (0,0)))::gb∧Rows ρ cs xs∧(cs++rs).length=cap*Dat.k α∧xs.length≤cap)
theorem Grow.mono{α:Type}[Dat α]{ρ ρ':Ro}(hle:Ro.le ρ ρ'){el:TypeId}{v:Value}{xs:List α}{gr:Own}(h:Grow ρ el v xs gr):Grow ρ' el v xs gr :=
 ⟨h.1,h.2.1,h.2.2.imp id fun⟨r,cap,cs,rs,gb,a,b,c,d,e⟩=>⟨r,cap,cs,rs,gb,a,b,c.mono hle,d,e⟩⟩
theorem Hm{α:Type}[Dat α]{ρ:Ro}{el:TypeId}:Grow ρ el (.slice none 0 0) ([]:List α) []:=⟨fun p hp=>(by cases hp),by simp,.inl ⟨rfl,rfl⟩⟩
theorem Grow.len{α:Type}[Dat α]{ρ:Ro}{el:TypeId}{v:Value}{xs:List α}{gr:Own}(h:Grow ρ el v xs gr):xs.length<2^60:=h.2.1
/-- The cells of what is appended. -/
theorem Uw{α:Type}[Dat α]{ρ:Ro}{σ:Own}{P:Program}{v:Value}{xs:List α}{Q:Array Value→Own→Prop}(hv:Val ρ v xs)(h:∀cs,Rows ρ cs xs→Q cs.toArray σ):wpS P ρ (Builtin.firstCells (Dat.k α) xs.length v) σ Q:=by
 obtain⟨a,len,cap,B,H,I,_,x⟩:=Cs.1 hv
 subst B
 cases hx:xs with
 | nil =>
  subst hx
  have:=h [] rfl
  cases a with
  | none=>exact this
  | some ad =>
   show wpS P ρ (loadCells ad (0*Dat.k α)) σ Q
   rw[Aqc];exact this
 | cons y ys =>
  rw[←hx]
  obtain⟨b,off,F,_⟩:=x 0 y (by rw[hx];rfl)
  subst F
  have key:∀(m:Nat),m≤xs.length→∃cs:List Value,Rows ρ cs (xs.drop (xs.length-m))∧∀j w,cs[j]?=some w→∃o,ρ b=some o∧Gy o (off+(xs.length-m)*Dat.k α+j)=some w:=by
   intro m
   induction m with
   | zero=>intro _;exact⟨[],by simp[Rows],fun j w hj=>by simp at hj⟩
   | succ m ih =>
    intro hm
    obtain⟨cs,d,e⟩:=ih (by omega)
    obtain⟨z,hz⟩:=Ed (xs:=xs) (i:=xs.length-(m+1)) (by omega)
    obtain⟨b',J,f,G,K,c,t',fz,q,rs,g,p,t,C⟩:=x _ z hz
    cases f
    cases g
    refine⟨q++cs,?_,fun j w hj=>?_⟩
    ·have n:xs.drop (xs.length-(m+1))=z::xs.drop (xs.length-m):=by
      rw[Avp (by omega)]
      congr 1
      ·have:=Ig.1 hz;exact this.2
      ·congr 1;omega
     rw[n]
     exact⟨q,cs,rfl,t,d⟩
    ·rw[List.getElem?_append]at hj
     have hl:=Dat.len t
     split at hj
     ·rename_i hlt
      refine⟨_,p,?_⟩
      have:(c.toList.drop (off+(xs.length-(m+1))*Dat.k α))[j]?=some w:=by rw[C,Ahm hlt];exact hj
      rw[Yx]at this
      simpa[Gy]using this
     ·rename_i hge
      obtain⟨o,D,E⟩:=e _ w hj
      refine⟨o,D,?_⟩
      rw[←E]
      congr 1
      rw[hl]at hge ⊢
      have:(xs.length-m)*Dat.k α=(xs.length-(m+1))*Dat.k α+Dat.k α:=by rw[show xs.length-m=(xs.length-(m+1))+1 by omega,Pp,Ael]
      omega
  obtain⟨cs,d,e⟩:=key xs.length (Et _)
  simp only[Aek,Vi,Aqc,Vn]at d e
  show wpS P ρ (loadCells ⟨b,off,none⟩ (xs.length*Dat.k α)) σ Q
  rw[←d.len]
  cases hcs:cs with
  | nil=>have:=h cs d;rw[hcs]at this;exact this
  | cons w ws =>
   rw[←hcs]
   obtain⟨o,f,_⟩:=e 0 w (by rw[hcs];rfl)
   refine Ff (a:=⟨b,off,none⟩) rfl (.inl f) cs 0 #[] (fun j u hj=>?_) ?_
   ·obtain⟨o',g,p⟩:=e j u hj
    rw[f]at g;cases g
    simpa using p
   ·have n:(#[]:Array Value)++cs.toArray=cs.toArray:=by simp
    rw[n];exact h cs d
theorem Vt:∀(r newLen c:Nat),c<newLen→Builtin.growBy newLen r c≤2*newLen+1000
 | 0,newLen,c,h=>by simp only[Builtin.growBy];omega
 | r+1,newLen,c,h=>by
  simp only[Builtin.growBy]
  split
  ·omega
  ·by_cases h2:c+(c+768)/4<newLen
   ·exact Vt r newLen _ h2
   ·have:∀k d,newLen≤d→d≤2*newLen+1000→Builtin.growBy newLen k d≤2*newLen+1000:=fun k d b a=>by
     cases k with
     | zero=>simpa[Builtin.growBy]using a
     | succ k=>simp only[Builtin.growBy];rw[if_pos b];exact a
    exact this r _ (by omega) (by omega)
theorem Alk{need cap:Nat}(h:cap<need):Builtin.nextslicecap need cap≤2*need+1000:=by
 unfold Builtin.nextslicecap
 split
 ·omega
 ·split
  ·omega
  ·exact Vt 4 need cap h
/-- The newest growing slice gets more elements. -/
theorem Gc{α:Type}[Dat α]{xs ys:List α}{gr:Own}{el el':TypeId}{z w:Value}{ti:TypeInfo}(hT:C.P.underlying t=some (.slice el))(hT':C.P.underlying t'=some (.slice el'))(hi:C.P.info? el=some ti)(hik:ti.size=Dat.k α)(hib:ti.bytes≤1000)(hz:ti.zero=some z)(hzk:z.cells.size=Dat.k α)
  (hx:Af e x=v) (hy:Af e y=w) (hv:Grow ρ el v xs gr) (hw:Val ρ w ys) (hlen:xs.length+ys.length<2^30)
  (h:∀v' gr',Grow ρ el v' (xs++ys) gr'→K v' ds ρ (gr'++σ)):wpS C.P ρ (execOp (Af e) ⟨dd,.call ⟨.builtin .append,#[x,y],#[t,t']⟩,ty,pos,af,g⟩) (gr++σ) (NextH C K rd ds ρ):=by
 have I:(#[x,y]:Array Operand).map (Af e) = #[v,w]:=by simp[hx,hy]
 show wpS C.P ρ (builtin .append #[t,t'] ty ((#[x,y]:Array Operand).map fun | .const _=>true|_=>false) ((#[x,y]:Array Operand).map (Af e))) _ _
 rw[I]
 show wpS C.P ρ ((Builtin.append_ #[t,t'] ty #[v,w]).bind fun v=>Sem.pure (Next.value v)) _ _
 refine Gd ?_
 obtain⟨ya,yl,yc,O,R,_,_,_⟩:=Cs.1 hw
 obtain⟨va,vl,vc,hvs⟩:∃va vl vc,v = .slice va vl vc∧vl=xs.length:=by
  rcases hv.2.2 with⟨b,c⟩|⟨r,cap,cs,rs,gb,b,_⟩
  ·exact⟨none,0,0,b,by rw[c];rfl⟩
  ·exact⟨_,_,_,b,rfl⟩
 obtain⟨hvs,hvl⟩:=hvs
 subst hvl
 have hGo:∀(Q:Value→Own→Prop),(∀v' gr',Grow ρ el v' (xs++ys) gr'→Q v' (gr'++σ))→wpS C.P ρ (Builtin.append_ #[t,t'] ty #[v,w]) (gr++σ) Q:=by
  intro Q hQ
  have m:∀{Q:Array Value→Own→Prop} {σ':Own},(∀cs,Rows ρ cs ys→Q cs.toArray σ')→wpS C.P ρ (Builtin.firstCells (Dat.k α) ys.length w) σ' Q:=fun hq=>Uw hw hq
  rw[O]at m ⊢
  rw[hvs]
  unfold Builtin.append_
  show wpS C.P ρ ((underlying t).bind _) _ _
  rw[Ad]
  refine Az hT ?_
  show wpS C.P ρ ((sizeOf el).bind _) _ _
  rw[Ad]
  refine Dx ⟨ti,hi,hik⟩ ?_
  show wpS C.P ρ ((underlying t').bind _) _ _
  rw[Ad]
  refine Az hT' ?_
  rw[←R]at m ⊢
  have M:∀{Q:Array Value→Own→Prop},(∀cs,Rows ρ cs xs→Q cs.toArray (gr++σ))→wpS C.P ρ (Builtin.firstCells (Dat.k α) xs.length (.slice va xs.length vc)) (gr++σ) Q:=fun {Q} hq=>by
   rcases hv.2.2 with⟨b,c⟩|⟨r,cap,cs,rs,gb,b,c,d,n,H⟩
   ·subst c
    rw[hvs]at b
    simp only[Dy,Value.slice.injEq]at b
    obtain⟨rfl,-,rfl⟩:=b
    exact hq [] rfl
   ·rw[hvs]at b;cases b
    show wpS C.P ρ (loadCells ⟨r,0,none⟩ (xs.length*Dat.k α)) _ _
    rw[←d.len]
    refine Ff (a:=⟨r,0,none⟩) (o:=.cells (cs++rs).toArray el (0,0)) rfl (.inr (by rw[c];simp)) cs 0 #[] (fun j u hj=>?_) ?_
    ·simp only[Gy,Po,Ib]
     rw[Ahm (Ig.1 hj).1];exact hj
    ·have B:(#[]:Array Value)++cs.toArray=cs.toArray:=by simp
     rw[B];exact hq cs d
  by_cases hn:xs.length+ys.length≤vc
  ·show wpS C.P ρ (if xs.length+ys.length≤vc then (Builtin.firstCells (Dat.k α) ys.length (.slice ya ys.length yc)).bind _ else _) _ _
   rw[if_pos hn,Ad]
   refine m fun cs' f=>?_
   rcases hv.2.2 with⟨b,c⟩|⟨r,cap,cs,rs,gb,b,c,d,n,H⟩
   ·subst c
    rw[hvs]at b
    simp only[Dy,Value.slice.injEq]at b
    obtain⟨rfl,-,rfl⟩:=b
    have T:ys=[]:=Aem (by simpa using hn)
    subst T
    exact hQ _ gr ⟨hv.1,by simp,.inl ⟨rfl,rfl⟩⟩
   ·rw[hvs]at b;cases b
    show wpS C.P ρ ((storeCells ((⟨r,0,none⟩:Addr).add (xs.length*Dat.k α)) cs'.toArray.toList).bind _) _ _
    rw[Ad,Ld,App,Po]
    have hl:xs.length*Dat.k α+cs'.length≤(cs++rs).length:=by
     rw[n,f.len,←Pp];exact Apo _ hn
    refine Ns (r:=r) (i:=0) cs' ⟨r,xs.length*Dat.k α,none⟩ 0 (cs++rs) (gr++σ) rfl rfl f.sgl (by rw[c];rfl) (by simpa using hl) ?_
    have D:over (cs++rs) (xs.length*Dat.k α+0) cs'=(cs++cs')++(cs++rs).drop (xs.length*Dat.k α+cs'.length):=by
     rw[Vn,Qe _ _ _ hl,←d.len,Aqi,lZ9]
    have E:(gr++σ).set 0 (r,Res.obj (.cells (over (cs++rs) (xs.length*Dat.k α+0) cs').toArray el (0,0)))=((r,Res.obj (.cells ((cs++cs')++(cs++rs).drop (xs.length*Dat.k α+cs'.length)).toArray el (0,0)))::gb)++σ:=by
     rw[c,D];rfl
    simp only[]
    rw[E]
    refine hQ _ _ ⟨fun p hp=>?_,by rw[lZ1];omega,.inr ⟨r,vc,cs++cs',_,gb,by rw[lZ1],rfl,d.append f,?_,by rw[lZ1];exact hn⟩⟩
    ·rcases lZ8.1 hp with rfl|hp
     ·exact⟨_,rfl⟩
     ·exact hv.1 p (by rw[c];exact lZ0 _ hp)
    ·rw[lZ1,lZ1,En,←n,d.len]
     omega
  ·show wpS C.P ρ (if xs.length+ys.length≤vc then _ else (typeInfo el).bind _) _ _
   rw[if_neg hn,Ad]
   refine Gj hi ?_
   have J:¬(((xs.length+ys.length:Nat):Int)>IntKind.i64.max∧((false=true)∨ti.bytes=0)):=by
    intro⟨b,_⟩
    have:IntKind.i64.max=9223372036854775807:=by simp[IntKind.max,IntKind.signed,IntKind.bits]
    omega
   show wpS C.P ρ (if ((xs.length+ys.length:Nat):Int)>IntKind.i64.max∧((false=true)∨ti.bytes=0) then _ else (typeInfo el).bind _) _ _
   rw[if_neg J,Ad]
   refine Gj hi ?_
   have L:¬(Builtin.nextslicecap (xs.length+ys.length) vc*ti.bytes>2^48):=by
    have b:=Alk (need:=xs.length+ys.length) (cap:=vc) (by omega)
    have c:Builtin.nextslicecap (xs.length+ys.length) vc*ti.bytes≤(2*(xs.length+ys.length)+1000)*1000:=Aey b hib
    omega
   show wpS C.P ρ (if Builtin.nextslicecap (xs.length+ys.length) vc*ti.bytes>2^48 then _ else (choose (.appendCap (xs.length+ys.length) vc el)).bind _) _ _
   rw[if_neg L,Ad]
   show (if (Question.appendCap (xs.length+ys.length) vc el).forced then _ else ∀tt,_)
   rw[if_neg (by simp[Question.forced])]
   intro tt
   have q:xs.length+ys.length≤(Question.appendCap (xs.length+ys.length) vc el).cut tt:=by simp[Question.cut]
   generalize (Question.appendCap (xs.length+ys.length) vc el).cut tt=nc at q
   show wpS C.P ρ ((typeInfo el).bind _) _ _
   rw[Ad]
   refine Gj hi ?_
   show wpS C.P ρ ((askRoom (nc*ti.bytes)).bind _) _ _
   rw[Ad]
   have N:∀{Q:Unit→Own→Prop} {σ':Own},Q () σ'→wpS C.P ρ (askRoom (nc*ti.bytes)) σ' Q:=fun hq=>by
    unfold askRoom
    split
    ·exact⟨rfl,hq⟩
    ·exact hq
   refine N ?_
   show wpS C.P ρ ((Builtin.firstCells (Dat.k α) xs.length (.slice va xs.length vc)).bind _) _ _
   rw[Ad]
   refine M fun cs hcs=>?_
   show wpS C.P ρ ((Builtin.firstCells (Dat.k α) ys.length (.slice ya ys.length yc)).bind _) _ _
   rw[Ad]
   refine m fun cs' f=>?_
   show wpS C.P ρ ((zeroValue el).bind _) _ _
   rw[Ad]
   refine Jz ⟨ti,hi,hz⟩ ?_
   show wpS C.P ρ ((newRow el (cs.toArray++cs'.toArray++Builtin.zeroCells z.cells (nc-(xs.length+ys.length)))).bind _) _ _
   rw[Ad]
   refine Ik fun r=>?_
   have F:(cs.toArray++cs'.toArray++Builtin.zeroCells z.cells (nc-(xs.length+ys.length)))=((cs++cs')++(Builtin.zeroCells z.cells (nc-(xs.length+ys.length))).toList).toArray:=by
    apply Array.ext';simp
   rw[F]
   refine hQ _ ((r,Res.obj (.cells ((cs++cs')++(Builtin.zeroCells z.cells (nc-(xs.length+ys.length))).toList).toArray el (0,0)))::gr) ⟨fun p hp=>?_,by rw[lZ1];omega,.inr ⟨r,nc,cs++cs',_,gr,by rw[lZ1],rfl,hcs.append f,?_,by rw[lZ1];exact q⟩⟩
   ·rcases lZ8.1 hp with rfl|hp
    ·exact⟨_,rfl⟩
    ·exact hv.1 p hp
   ·have G:(Builtin.zeroCells z.cells (nc-(xs.length+ys.length))).toList.length=(nc-(xs.length+ys.length))*Dat.k α:=by
     simp[Builtin.zeroCells,hzk]
    rw[lZ1,lZ1,hcs.len,f.len,G,←Pp,←Pp]
    congr 1;omega
 exact hGo _ h
/-- What has grown is only read from here on. -/
theorem Grow.val{α:Type}[Dat α]{ρ':Ro}{el:TypeId}{v:Value}{xs:List α}{r cap:Nat}{cs rs:List Value}(hl:xs.length<2^60)(h1:v = .slice (some ⟨r,0,none⟩) xs.length cap)(h3:Rows ρ' cs xs)(h5:xs.length≤cap)(hr:ρ' r=some (.cells (cs++rs).toArray el (0,0))):Val ρ' v xs:=by
 rw[h1];exact Zv hr h3 hl h5
theorem drops{gb σ:Own}(h:∀p∈gb,∃o,p.2=Res.obj o):Ghost ρ (gb++σ) ρ σ:=by
 induction gb with
 | nil=>exact .refl
 | cons p gb ih =>
  obtain⟨o,ho⟩:=h p mC
  obtain⟨r,x⟩:=p
  simp only at ho;subst ho
  exact Ghost.drop.trans (ih fun q hq=>h q (lZ0 _ hq))
theorem Hc{V:Hn}{α:Type}[Dat α]{bb:FB}{nn:Nat}{Q':Hu}{el:TypeId}{xs:List α}{gr:Own}{c:Code}(hg:Grow ρ el v xs gr)(h:∀ρ',Ro.le ρ ρ'→Val ρ' v xs→WpP C V bb nn c Q' e ds ρ' σ):WpP C V bb nn c Q' e ds ρ (gr++σ):=by
 rcases hg.2.2 with⟨a,b⟩|⟨r,cap,cs,rs,gb,a,b,d,g,f⟩
 ·refine Aj (drops hg.1) (h ρ .refl ?_)
  rw[a,b];exact Gx
 ·subst b
  show WpP C V bb nn c Q' e ds ρ ((r,_)::(gb++σ))
  refine Wo fun ρ' hle hr=>Aj (drops fun p hp=>hg.1 p (lZ0 _ hp)) (h ρ' hle (Grow.val hg.2.1 a (d.mono hle) f hr))
theorem Ca{V:Hn}{α:Type}[Dat α]{Q:Env→List Deferred→Ro→Own→Prop}{bb:FB}{nn:Nat}{el:TypeId}{xs:List α}{gr:Own}(hg:Grow ρ el v xs gr)(h:∀ρ',Ro.le ρ ρ'→Val ρ' v xs→Db C V bb nn l₀ rest Q e ds ρ' σ):Db C V bb nn l₀ rest Q e ds ρ (gr++σ):=by
 rcases hg.2.2 with⟨a,b⟩|⟨r,cap,cs,rs,gb,a,b,c,f,d⟩
 ·refine Bj (drops hg.1) (h ρ .refl ?_)
  rw[a,b];exact Gx
 ·subst b
  show Db C V bb nn l₀ rest Q e ds ρ ((r,_)::(gb++σ))
  refine Tu fun ρ' hle hr=>Bj (drops fun p hp=>hg.1 p (lZ0 _ hp)) (h ρ' hle (Grow.val hg.2.1 a (c.mono hle) d hr))
theorem Lr{α:Type}[Dat α]{Q:Env→List Deferred→Ro→Own→Prop}{bb:FB}{pz:List Nat}{ρ₀:Ro}{fuel:Nat}{li:List Bool}{el:TypeId}{xs:List α}{gr:Own}(hg:Grow ρ el v xs gr)
  (h:∀ρ',Ro.le ρ ρ'→Val ρ' v xs→El C bb l₀.toArray Q pz (leS ρ₀) (fuel+1) li.toArray e ds ρ' σ):El C bb l₀.toArray Q pz (leS ρ₀) (fuel+1) li.toArray e ds ρ (gr++σ):=by
 rcases hg.2.2 with⟨a,b⟩|⟨r,cap,cs,rs,gb,a,b,c,f,d⟩
 ·refine Ej (drops hg.1) id (h ρ .refl ?_)
  rw[a,b];exact Gx
 ·subst b
  show El C bb l₀.toArray Q pz (leS ρ₀) (fuel+1) li.toArray e ds ρ ((r,_)::(gb++σ))
  refine Agi fun ρ' hle hr=>Ej (drops fun p hp=>hg.1 p (lZ0 _ hp)) id (h ρ' hle (Grow.val hg.2.1 a (c.mono hle) d hr))
theorem Bs{α:Type}[Dat α]{xs:List α}{r len:Nat}{cs:List Value}{el:TypeId}(h:Rows ρ cs xs)(hl:xs.length=len)(hs:len<2^60):Grow ρ el (.slice (some ⟨r,0,none⟩) len len) xs [(r,.obj (.cells cs.toArray el (0,0)))] :=
 ⟨fun p hp=>by rw[Lc]at hp;exact⟨_,by rw[hp]⟩,by omega,.inr ⟨r,len,cs,[],[],by rw[hl],by simp,h,by rw[Lz,h.len,hl],by omega⟩⟩
/-- The parts of a literal,one by one. -/
theorem Adk{e:Env}:∀{os:List Operand} {vs:List Value} (k:Nat),EvL e os vs→((os.zipIdx k).map fun p=>(p.2,p.1)).map (fun p=>(p.1,Af e p.2))=((vs.zipIdx k).map fun p=>(p.2,p.1))
 | [],[],_,_=>rfl
 | o::os,v::vs,k,⟨h1,h2⟩=>by
  have:=Adk (k+1) h2
  simp only[Bdm,Hd,List.map_map]at this ⊢
  rw[h1,this]
 | [],_::_,_,h=>h.elim
 | _::_,[],_,h=>h.elim
theorem Dk{e:Env}{os:List Operand}{vs:List Value}(h:EvL e os vs):((os.zipIdx).map fun p=>(p.2,p.1)).map (fun p=>(p.1,Af e p.2))=(vs.zipIdx.map fun p=>(p.2,p.1)):=Adk 0 h
theorem Fy{α:Type}[Dat α]{xs ys:List α}{el:TypeId}{gr:Own}(h:xs=ys)(hg:Grow ρ el v xs gr):Grow ρ el v ys gr:=h ▸ hg
theorem Val.cast{α:Type}[Dat α]{a a':α}(h:a=a')(hv:Val ρ v a):Val ρ v a':=h ▸ hv
theorem Abz{α:Type}[Dat α]{a:α}{w:Value}(h:w=v)(hv:Val ρ v a):Val ρ w a:=h ▸ hv
theorem Ajw{α:Type}[Dat α]{xs:List α}{el el':TypeId}{gr:Own}(hT:P.underlying t=some (.slice el'))(hx:Af e x=v)(hv:Grow ρ el v xs gr):Yld P ρ e (.call ⟨.builtin .len,#[x],#[t]⟩) ty (.int .i64 (xs.length:Int)):=by
 obtain⟨a,cap,b⟩:∃a cap,v = .slice a xs.length cap:=by
  rcases hv.2.2 with⟨b,c⟩|⟨r,cap,cs,rs,gb,b,_⟩
  ·exact⟨none,0,by rw[b,c];rfl⟩
  ·exact⟨_,_,b⟩
 refine Mc (args:=[x]) (vs:=[v]) (s:=fun _=>Builtin.len_ #[t] ty #[v]) (by simp[hx]) (fun _=>rfl) fun ρ' σ cs _=>?_
 show wpS P ρ' ((underlying t).bind _) σ _
 rw[Ad]
 refine Az hT ?_
 rw[b]
 exact⟨rfl,rfl⟩
end
end
section
open Go
theorem Aec(a b:ByteArray):(a==b)=(a.toList==b.toList):=by
 rw[ByteArray.toList_eq,ByteArray.toList_eq]
 cases h:(a==b) with
 | true =>
  have:a.data==b.data:=h
  rw[eq_of_beq this];simp
 | false =>
  have:(a.data==b.data)=false:=h
  symm
  rw[Bool.eq_false_iff]
  intro c
  rw[Bool.eq_false_iff]at this
  exact this (by rw[Array.toList_inj.1 (eq_of_beq c)];simp)
section
variable{C:Ctx}{b:FB}{n:Nat}{l₀ rest:List Oper}{e:Env}{ds:List Deferred}{ρ:Ro}{σ:Own}{K:Value→List Deferred→Ro→Own→Prop}{rd:Option Nat}{dd:Option Tmp}
variable{ty:TypeId}{pos:String}{af:Array Edge}{g:Option (Nat×Bool)}{x y u:Operand}{v p:Value}{t t':TypeId}{P:Program}
theorem Qo{P:Program}{kt:TypeId}{k:ByteArray}{em:Bool}{m:Nat}(hk:P.underlying kt=some .string){Q:Unit→Own→Prop}(h:Q () σ):wpS P ρ (Instr.checkKey em (m+1) kt (.string k)) σ Q:=by
 show wpS P ρ ((underlying kt).bind _) σ Q
 rw[Ad]
 exact Az hk h
/-- Called with such data,the function yields p of it and leaves everything as it was. -/
def Su{α:Type}[Dat α](f:Value)(p:α→Bool):Prop :=
 ∃(k:FuncId) (fn:Func) (caps:List Value),f = .func (.func k) #[] caps.toArray∧Tryz.prog.funcs[k]?=some fn∧(fn.name == "runtime.NumGoroutine")=false∧fn.body.isNone=false ∧
  ∀(mn:Bool) (X:Frame→List Frame→Ro→Own→Cy→Prop) (ρ:Ro) (σ:Own) (v:Value) (x:α),Val ρ v x→CallsH (CX mn X) k (v::caps).toArray ρ σ (fun w ρ' σ'=>ρ'=ρ∧σ'=σ∧w = .bool (p x))
theorem Ajp{α:Type}[Dat α]{mn:Bool}{X:Frame→List Frame→Ro→Own→Cy→Prop}{f:Value}{pr:α→Bool}{a:α}{tys:Array TypeId}(hf:Su f pr)(hx:Af e x=f)(hy:Af e y=v)(hv:Val ρ v a)(h:K (.bool (pr a)) ds ρ σ) :
  wpS (CX mn X).P ρ (execOp (Af e) ⟨dd,.call ⟨.value x,#[y],tys⟩,ty,pos,af,g⟩) σ (NextH (CX mn X) K rd ds ρ):=by
 obtain⟨k,fn,b,rfl,d,i,j,m⟩:=hf
 have p:(#[y]:Array Operand).map (Af e) = #[v]:=by simp[hy]
 show wpS Tryz.prog ρ ((Deferred.ofValue (Af e x) ((#[y]:Array Operand).map (Af e))).bind _) σ _
 rw[hx,p]
 show wpS Tryz.prog ρ (callFunc k ((#[] ++ #[v])++b.toArray)) σ _
 have c:((#[] ++ #[v])++b.toArray:Array Value)=(v::b).toArray:=by simp
 rw[c]
 have n:=(m mn X ρ σ v a hv).mono (R':=fun w ρ' σ'=>K w ds ρ' σ') (by rintro w ρ' σ' ⟨rfl,rfl,rfl⟩;exact h)
 exact Mr (P:=Tryz.prog) d i j n
instance:Dat UInt8 where
 k:=1
 agg:=false
 rep _ cs x:=cs=[.int .u8 (x.toNat:Int)]
 mono _ h:=h
 len h:=by rw[h];rfl
 sgl h:=by rw[h];simp[single]
 one _:=rfl
theorem Uq{ρ:Ro}{v:Value}{x:UInt8}:Val ρ v x↔v = .int .u8 (x.toNat:Int) :=
 ⟨fun⟨cs,a,b⟩=>by rw[b,show cs=[.int .u8 (x.toNat:Int)] from a];rfl,fun h=>⟨[v],by rw[h];rfl,rfl⟩⟩
theorem ty5:GoTy Tryz.prog 5 UInt8:=⟨⟨_,Brv,rfl⟩,⟨_,Ab Bsp,rfl⟩⟩
theorem Aaf{P:Program}{a:UInt8}(hT:GoTy P t UInt8)(hx:Af e x=p)(hp:At ρ p a):Yld P ρ e (.load t x) ty (.int .u8 (a.toNat:Int)):=by
 obtain⟨v,c,b⟩:=Ax (ty:=ty) hT hx hp
 rw[Uq.1 c]at b;exact b
theorem Ug{ρ:Ro}:∀(l:List UInt8),Rows ρ (l.map fun c=>Value.int .u8 (c.toNat:Int)) l
 | []=>rfl
 | c::l=>⟨[_],_,rfl,rfl,Ug l⟩
theorem Alh{V:Hn}{Q:Env→List Deferred→Ro→Own→Prop}{bb:FB}{nn r cap:Nat}{cs rs:List Value}{fz:Nat×Nat}{s:ByteArray}(hr:Rows ρ cs s.data.toList)(hc:s.size≤cap)(hs:s.size<2^60)(h:∀ρ',Ro.le ρ ρ'→Val ρ' (.slice (some ⟨r,0,none⟩) s.size cap) s.data.toList→Db C V bb nn l₀ rest Q e ds ρ' σ) :
  Db C V bb nn l₀ rest Q e ds ρ ((r,.obj (.cells (cs++rs).toArray 5 fz))::σ) :=
 Tu fun ρ' hle hh=>h ρ' hle (by
  have b:s.size=s.data.toList.length:=by rw[Array.length_toList];rfl
  rw[b]
  exact Zv hh (hr.mono hle) (by rw[←b];exact hs) (by rw[←b];exact hc))
/-- A string's bytes,as a new slice that is only read. -/
theorem Amd{s:ByteArray}(hT:C.P.underlying t=some .string)(hT':C.P.underlying t'=some (.slice 5))(h5:C.P.underlying 5=some (.int .u8))(hx:Af e x = .string s)(hs:s.size<2^60)
  (h:∀r cap cs rs fz,Rows ρ cs s.data.toList→s.size≤cap→K (.slice (some ⟨r,0,none⟩) s.size cap) ds ρ ((r,.obj (.cells (cs++rs).toArray 5 fz))::σ)) :
  wpS C.P ρ (execOp (Af e) ⟨dd,.convert t t' x,ty,pos,af,g⟩) σ (NextH C K rd ds ρ):=by
 show wpS C.P ρ ((convert t t' (Af e x)).bind _) σ _
 refine Gd ?_
 rw[hx]
 show wpS C.P ρ ((underlying t).bind _) σ _
 rw[Ad]
 refine Az hT ?_
 show wpS C.P ρ ((underlying t').bind _) σ _
 rw[Ad]
 refine Az hT' ?_
 show wpS C.P ρ ((underlying 5).bind _) σ _
 rw[Ad]
 refine Az h5 ?_
 show wpS C.P ρ ((choose (.appendCap s.size 0 5)).bind _) σ _
 rw[Ad]
 show (if (Question.appendCap s.size 0 5).forced then _ else ∀tt,_)
 rw[if_neg (by simp[Question.forced])]
 intro tt
 have a:s.size≤(Question.appendCap s.size 0 5).cut tt:=by simp[Question.cut]
 generalize (Question.appendCap s.size 0 5).cut tt=nc at a
 show wpS C.P ρ ((newRow 5 ((s.data.map fun b=>Value.int .u8 b.toNat)++Array.replicate (nc-s.size) (.int .u8 0))).bind _) σ _
 rw[Ad]
 refine Ik fun r=>?_
 have d:((s.data.map fun (b:UInt8)=>Value.int .u8 (b.toNat:Int))++Array.replicate (nc-s.size) (Value.int .u8 0))=((s.data.toList.map fun (c:UInt8)=>Value.int .u8 (c.toNat:Int))++List.replicate (nc-s.size) (Value.int .u8 0)).toArray:=by
  apply Array.ext';simp
 rw[d]
 show wpS C.P ρ ((markStringish ⟨r,0,none⟩).bind _) _ _
 rw[Ad]
 show wpS C.P ρ ((shape r).bind _) _ _
 rw[Ad]
 refine⟨_,.inr mC,?_⟩
 refine .inr ⟨by simp,0,_,_,0,0,rfl,?_⟩
 exact h r nc _ _ _ (Ug _) a
end
end
section
open Go
section
variable{mn:Bool}{X:Frame→List Frame→Ro→Own→Cy→Prop}{b:FB}{n:Nat}{e:Env}{ds:List Deferred}{ρ:Ro}{σ:Own}{K:Value→List Deferred→Ro→Own→Prop}{rd:Option Nat}{dd:Option Tmp}
variable{ty:TypeId}{pos:String}{af:Array Edge}{g:Option (Nat×Bool)}{x y:Operand}{v p:Value}{t t':TypeId}
theorem Afw{P:Program}{l i:Nat}{L:Loop}{Q:Next→Own→Prop}(hi:σ[i]?=some (l,.obj (.loop L))){args:Array Value}(hs:args.size=L.params.size)
  (h:Q (.round l L.fn ((L.params.zip args).foldl (fun tmps (t,a)=>tmps.setIfInBounds t a) L.tmps) L.assign L.body) σ):wpS P ρ (Instr.yield l args) σ Q:=by
 show wpS P ρ ((Instr.getLoop l).bind _) σ Q
 rw[Ad]
 show wpS P ρ ((getObj l).bind _) σ _
 rw[Ad]
 refine⟨_,.inr (lZ6 hi),rfl,?_⟩
 show wpS P ρ (if args.size≠L.params.size then _ else _) σ Q
 rw[if_neg (by simpa using hs)]
 exact h
theorem Vd{P:Program}{k:FuncId}{fn:Func}{args:Array Value}(h1:P.funcs[k]?=some fn)(h2:(fn.name == "runtime.NumGoroutine")=false)(h3:fn.body.isNone=false)(W:World)(es:Array Event):(callFunc k args).runT P W es=(.ok (.enter k args) W,es):=by
 show (program.bind _:Sem Next).runT P W es=_
 rw[Sem.runT_bind']
 show Sem.runT P (match P.funcs[k]? with|none=>_|some fn=>_) W es=_
 rw[h1]
 simp only[h2,h3]
 rfl
theorem Abv{P:Program}{main:Bool}{b:FB}{tm:Array Value}{ds:List Deferred}{f:Operand}{ps:Array Tmp}{assign body:Code}{k:List Item}{cs:List Frame}{kk:FuncId}{fn:Func}{caps:List Value}{W W':World}{lm:Nat×List Deferred}{es:Array Event}(hr:b.round=none)(hk:b.kind = .normal)
  (hf:(Fr b tm ds (.code (.rangeFunc f ps assign body)::k)).eval f = .func (.func kk) #[] caps.toArray) (h1:P.funcs[kk]?=some fn) (h2:(fn.name == "runtime.NumGoroutine")=false) (h3:fn.body.isNone=false)
  (hrun:(Instr.enterLoop b.fn tm ps assign body none).runT P W #[]=(.ok lm W',es)) :
  ∃es',stepG P main (Conc.G (Fr b tm ds (.code (.rangeFunc f ps assign body)::k)) cs) W = .go (Conc.G (Frame.enter P kk (Value.func (.yield lm.1) #[] #[]::caps).toArray .normal) (Fr b tm (lm.2++ds) (.inRangeFunc lm.1::k)::cs)) W' es'∧∀e∈es',Axo es e:=by
 obtain⟨l,a⟩:=lm
 have i:(b.kind==CallKind.early)=false:=by rw[hk];rfl
 have c:(Fr b tm (a++ds) (.inRangeFunc l::k)).eval f = .func (.func kk) #[] caps.toArray:=by
  rw[←hf];cases f<;>rfl
 have hi:(do let d ←resolve (Fr b tm (a++ds) (.inRangeFunc l::k)).eval {callee:=.value f,args:=#[.const (.func (.yield l) #[] #[])],argTypes:=#[]} 0;invoke d.target d.args:Sem Next).runT P W' #[]=(.ok (.enter kk (Value.func (.yield l) #[] #[]::caps).toArray) W',#[]):=by
  generalize hfr:Fr b tm (a++ds) (.inRangeFunc l::k)=fr at c
  have g:(do let d ←resolve fr.eval {callee:=.value f,args:=#[.const (.func (.yield l) #[] #[])],argTypes:=#[]} 0;invoke d.target d.args:Sem Next)=callFunc kk (Value.func (.yield l) #[] #[]::caps).toArray:=by
   show ((Deferred.ofValue (fr.eval f) ((#[.const (.func (.yield l) #[] #[])]:Array Operand).map fr.eval)).bind _)=_
   rw[c]
   show callFunc kk ((#[]++((#[.const (.func (.yield l) #[] #[])]:Array Operand).map fr.eval))++caps.toArray)=_
   congr 1
   simp[Frame.eval]
  rw[g];exact Vd h1 h2 h3 W' #[]
 refine⟨seen P b.fn es++seen P b.fn #[],?_,fun ev he=>?_⟩
 ·simp only[Fr,hr]at hi
  simp only[Conc.G,stepG,stepG.exec,Fr,hr,hrun,stepG.apply,if_true,hi,i,GStep.after]
  rfl
 ·rcases Array.mem_append.1 he with h|h
  ·exact Lh h
  ·have:=(Lh h).1;simp at this
theorem Vj{P:Program}{fn:FuncId}{tm:Array Value}{ps:Array Tmp}{assign body:Code}{Q:Nat×List Deferred→Own→Prop}
  (h:∀r l,Q (l,[{target:=.collected r,args:=#[]}]) ((l,.obj (.loop {state:=.ready,pending:=none,fn,tmps:=tm,params:=ps,assign,body,defers:=r}))::(r,.obj (.deferred (some [])))::σ)) :
  wpS P ρ (Instr.enterLoop fn tm ps assign body none) σ Q:=by
 show wpS P ρ ((newObj (.deferred (some []))).bind _) σ Q
 rw[Ad]
 refine .inl ⟨rfl,fun r=>?_⟩
 show wpS P ρ ((newObj (.loop {state:=.ready,pending:=none,fn,tmps:=tm,params:=ps,assign,body,defers:=r})).bind _) _ Q
 rw[Ad]
 exact .inl ⟨rfl,fun l=>h r l⟩
theorem Zz{P:Program}{l:Nat}{L:Loop}{Q:Option Code→Own→Prop}{σ:Own}(hb:(L.state == .busy)=false)(h:Q L.pending ((l,.obj (.loop {L with state:=.exhausted}))::σ)):wpS P ρ (Instr.endLoop l) ((l,.obj (.loop L))::σ) Q:=by
 show wpS P ρ ((Instr.getLoop l).bind _) _ Q
 rw[Ad]
 show wpS P ρ ((getObj l).bind _) _ _
 rw[Ad]
 refine⟨_,.inr mC,rfl,?_⟩
 show wpS P ρ (if L.state == .busy then _ else _) _ Q
 rw[if_neg (by simp[hb])]
 exact⟨rfl,0,_,rfl,rfl,h⟩
end
end
section
open Go
section
variable{C:Ctx}{e:Env}{ds:List Deferred}{ρ:Ro}{σ:Own}{K:Value→List Deferred→Ro→Own→Prop}{rd:Option Nat}{dd:Option Tmp}
variable{ty:TypeId}{pos:String}{af:Array Edge}{g:Option (Nat×Bool)}{x y:Operand}{v p:Value}{t t':TypeId}
theorem Asg{el:TypeId}{z:Value}{ti:TypeInfo}{n:Nat}(hT:C.P.underlying t=some (.slice el))(hi:C.P.info? el=some ti)(hik:ti.size=1)(hib:ti.bytes≤1000)(hz:ti.zero=some z)(hzk:z.cells = #[z])
  (hx:Af e x = .int .i64 (n:Int)) (hy:Af e y = .int .i64 (n:Int)) (hn:n<1073741824) (h:∀r,K (.slice (some ⟨r,0,none⟩) n n) ds ρ ((r,.obj (.cells (List.replicate n z).toArray el (0,0)))::σ)) :
  wpS C.P ρ (execOp (Af e) ⟨dd,.makeSlice t x y,ty,pos,af,g⟩) σ (NextH C K rd ds ρ):=by
 show wpS C.P ρ ((Instr.makeSlice t (Af e x) (Af e y)).bind _) σ _
 refine Gd ?_
 rw[hx,hy]
 have hw:IntKind.i64.wrap (n:Int)=(n:Int):=Bo rfl (by omega) (by omega)
 unfold Instr.makeSlice
 show wpS C.P ρ ((underlying t).bind _) σ _
 rw[Ad]
 refine Az hT ?_
 show wpS C.P ρ ((typeInfo el).bind _) σ _
 rw[Ad]
 refine Gj hi ?_
 dsimp only
 simp only[hw]
 have hb:(ti.bytes:Int)*n≤1073741824000:=by
  have d:ti.bytes*n≤1000*1073741824:=Aey hib (by omega)
  have f:((ti.bytes*n:Nat):Int)≤((1000*1073741824:Nat):Int):=Int.ofNat_le.2 d
  rw[Int.natCast_mul]at f
  omega
 rw[if_neg (by simp only[Bool.or_eq_true,decide_eq_true_eq];omega)]
 simp only[Amw]
 show wpS C.P ρ ((askRoom (n*ti.bytes)).bind _) σ _
 rw[Ad]
 have j:∀{Q:Unit→Own→Prop} {σ':Own},Q () σ'→wpS C.P ρ (askRoom (n*ti.bytes)) σ' Q:=fun hq=>by
  unfold askRoom
  split
  ·exact⟨rfl,hq⟩
  ·exact hq
 refine j ?_
 show wpS C.P ρ ((sizeOf el).bind _) σ _
 rw[Ad]
 refine Dx ⟨ti,hi,hik⟩ ?_
 split
 ·rename_i h0
  have c:n=0:=by omega
  subst c
  have a:∀zz:Array Value,((Array.range (0*1)).map fun i=>zz[i%zz.size]!)=(List.replicate 0 z).toArray:=fun zz=>by apply Array.ext';simp
  show wpS C.P ρ ((newRow el ((Array.range (0*1)).map fun i=>(#[]:Array Value)[i%(#[]:Array Value).size]!)).bind _) σ _
  rw[a,Ad]
  exact Ik fun r=>h r
 ·show wpS C.P ρ ((zeroValue el).bind _) σ _
  rw[Ad]
  refine Jz ⟨ti,hi,hz⟩ ?_
  show wpS C.P ρ ((newRow el ((Array.range (n*1)).map fun i=>z.cells[i%z.cells.size]!)).bind _) σ _
  have b:((Array.range (n*1)).map fun i=>z.cells[i%z.cells.size]!)=(List.replicate n z).toArray:=by
   rw[hzk]
   apply Array.ext'
   simp only[Bdi,Air,Array.toList_range,Aaw,lZ2,Dy,Po,Nat.mod_one,List.map_const',List.length_range]
   simp
  rw[b,Ad]
  exact Ik fun r=>h r
/-- One element of an owned row is stored. -/
theorem Zx{β:Type}{f:β→Value}{xs:List β}{bv:β}{r i j:Nat}(hz:∃i,C.P.info? t=some i∧i.size=1)(hx:Af e x = .pointer (some ⟨r,i,none⟩))(hy:Af e y=f bv)(hs:single (f bv)=true)
  (hj:σ[j]?=some (r,.obj (.cells (xs.map f).toArray t' (0,0)))) (hi:i<xs.length) (h:K undef ds ρ (σ.set j (r,.obj (.cells ((xs.set i bv).map f).toArray t' (0,0))))) :
  wpS C.P ρ (execOp (Af e) ⟨dd,.store t x y,ty,pos,af,g⟩) σ (NextH C K rd ds ρ):=by
 refine Li (vs:=[f bv]) (c:=xs.map f) (c':=(xs.set i bv).map f) hz hx hy ?_ rfl (by simpa using hs) hj (by simpa using Nat.succ_le_of_lt hi) ?_ h
 ·revert hs
  cases f bv<;>intro hs<;>first|rfl|(simp[single]at hs)
 ·simp only[over,Aeh]
/-- One element of an owned row is read. -/
theorem Adu{β:Type}{f:β→Value}{xs:List β}{bv:β}{r i j:Nat}(hT:∃d,C.P.underlying t=some d∧Qv d=false)(hx:Af e x = .pointer (some ⟨r,i,none⟩))(hj:σ[j]?=some (r,.obj (.cells (xs.map f).toArray t' (0,0))))(hb:xs[i]?=some bv)(h:K (f bv) ds ρ σ) :
  wpS C.P ρ (execOp (Af e) ⟨dd,.load t x,ty,pos,af,g⟩) σ (NextH C K rd ds ρ) :=
 Dt hT hx hj (by rw[Oj,hb];rfl) h
end
end
section
open Go Go.Conc
open Go.ConcN (sumTo sumTo_upd upd_ne upd_same)
/-- It stands at a send of v. -/
def Amv(P:Program)(c:Nat)(v z:Value)(fr:Frame)(cs:List Frame):Prop :=
 ∀W,stepG P false (G fr cs) W = .comm (G fr cs) #[scase c v z] true .send W #[]
/-- It stands at the close,and only leaves behind it. -/
def Acm(P:Program)(c:Nat)(fr:Frame)(cs:List Frame):Prop :=
 mayWake P (G fr cs)=true∧∃n g',QuitsIn P n g'∧∀W s r tm,W.heap[c]?=some (.chan 0 #[] false s r tm) →
  stepG P false (G fr cs) W = .go g' (W.setChan c 0 #[] true s r tm) #[⟨.obj c,false,true⟩,⟨.obj c,true,true⟩]
def noX:Frame→List Frame→Ro→Own→Cy→Prop:=fun _ _ _ _ _=>False
/-- A worker's context. -/
def Wn(P:Program):Ctx:=⟨P,false,noX⟩
/-- A sender: these values,then the close. -/
inductive SendI(P:Program)(c:Nat):List Value→Frame→List Frame→Ro→Own→Prop
 | ghost {vs fr cs ρ σ ρ' σ'}:Ghost ρ σ ρ' σ'→SendI P c vs fr cs ρ' σ'→SendI P c vs fr cs ρ σ
 | step {vs fr cs ρ σ} (K:Frame→List Frame→Own→Prop):Aal (Wn P) fr cs ρ σ K→(∀fr' cs' σ',K fr' cs' σ'→SendI P c vs fr' cs' ρ σ')→SendI P c vs fr cs ρ σ
 | send {v vs z fr cs ρ σ}:Amv P c v z fr cs→SendI P c vs (fr.finish undef) cs ρ σ→SendI P c (v::vs) fr cs ρ σ
 | close {fr cs ρ σ}:Acm P c fr cs→SendI P c [] fr cs ρ σ
theorem SendI.of_goes{P:Program}{c:Nat}{vs:List Value}{S:Cy}{fr:Frame}{cs:List Frame}{ρ:Ro}{σ:Own}(h:GoesH (Wn P) S fr cs ρ σ)(hk:∀fr cs ρ σ,S fr cs ρ σ→SendI P c vs fr cs ρ σ):SendI P c vs fr cs ρ σ:=by
 induction h with
 | stop h=>exact hk _ _ _ _ h
 | ghost hg _ ih=>exact .ghost hg ih
 | step K h1 _ ih=>exact .step K h1 ih
 | ext K h1 _ _=>exact h1.elim
/-- Nothing is still to come from anybody. -/
structure NoRecv(σ:Own):Prop where
 recv:∀c vs,(c,Res.recv vs)∉σ
 crowd:∀c k Rs,(c,Res.crowd k Rs)∈σ→Rs=[]
theorem NoRecv.nil:NoRecv []:=⟨fun _ _ h=>(by cases h),fun _ _ _ h=>(by cases h)⟩
theorem NoRecv.of{σ σ':Own}(h:NoRecv σ)(hs:∀p∈σ',p∈σ∨(∃o,p.2=Res.obj o)∨p.2 = .chan):NoRecv σ' :=
  ⟨fun c vs hc => (hs _ hc).elim (h.recv c vs) fun a => a.elim (fun⟨o, a⟩ => by cases a) (fun a => by cases a),
   fun c k Rs hc=>(hs _ hc).elim (h.crowd c k Rs) fun a=>a.elim (fun⟨o,a⟩=>by cases a) fun a=>by cases a⟩
theorem Atx{σ:Own}{k:Nat}{o:Obj}(h:NoRecv σ):NoRecv ((k,Res.obj o)::σ):=h.of fun p hp=>(lZ8.1 hp).elim (fun e=>.inr (.inl ⟨o,by rw[e]⟩)) .inl
theorem NoRecv.trans{ρ:Ro}{σ σ':Own}{W W':World}(h:NoRecv σ)(ht:Trans ρ σ W σ' W'):NoRecv σ' :=
 ⟨fun c vs hc=>h.recv c vs ((ht.ends _ _).1 hc),fun c k Rs hc=>(ht.crowds c k Rs hc).elim (h.crowd c k Rs) fun x=>x.2⟩
theorem NoRecv.ghost{ρ ρ':Ro}{σ σ':Own}(h:NoRecv σ)(hg:Ghost ρ σ ρ' σ'):NoRecv σ' :=
 ⟨fun c vs hc=>h.recv c vs ((hg.ends _ _).1 hc),fun c k Rs hc=>h.crowd c k Rs (hg.crowds c k Rs hc)⟩
def Gg(P:Program)(d:Deferred):Frame:={(default:Frame) with fn:=P.funcs.size,defers:=[d],mode:=.panicking [goexitEntry]}
/-- It stands at a receive. -/
def Sv(P:Program)(c:Nat)(z:Value)(fr:Frame)(cs:List Frame):Prop :=
 ∀W,stepG P true (G fr cs) W = .comm (G fr cs) #[rcase c z] true (.recv true) W #[]
def Is(g:Goroutine)(fr:Frame)(cs:List Frame):Prop:=g.status = .running∧g.frame=fr∧g.callers=cs∧g.dying=none
theorem Is.step{P:Program}{main:Bool}{g:Goroutine}{fr:Frame}{cs:List Frame}(h:Is g fr cs)(W:World):stepG P main g W=stepG P main (G fr cs) W :=
 stepG_same h.2.1 h.2.2.1 h.2.2.2 W
theorem Is.of(fr:Frame)(cs:List Frame):Is (G fr cs) fr cs:=⟨rfl,rfl,rfl,rfl⟩
theorem Is.served{fr:Frame}{cs:List Frame}{g:Goroutine}(h:Is g fr cs)(v:Value):Is (Conc.served g v) (fr.finish v) cs:=⟨rfl,by simp[Conc.served,h.2.1],h.2.2.1,h.2.2.2⟩
def Acc(ρ:Ro)(σ:Own)(k:Nat)(wr:Bool):Prop:=(∃o,(k,Res.obj o)∈σ)∨(wr=false∧(ρ k).isSome=true)
def Lx:Loc→Option Nat
 | .cell a=>some a.block
 | .obj r=>some r
 | _=>none
def Akj(ρ:Ro)(σ:Own)(b:Touch):Prop:=b.kind = .plain∧∃k,Lx b.loc=some k∧Acc ρ σ k b.write
theorem Abe{ρ:Ro}{σ:Own}{es:Array Event}(h:∀e∈es,Wb ρ σ e)(g:Nat)(fn:FuncId)(pos:String) :
  Wordless (MemOp.ofEvents g fn pos es)∧∀op∈MemOp.ofEvents g fn pos es,op.g=g∧∀b,op.act.touch?=some b→Akj ρ σ b:=by
 rw[ofEvents_eq]
 refine⟨fun op hop=>?_,fun op hop=>?_⟩<;>obtain⟨e,he,rfl⟩:=Array.mem_map.1 hop
 ·refine ofEvent_noMark fun m hm=>?_
  rcases h e he with⟨a,c,_⟩|⟨r,c,_⟩|⟨m',c,d⟩
  ·rw[c]at hm;cases hm
  ·rw[c]at hm;cases hm
  ·rw[c]at hm;cases hm;exact d
 ·refine⟨rfl,fun b hb=>?_⟩
  obtain⟨loc,wr,sy⟩:=e
  rcases h _ he with⟨a,c,d,f⟩|⟨r,c,d,f⟩|⟨m',c,d⟩
  ·simp only at c d;subst c d
   have hb':some (⟨.cell a,wr,.plain⟩:Touch)=some b:=hb
   cases hb'
   exact⟨rfl,a.block,rfl,f⟩
  ·simp only at c d;subst c d
   have hb':some (⟨.obj r,wr,.plain⟩:Touch)=some b:=by cases wr<;>exact hb
   cases hb'
   exact⟨rfl,r,rfl,f⟩
  ·simp only at c;subst c
   have i:MemAct.ofEvent ⟨.mark m',wr,sy⟩ = .mark m':=by cases wr<;>cases sy<;>rfl
   simp only[i,d.touch]at hb
   cases hb
/-- Operations that touch nothing bring no race. -/
theorem Ni{said:Bool}{t u:Trace}(h:¬Race said t)(hu:∀op∈u,op.act.touch?=none):¬Race said (t++u):=by
 rintro⟨i,j,hij,⟨a,b,ha,hb,hc⟩,c,d⟩
 obtain⟨x,hx,hxa⟩:=touch_of ha
 obtain⟨y,hy,hyb⟩:=touch_of hb
 rcases getElem?_append_cases hy with⟨hj,hy'⟩|⟨hj,hyu⟩
 ·have hi:i<t.size:=Nat.lt_trans hij hj
  have hx':t[i]?=some x:=by rw[←getElem?_append_old (u:=u) hi];exact hx
  exact h ⟨i,j,hij,⟨a,b,by simp[Trace.act?,hx',hxa],by simp[Trace.act?,hy',hyb],hc⟩,fun e=>c (hb_app u e),fun e=>d (hb_app u e)⟩
 ·rw[hu y hyu]at hyb;cases hyb
/-- Nobody has touched memory without the first goroutine's knowing it. -/
structure TA(t:Trace):Prop where
 wl:Wordless t
 clean:∀said,¬Race said t
 known:∀i a,touchAt t i=some a→a.loc.isMemory=true→Knows t 0 i
theorem Di{t u:Trace}{i:Nat}{a:Touch}(h:touchAt (t++u) i=some a):touchAt t i=some a∨∃op,(t++u)[i]?=some op∧op∈u∧op.act.touch?=some a∧t.size≤i:=by
 obtain⟨x,hx,hxa⟩:=touch_of h
 rcases getElem?_append_cases hx with⟨_,hx'⟩|⟨hge,hxu⟩
 ·exact .inl (by rw[touchAt_of hx'];exact hxa)
 ·exact .inr ⟨x,hx,hxu,hxa,hge⟩
theorem TA.own{t u:Trace}(h:TA t)(hw:Wordless u)(hu:∀op∈u,op.g=0):TA (t++u):=by
 refine⟨h.wl.append hw,fun c=>noRace_append (h.clean c) hu fun i a ha op _ b _ hc=>h.known i a ha hc.2.1,fun i a ha hm=>?_⟩
 rcases Di ha with h1|⟨op,h1,h2,_,_⟩
 ·exact(h.known i a h1 hm).app u
 ·have:=knows_own h1;rwa[hu op h2]at this
theorem TA.nil:TA #[]:=by
 refine⟨fun op hop=>by simp at hop,fun c ⟨i,j,_,⟨a,b,ha,_⟩,_⟩=>?_,fun i a ha=>?_⟩
 ·simp[Trace.act?]at ha
 ·simp[touchAt,Trace.act?]at ha
theorem TA.handed{t:Trace}(h:TA t):t.HandedOver:=by
 intro i g hg hne ⟨x,hx,hm,_⟩
 obtain⟨q,z,a,b,c⟩:=h.known i x hx hm
 refine⟨q,by simp[Trace.g?,a,b],c.resolve_left ?_⟩
 rintro rfl
 simp[Trace.g?,a,b]at hg
 exact hne hg.symm
/-- What the one of two who run beside each other has touched: its own,or (to read it) what is shared. -/
def Th(A Sh:Nat→Prop)(c:Nat)(a:Touch):Prop :=
 (a.kind = .plain∧∃k,Lx a.loc=some k∧(A k∨(a.write=false∧Sh k)))∨(a.loc = .obj c∧a.kind = .atomic)
/-- While a worker (number j) runs beside the first goroutine. -/
structure TB(t:Trace)(j c:Nat)(Am Aw Sh:Nat→Prop):Prop where
 wl:Wordless t
 clean:∀said,¬Race said t
 k0:∀i a,touchAt t i=some a→a.loc.isMemory=true→Knows t 0 i∨((∃op,t[i]?=some op∧op.g=j)∧Th Aw Sh c a)
 kj:∀i a,touchAt t i=some a→a.loc.isMemory=true→Knows t j i∨Th Am Sh c a
/-- Two touches that conflict: not a worker's and the first goroutine's. -/
theorem Ul{A B Sh:Nat→Prop}{c:Nat}{a b:Touch}{said:Bool}(hd:∀k,A k→B k→False)(hA:∀k,A k→Sh k→False)(hB:∀k,B k→Sh k→False)(hc:¬B c∧¬Sh c)
  (ha:Th A Sh c a) (hb:b.kind = .plain∧∃k,Lx b.loc=some k∧(B k∨(b.write=false∧Sh k))) (h:a.conflicts said b):False:=by
 obtain⟨hl,_,hwr,_⟩:=h
 obtain⟨_,k',hk',hb⟩:=hb
 rcases ha with⟨_,k,hk,ha⟩|ha
 ·rw[hl,hk']at hk
  cases hk
  rcases ha with ha|⟨ha1,ha2⟩<;>rcases hb with hb|⟨hb1,hb2⟩
  ·exact hd _ ha hb
  ·exact hA _ ha hb2
  ·exact hB _ hb ha2
  ·rcases hwr with h|h
   ·rw[ha1]at h;cases h
   ·rw[hb1]at h;cases h
 ·rw[←hl,ha.1]at hk'
  cases hk'
  rcases hb with hb|⟨_,hb⟩
  ·exact hc.1 hb
  ·exact hc.2 hb
section
variable{t u:Trace}{j c:Nat}{Am Aw Sh Am' Aw':Nat→Prop}
theorem Th.mono{A A':Nat→Prop}(h:∀k,A k→A' k){a:Touch}(ha:Th A Sh c a):Th A' Sh c a :=
 ha.imp (fun⟨b,k,d,e⟩=>⟨b,k,d,e.imp (h k) id⟩) id
/-- The first goroutine acts. -/
theorem TB.main(h:TB t j c Am Aw Sh)(hj:j≠0)(hsub:∀k,Am k→Am' k)(hd:∀k,Aw k→Am' k→False)(hS:∀k,Am' k→Sh k→False)(hS':∀k,Aw k→Sh k→False)(hc:¬Am' c∧¬Sh c)
  (hw:Wordless u) (hu:∀op∈u,op.g=0∧∀b,op.act.touch?=some b→b.kind = .plain∧∃k,Lx b.loc=some k∧(Am' k∨(b.write=false∧Sh k))):TB (t++u) j c Am' Aw Sh:=by
 refine⟨h.wl.append hw,fun d=>noRace_append (h.clean d) (fun op hop=>(hu op hop).1) fun i a ha op hop b hb hcf=>?_,fun i a ha hm=>?_,fun i a ha hm=>?_⟩
 ·rcases h.k0 i a ha hcf.2.1 with h1|⟨_,h1⟩
  ·exact h1
  ·exact(Ul hd hS' hS hc h1 ((hu op hop).2 b hb) hcf).elim
 ·rcases Di ha with h1|⟨op,h1,h2,_,_⟩
  ·rcases h.k0 i a h1 hm with h3|⟨⟨op,h4,h5⟩,h3⟩
   ·exact .inl (h3.app u)
   ·exact .inr ⟨⟨op,by rw[getElem?_append_old (lt_size_of_getElem? h4)];exact h4,h5⟩,h3⟩
  ·have:=knows_own h1;rw[(hu op h2).1]at this;exact .inl this
 ·rcases Di ha with h1|⟨op,h1,h2,h3,hge⟩
  ·exact(h.kj i a h1 hm).imp (·.app u) (·.mono hsub)
  ·exact .inr (.inl ((hu op h2).2 a h3))
/-- The worker acts. -/
theorem TB.work(h:TB t j c Am Aw Sh)(hsub:∀k,Aw k→Aw' k)(hd:∀k,Am k→Aw' k→False)(hS:∀k,Aw' k→Sh k→False)(hS':∀k,Am k→Sh k→False)(hc:¬Aw' c∧¬Sh c)
  (hw:Wordless u) (hu:∀op∈u,op.g=j∧∀b,op.act.touch?=some b→b.kind = .plain∧∃k,Lx b.loc=some k∧(Aw' k∨(b.write=false∧Sh k))):TB (t++u) j c Am Aw' Sh:=by
 refine⟨h.wl.append hw,fun d=>noRace_append (h.clean d) (fun op hop=>(hu op hop).1) fun i a ha op hop b hb hcf=>?_,fun i a ha hm=>?_,fun i a ha hm=>?_⟩
 ·rcases h.kj i a ha hcf.2.1 with h1|h1
  ·exact h1
  ·exact(Ul hd hS' hS hc h1 ((hu op hop).2 b hb) hcf).elim
 ·rcases Di ha with h1|⟨op,h1,h2,h3,hge⟩
  ·rcases h.k0 i a h1 hm with h3|⟨⟨op,h4,h5⟩,h3⟩
   ·exact .inl (h3.app u)
   ·exact .inr ⟨⟨op,by rw[getElem?_append_old (lt_size_of_getElem? h4)];exact h4,h5⟩,h3.mono hsub⟩
  ·exact .inr ⟨⟨op,h1,(hu op h2).1⟩,.inl ((hu op h2).2 a h3)⟩
 ·rcases Di ha with h1|⟨op,h1,h2,_,_⟩
  ·exact(h.kj i a h1 hm).imp (·.app u) id
  ·have:=knows_own h1;rw[(hu op h2).1]at this;exact .inl this
/-- Operations that touch nothing. -/
theorem TB.mute(h:TB t j c Am Aw Sh)(hw:Wordless u)(hu:∀op∈u,op.act.touch?=none):TB (t++u) j c Am Aw Sh:=by
 refine⟨h.wl.append hw,fun b=>Ni (h.clean b) hu,fun i a ha hm=>?_,fun i a ha hm=>?_⟩
 ·rcases Di ha with h1|⟨op,_,h2,h3,_⟩
  ·rcases h.k0 i a h1 hm with h3|⟨⟨op,h4,h5⟩,h3⟩
   ·exact .inl (h3.app u)
   ·exact .inr ⟨⟨op,by rw[getElem?_append_old (lt_size_of_getElem? h4)];exact h4,h5⟩,h3⟩
  ·rw[hu op h2]at h3;cases h3
 ·rcases Di ha with h1|⟨op,_,h2,h3,_⟩
  ·exact(h.kj i a h1 hm).imp (·.app u) id
  ·rw[hu op h2]at h3;cases h3
/-- A go statement. -/
theorem TA.fork(h:TA t)(hj:j≠0){x y:MemOp}(hx:x.g=0∧x.act = .go j)(hy:y.g=j∧y.act = .start):TB ((t.push x).push y) j c Am (fun _=>False) Sh:=by
 have e:(t.push x).push y=t ++ #[x,y]:=by rw[Avw,Avw,Array.append_assoc];rfl
 have d:∀op ∈ #[x,y],op.act.touch?=none:=fun op hop=>by
  have:op=x∨op=y:=by simpa using hop
  rcases this with rfl|rfl
  ·rw[hx.2];rfl
  ·rw[hy.2];rfl
 have hwl:Wordless #[x,y]:=fun op hop m hm=>by
  have:op=x∨op=y:=by simpa using hop
  rcases this with rfl|rfl
  ·rw[hx.2]at hm;cases hm
  ·rw[hy.2]at hm;cases hm
 rw[e]
 have f:=h.wl.append hwl
 have k:(t ++ #[x,y])[t.size]?=some x:=by rw[Aen (Et _)];simp
 have b:(t ++ #[x,y])[t.size+1]?=some y:=by rw[Aen (Nat.le_succ _)];simp
 have hsp:HappensBefore (t ++ #[x,y]) t.size (t.size+1):=.single (.inr ⟨.spawn (child:=j) (by simp[Trace.act?,k,hx.2]) (by simp[Trace.act?,b,hy.2]) (by simp[Trace.g?,b,hy.1]),f.heard k,f.heard b⟩)
 refine⟨f,fun p=>Ni (h.clean p) d,fun i a ha hm=>?_,fun i a ha hm=>?_⟩
 ·rcases Di ha with h1|⟨op,_,h2,h3,_⟩
  ·exact .inl ((h.known i a h1 hm).app _)
  ·rw[d op h2]at h3;cases h3
 ·rcases Di ha with h1|⟨op,_,h2,h3,_⟩
  ·obtain⟨q,z,hq,hz,hb⟩:=h.known i a h1 hm
   have hlt:=lt_size_of_getElem? hq
   have n:HappensBefore (t ++ #[x,y]) q t.size:=hb_po hlt (by rw[getElem?_append_old hlt];exact hq) k (hz.trans hx.1.symm)
   exact .inl ⟨t.size+1,y,b,hy.1,.inr ((hb.app _).hb (n.trans hsp))⟩
  ·rw[d op h2]at h3;cases h3
/-- The worker has closed its channel;nothing more is to come of it. -/
structure TC(t:Trace)(j c pc:Nat)(Aw Sh:Nat→Prop):Prop where
 wl:Wordless t
 clean:∀said,¬Race said t
 at_:∃op,t[pc]?=some op∧op.g=j∧op.act = .close c
 k0:∀i a,touchAt t i=some a→a.loc.isMemory=true→Knows t 0 i∨(Before t i pc∧Th Aw Sh c a)
theorem TB.close(h:TB t j c Am Aw Sh)(fn:FuncId)(pos:String)(hcm:¬Am c∧¬Sh c) :
  ∃pc,TC (t++MemOp.ofEvents j fn pos #[⟨.obj c,false,true⟩,⟨.obj c,true,true⟩]) j c pc Aw Sh:=by
 have q:MemOp.ofEvents j fn pos #[⟨.obj c,false,true⟩,⟨.obj c,true,true⟩] = #[{g:=j,fn,pos,act:=.access ⟨.obj c,false,true⟩},{g:=j,fn,pos,act:=.close c}]:=by
  rw[ofEvents_eq];simp[MemAct.ofEvent]
 rw[q]
 generalize hxx:({g:=j,fn,pos,act:=.access ⟨.obj c,false,true⟩}:MemOp)=x
 generalize hyy:({g:=j,fn,pos,act:=.close c}:MemOp)=y
 have hwl:Wordless #[x,y]:=fun op hop m hm=>by
  have:op=x∨op=y:=by simpa using hop
  rcases this with rfl|rfl
  ·subst hxx;cases hm
  ·subst hyy;cases hm
 have u:=h.wl.append hwl
 have v:(t ++ #[x,y])[t.size]?=some x:=by rw[Aen (Et _)];simp
 have n:(t ++ #[x,y])[t.size+1]?=some y:=by rw[Aen (Nat.le_succ _)];simp
 have hg:∀op ∈ #[x,y],op.g=j:=fun op hop=>by
  have:op=x∨op=y:=by simpa using hop
  rcases this with rfl|rfl
  ·subst hxx;rfl
  ·subst hyy;rfl
 have p:∀op ∈ #[x,y],∀b,op.act.touch?=some b→b=⟨.obj c,false,.atomic⟩:=fun op hop b hb=>by
  have:op=x∨op=y:=by simpa using hop
  rcases this with rfl|rfl
  ·subst hxx
   have hb':some (⟨.obj c,false,.atomic⟩:Touch)=some b:=hb
   cases hb';rfl
  ·subst hyy;cases hb
 refine⟨t.size+1,u,fun w=>noRace_append (h.clean w) hg fun i a ha op hop b hb hcf=>?_,⟨y,n,by subst hyy;rfl,by subst hyy;rfl⟩,fun i a ha hm=>?_⟩
 ·rcases h.kj i a ha hcf.2.1 with e|e
  ·exact e
  ·exfalso
   rw[p op hop b hb]at hcf
   obtain⟨hl,_,hwr,hk⟩:=hcf
   rcases e with⟨e,k,f,d⟩|e
   ·rw[hl]at f
    cases f
    rcases d with d|⟨_,d⟩
    ·exact hcm.1 d
    ·exact hcm.2 d
   ·rw[e.2]at hk
    rcases hk with hk|hk|⟨_,hk,_⟩<;>cases hk
 ·rcases Di ha with e|⟨op,e,f,d,hge⟩
  ·rcases h.k0 i a e hm with d|⟨⟨op,h4,h5⟩,d⟩
   ·exact .inl (d.app _)
   ·have hlt:=lt_size_of_getElem? h4
    exact .inr ⟨.inr (hb_po (by omega) (by rw[getElem?_append_old hlt];exact h4) n (by rw[h5];subst hyy;rfl)),d⟩
  ·refine .inr ⟨?_,.inr (by rw[p op f a d];exact⟨rfl,rfl⟩)⟩
   have hi:i=t.size∨i=t.size+1:=by
    have:=lt_size_of_getElem? e
    simp at this
    omega
   rcases hi with rfl|rfl
   ·exact .inr (hb_po (by omega) v n (by subst hxx hyy;rfl))
   ·exact .inl rfl
end
end
section
open Go Go.Conc Go.RowKit
open Go.ConcN (sumTo sumTo_upd upd_ne upd_same)
theorem Fo{P:Program}{g g' b:Goroutine}{w':World}(h:b.status = .running∨b.status = .finished):woken P g g' w' b=b:=by
 unfold Go.Conc.woken
 split
 ·exact again_running _ h
 ·rfl
section
variable{P:Program}{Pst:Value→World→Prop}
/-- From here the run comes to the first goroutine's return,and all is well. -/
def My(P:Program)(Pst:Value→World→Prop)(m:Machine)(t:Trace):Prop :=
 ∃N last o w' t',runNT P (N+1) m t=(.ended o w',t')∧runN P N m = .next last∧step P last = .ended o w'∧Go.Conc.Good P Pst last o w' t'
theorem Aft{m m':Machine}{t:Trace}{ops:Array MemOp}(hs:stepT P m=(.next m',ops))(h:My P Pst m' (t++ops)):My P Pst m t:=by
 obtain⟨N,e,o,w',t',a,b,c,d⟩:=h
 exact⟨N+1,e,o,w',t',by rw[runNT_succ_next hs];exact a,by rw[runN_succ_next hs];exact b,c,d⟩
theorem Ajq{m:Machine}{t:Trace}{ops:Array MemOp}{o:Outcome}{w':World}(hs:stepT P m=(.ended o w',ops))(h:Go.Conc.Good P Pst m o w' (t++ops)):My P Pst m t :=
 ⟨0,m,o,w',t++ops,by simp[runNT,hs],rfl,by simp[step,hs],h⟩
/-- What a step of the machine brings: it goes on and wins,or it is the good end. -/
def Out(P:Program)(Pst:Value→World→Prop)(gs:Array Goroutine)(t:Trace)(r:Stepped×Array MemOp):Prop :=
 (∃M ops,r=(.next M,ops)∧My P Pst M (t++ops))∨(∃o wE ops,r=(.ended o wE,ops)∧∀w sl,Go.Conc.Good P Pst (crowd gs w sl) o wE (t++ops))
theorem Jn{gs:Array Goroutine}{w:World}{sl:Option (Nat×Nat)}{t:Trace}(ha:∀g∈gs,awake g)(hr:∃(i:Nat) (g:Goroutine),gs[i]?=some g∧g.status = .running)
  (h:∀(i:Nat) (g:Goroutine) (d:Nat) (sl':Option (Nat×Nat)),gs[i]?=some g→g.status = .running→Out P Pst gs t (runT P (crowd gs (w.at d) sl') i)):My P Pst (crowd gs w sl) t:=by
 obtain⟨i,g,d,sl',hi,hg,hst⟩:=crowd_pick (P:=P) (w:=w) (sl:=sl) ha hr
 rcases h i g d sl' hi hg with⟨M,ops,a,b⟩|⟨o,wE,ops,a,b⟩
 ·exact Aft (hst.trans a) b
 ·exact Ajq (hst.trans a) (b w sl)
/-- The others only leave. -/
def Acj(P:Program)(gs:Array Goroutine)(q:Nat→Nat):Prop:=∀i g,i≠0→gs[i]?=some g→QuitsIn P (q i) g
theorem Qd{gs:Array Goroutine}{q:Nat→Nat}(h:Acj P gs q){g0:Goroutine}(h0:gs[0]?=some g0)(hr:awake g0):∀g∈gs,awake g:=by
 intro g hg
 obtain⟨i,hi⟩:=Bcz hg
 by_cases hi0:i=0
 ·subst hi0;rw[h0]at hi;cases hi;exact hr
 ·rcases (h i g hi0 hi).status with hs|hs<;>intro t e<;>rw[hs]at e<;>cases e
theorem Ip{g:Goroutine}(h:g.status = .running):awake g:=fun t e=>by rw[h]at e;cases e
/-- A leaver's step. -/
theorem Hf{gs:Array Goroutine}{w:World}{sl:Option (Nat×Nat)}{q:Nat→Nat}{i:Nat}{g:Goroutine}(hi:gs[i]?=some g)(hi0:i≠0)(hg:g.status = .running)(hq:QuitsIn P (q i) g) :
  ∃g' k,q i=k+1∧QuitsIn P k g'∧runT P (crowd gs w sl) i=(.next (crowd ((gs.map (woken P g g' w)).setIfInBounds i g') w sl),#[]):=by
 cases hk:q i with
 | zero=>rw[hk]at hq;rw[show g.status = .finished from hq]at hg;cases hg
 | succ k =>
  rw[hk]at hq
  rcases hq with hq|⟨_,g',hst,hq⟩
  ·rw[hq]at hg;cases hg
  ·have hb:(i==0)=false:=by simpa using hi0
   exact⟨g',k,rfl,hq,by rw[runT_crowd_go hi (by rw[hb];exact hst w)];rfl⟩
theorem Jv{gs:Array Goroutine}{i j:Nat}{f:Goroutine→Goroutine}{g' x:Goroutine}(h:((gs.map f).setIfInBounds i g')[j]?=some x):(j=i∧x=g')∨(j≠i∧∃y,gs[j]?=some y∧x=f y):=by
 by_cases hj:i=j
 ·subst hj
  by_cases hlt:i<(gs.map f).size
  ·rw[Bin hlt]at h;exact .inl ⟨rfl,(Option.some.inj h).symm⟩
  ·rw[Azb (by simpa using hlt)]at h;cases h
 ·rw[Ayz hj,Awa]at h
  obtain⟨y,hy,rfl⟩:=Option.map_eq_some_iff.1 h
  exact .inr ⟨Ne.symm hj,y,hy,rfl⟩
theorem Ei{gs:Array Goroutine}{i j:Nat}{f:Goroutine→Goroutine}{g' y:Goroutine}(hj:j≠i)(h:gs[j]?=some y):((gs.map f).setIfInBounds i g')[j]?=some (f y):=by
 rw[Ayz (Ne.symm hj),Awa,h];rfl
theorem Lf{gs:Array Goroutine}{i:Nat}{f:Goroutine→Goroutine}{g' y:Goroutine}(h:gs[i]?=some y):((gs.map f).setIfInBounds i g')[i]?=some g':=by
 have hlt:=(Aan.1 h).1
 rw[Bin (by simpa using hlt)]
/-- BESIDE THOSE WHO ONLY LEAVE: it is enough to look at the first goroutine's step. -/
theorem Yg{g0:Goroutine}{t:Trace}{w:World}{sz:Nat}(hg0:g0.status = .running)
  (hmain:∀gs q d sl,gs[0]?=some g0→gs.size=sz→Acj P gs q→Out P Pst gs t (runT P (crowd gs (w.at d) sl) 0)) :
  ∀(m:Nat) (gs:Array Goroutine) (d:Nat) (sl:Option (Nat×Nat)) (q:Nat→Nat),sumTo gs.size q≤m→gs.size=sz→gs[0]?=some g0→Acj P gs q→My P Pst (crowd gs (w.at d) sl) t:=by
 intro m
 induction m with
 | zero =>
  intro gs d sl q hm hsz b ho
  refine Jn (Qd ho b (Ip hg0)) ⟨0,g0,b,hg0⟩ fun i g d' sl' hi hg=>?_
  by_cases hi0:i=0
  ·subst hi0;exact hmain gs q d' sl' b hsz ho
  ·obtain⟨g',k,hk,_⟩:=Hf (w:=w) (sl:=sl) hi hi0 hg (ho i g hi0 hi)
   have:=Go.ConcN.le_sumTo (f:=q) (Aan.1 hi).1
   omega
 | succ m ih =>
  intro gs d sl q hm hsz b ho
  refine Jn (Qd ho b (Ip hg0)) ⟨0,g0,b,hg0⟩ fun i g d' sl' hi hg=>?_
  by_cases hi0:i=0
  ·subst hi0;exact hmain gs q d' sl' b hsz ho
  ·obtain⟨g',k,hk,hq,n⟩:=Hf (w:=w.at d') (sl:=sl') hi hi0 hg (ho i g hi0 hi)
   have c:=sumTo_upd q k id (Aan.1 hi).1
   refine .inl ⟨_,_,n,?_⟩
   rw[Wx]
   refine ih _ d' sl' (Go.ConcN.upd q i k) ?_ (by simpa using hsz) ?_ ?_
   ·simp only[id]at c
    simp only[Aqd,Array.size_map]
    have e:sumTo gs.size (fun a=>Go.ConcN.upd q i k a)=sumTo gs.size (Go.ConcN.upd q i k):=rfl
    have h:sumTo gs.size (fun a=>q a)=sumTo gs.size q:=rfl
    rw[e,h,hk]at c
    omega
   ·rw[Ei (Ne.symm hi0) b,Fo (.inl hg0)]
   ·intro j x hj hx
    rcases Jv hx with⟨rfl,rfl⟩|⟨hji,y,hy,rfl⟩
    ·rw[upd_same];exact hq
    ·have hqj:=ho j y hj hy
     rw[Fo hqj.status,upd_ne q k hji];exact hqj
end
/-- The first goroutine holds (ρ,σ) at frame fr (it runs,or is parked at a receive);a worker,number j,holds (ρw,σw) at fw (it runs,or is parked at a send). -/
structure PhB(P:Program)(W0:World)(fr:Frame)(cs:List Frame)(ρ:Ro)(σ:Own)(c:Nat)(vs:List Value)(fw:Frame)(cw:List Frame)(ρw:Ro)(σw:Own)(j:Nat)(Am Aw Sh:Nat→Prop)(mp:Option Value)(wp:Option (Value×Value))
  (gs:Array Goroutine) (w:World) (t:Trace) (q:Nat→Nat):Prop where
 g0:mp=none→∃g,gs[0]?=some g∧Is g fr cs
 g0p:∀z,mp=some z→gs[0]?=some (parked (G fr cs) #[rcase c z] (.recv true))
 gj:wp=none→∃g,gs[j]?=some g∧Is g fw cw
 gjp:∀v z,wp=some (v,z)→gs[j]?=some (parked (G fw cw) #[scase c v z] .send)
 j0:j≠0
 oth:∀i g,i≠0→i≠j→gs[i]?=some g→QuitsIn P (q i) g
 sat:Sat ρ σ w
 satw:Sat ρw σw w
 ch:∃s r tm,w.heap[c]?=some (.chan 0 #[] false s r tm)
 hc:(c,Res.recv vs)∈σ
 one:∀c' vs',(c',Res.recv vs')∈σ→c'=c
 nrw:NoRecv σw
 ncr:∀c k Rs,(c,Res.crowd k Rs)∈σ→Rs=[]
 newk:∀b∈keys σ,W0.heap.size≤b
 neww:∀b∈keys σw,W0.heap.size≤b
 below:Below W0.heap.size W0 w
 am:∀b r,(b,r)∈σ→(∀vs,r ≠ .recv vs)→Am b
 aw:∀b∈keys σw,Aw b
 rm:∀b,(ρ b).isSome=true→Sh b∨Am b
 rw_:∀b,(ρw b).isSome=true→Sh b∨Aw b
 dmw:∀b,Am b→Aw b→False
 dms:∀b,Am b→Sh b→False
 dws:∀b,Aw b→Sh b→False
 ncm:¬Am c
 ncw:¬Aw c
 ncs:¬Sh c
 lt:∀b,Am b∨Aw b∨Sh b→b<w.heap.size
 tr:TB t j c Am Aw Sh
/-- The worker has closed its channel. -/
structure PhC(P:Program)(W0:World)(fr:Frame)(cs:List Frame)(ρ:Ro)(σ:Own)(c:Nat)(j:Nat)(Am Aw Sh:Nat→Prop)(pc:Nat)(gs:Array Goroutine)(w:World)(t:Trace)(q:Nat→Nat):Prop where
 g0:∃g,gs[0]?=some g∧Is g fr cs
 oth:Acj P gs q
 sat:Sat ρ σ w
 ch:∃s r tm,w.heap[c]?=some (.chan 0 #[] true s r tm)
 hc:(c,Res.recv [])∈σ
 one:∀c' vs',(c',Res.recv vs')∈σ→c'=c
 ncr:∀c k Rs,(c,Res.crowd k Rs)∈σ→Rs=[]
 newk:∀b∈keys σ,W0.heap.size≤b
 below:Below W0.heap.size W0 w
 am:∀b r,(b,r)∈σ→(∀vs,r ≠ .recv vs)→Am b
 rm:∀b,(ρ b).isSome=true→Sh b∨Am b
 dmw:∀b,Am b→Aw b→False
 dms:∀b,Am b→Sh b→False
 dws:∀b,Aw b→Sh b→False
 ncm:¬Am c
 ncs:¬Sh c
 lt:∀b,Am b∨Aw b∨Sh b→b<w.heap.size
 tr:TC t j c pc Aw Sh
/-- Alone,but for those who only leave. -/
structure PhA(P:Program)(W0:World)(fr:Frame)(cs:List Frame)(ρ:Ro)(σ:Own)(gs:Array Goroutine)(w:World)(t:Trace)(q:Nat→Nat):Prop where
 g0:∃g,gs[0]?=some g∧Is g fr cs
 oth:Acj P gs q
 sat:Sat ρ σ w
 nr:NoRecv σ
 newk:∀b∈keys σ,W0.heap.size≤b
 below:Below W0.heap.size W0 w
 tr:TA t
section
variable{P:Program}{W0:World}{fr:Frame}{cs:List Frame}{ρ:Ro}{σ:Own}{c:Nat}{vs:List Value}{fw:Frame}{cw:List Frame}{ρw:Ro}{σw:Own}{j:Nat}{Am Aw Sh:Nat→Prop}{mp:Option Value}{wp:Option (Value×Value)}
 {gs:Array Goroutine} {w:World} {t:Trace} {q:Nat→Nat}
theorem Sat.at_(h:Sat ρ σ w)(d:Nat):Sat ρ σ (w.at d):=⟨h.ro,h.own,h.nd,h.dj⟩
theorem Sy{W0:World}(h:Below W0.heap.size W0 w)(d:Nat):Below W0.heap.size W0 (w.at d):=⟨h.os,h.tape,h.output,h.size,h.block⟩
theorem PhB.at_(h:PhB P W0 fr cs ρ σ c vs fw cw ρw σw j Am Aw Sh mp wp gs w t q)(d:Nat):PhB P W0 fr cs ρ σ c vs fw cw ρw σw j Am Aw Sh mp wp gs (w.at d) t q :=
 {h with sat:=h.sat.at_ d,satw:=h.satw.at_ d,ch:=h.ch,below:=Sy h.below d,lt:=h.lt}
theorem PhC.at_{pc:Nat}(h:PhC P W0 fr cs ρ σ c j Am Aw Sh pc gs w t q)(d:Nat):PhC P W0 fr cs ρ σ c j Am Aw Sh pc gs (w.at d) t q :=
 {h with sat:=h.sat.at_ d,ch:=h.ch,below:=Sy h.below d,lt:=h.lt}
theorem PhA.at_(h:PhA P W0 fr cs ρ σ gs w t q)(d:Nat):PhA P W0 fr cs ρ σ gs (w.at d) t q :=
 {h with sat:=h.sat.at_ d,below:=Sy h.below d}
/-- A step that leaves alone what is held keeps it. -/
theorem Sat.kept{W W':World}(h:Sat ρ σ W)(hk:∀b,(b∈keys σ∨(ρ b).isSome=true)→W'.heap[b]?=W.heap[b]?):Sat ρ σ W':=by
 refine⟨fun b o hb=>?_,fun p hp=>?_,h.nd,h.dj⟩
 ·have:=h.ro b o hb
  exact⟨by rw[hk b (.inr (by rw[hb];rfl))];exact this.1,this.2⟩
 ·exact Res.fits_of (h.own p hp) (hk p.1 (.inl (Du (r:=p.2) hp)))
theorem Le{W0 W W':World}{ρ:Ro}{σ σ':Own}(hb:Below W0.heap.size W0 W)(hn:∀b∈keys σ,W0.heap.size≤b)(h:Trans ρ σ W σ' W'):Below W0.heap.size W0 W' :=
 ⟨h.os.trans hb.os,h.tape.trans hb.tape,h.output.trans hb.output,Mm hb.size h.size,fun k hk=>by
  rw[h.frame k (Ng hk hb.size) (fun o ho=>absurd (hn k (Du ho)) (by omega))];exact hb.block k hk⟩
theorem Mn{W0 W W':World}{ρ:Ro}{σ σ':Own}(hb:Below W0.heap.size W0 W)(hn:∀b∈keys σ,W0.heap.size≤b)(h:Trans ρ σ W σ' W'):∀b∈keys σ',W0.heap.size≤b:=fun b hb'=>by
 rcases h.keys b hb' with h1|⟨h1,_⟩
 ·exact hn b h1
 ·exact Mm hb.size h1
/-- The operations that a step of one's own lists,as the trace's laws take them. -/
theorem Ud{es:Array Event}{A:Nat→Prop}(hes:∀e∈es,Wb ρ σ e)(ha:∀b o,(b,Res.obj o)∈σ→A b)(hr:∀b,(ρ b).isSome=true→Sh b∨A b)(g:Nat)(fn:FuncId)(pos:String) :
  Wordless (MemOp.ofEvents g fn pos es)∧∀op∈MemOp.ofEvents g fn pos es,op.g=g∧∀b,op.act.touch?=some b→b.kind = .plain∧∃k,Lx b.loc=some k∧(A k∨(b.write=false∧Sh k)):=by
 obtain⟨c,a⟩:=Abe hes g fn pos
 refine⟨c,fun op hop=>⟨(a op hop).1,fun b hb=>?_⟩⟩
 obtain⟨hk,k,hl,d⟩:=(a op hop).2 b hb
 refine⟨hk,k,hl,?_⟩
 rcases d with⟨o,ho⟩|⟨hw,hs⟩
 ·exact .inl (ha k o ho)
 ·exact(hr k hs).elim (fun h=>.inr ⟨hw,h⟩) .inl
/-- THE FIRST GOROUTINE's OWN STEP. -/
theorem PhB.main{fr':Frame}{cs':List Frame}{w':World}{σ':Own}{es:Array Event}{g':Goroutine}(h:PhB P W0 fr cs ρ σ c vs fw cw ρw σw j Am Aw Sh none wp gs w t q)(ht:Trans ρ σ w σ' w')(hes:∀e∈es,Wb ρ σ' e)
  (g:Goroutine) (hg0:gs[0]?=some g) (hg':Is g' fr' cs') (fn:FuncId) (pos:String) :
  PhB P W0 fr' cs' ρ σ' c vs fw cw ρw σw j (fun b=>Am b∨(w.heap.size≤b∧b<w'.heap.size)) Aw Sh none wp ((gs.map (woken P g g' w')).setIfInBounds 0 g') w' (t++MemOp.ofEvents 0 fn pos es) q:=by
 have hch:∃s r tm,w'.heap[c]?=some (.chan 0 #[] false s r tm):=by
  obtain⟨s,r,tm,hh⟩:=h.ch
  refine⟨s,r,tm,?_⟩
  rw[ht.frame c (Dq hh) fun o ho=>h.ncm (h.am c _ ho (by simp))];exact hh
 have ham:∀b r,(b,r)∈σ'→(∀vs,r ≠ .recv vs)→Am b∨(w.heap.size≤b∧b<w'.heap.size):=fun b r hb hr=>by
  rcases ht.keys b (Du hb) with a|a
  ·obtain⟨⟨b',r'⟩,hr',e⟩:=Iu.1 a
   simp only at e;subst e
   refine .inl (h.am _ r' hr' fun vs e=>hr vs ?_)
   subst e
   exact ht.sat.uniq hb ((ht.ends _ _).2 hr')
  ·exact .inr a
 have hrm:∀b,(ρ b).isSome=true→Sh b∨(Am b∨(w.heap.size≤b∧b<w'.heap.size)):=fun b hb=>(h.rm b hb).imp id .inl
 obtain⟨o1,p⟩:=Ud (A:=fun b=>Am b∨(w.heap.size≤b∧b<w'.heap.size)) hes (fun b o hb=>ham b _ hb (by simp)) hrm 0 fn pos
 have u:c<w.heap.size:=by obtain⟨s,r,tm,hh⟩:=h.ch;exact Dq hh
 have m:∀b,(Am b∨(w.heap.size≤b∧b<w'.heap.size))→Aw b→False:=fun b a d=>a.elim (fun a=>h.dmw b a d) fun a=>absurd (h.lt b (.inr (.inl d))) (by omega)
 have f:∀b,(Am b∨(w.heap.size≤b∧b<w'.heap.size))→Sh b→False:=fun b a d=>a.elim (fun a=>h.dms b a d) fun a=>absurd (h.lt b (.inr (.inr d))) (by omega)
 have n:¬(Am c∨(w.heap.size≤c∧c<w'.heap.size)):=fun a=>a.elim h.ncm fun a=>by omega
 exact {
  g0:=fun _=>⟨g',Lf hg0,hg'⟩
  g0p:=fun z e=>by cases e
  gj:=fun e=>by
   obtain⟨x,hx,hi⟩:=h.gj e
   exact⟨x,by rw[Ei h.j0 hx,Fo (.inl hi.1)],hi⟩
  gjp:=fun v z e=>by
   obtain⟨s,r,tm,hh⟩:=hch
   rw[Ei h.j0 (h.gjp v z e),woken_send_open _ _ hh]
  j0:=h.j0
  oth:=fun i x hi hij hx=>by
   rcases Jv hx with⟨e,_⟩|⟨_,y,hy,rfl⟩
   ·exact absurd e hi
   ·have:=h.oth i y hi hij hy
    rw[Fo this.status];exact this
  sat:=ht.sat
  satw:=h.satw.kept fun b hb=>by
   have hab:Aw b∨Sh b:=hb.elim (fun hb=>.inl (h.aw b hb)) fun hb=>(h.rw_ b hb).symm
   refine ht.frame b (h.lt b (.inr hab)) fun o ho=>?_
   have:=h.am b _ ho (by simp)
   exact hab.elim (h.dmw b this) (h.dms b this)
  ch:=hch
  hc:=(ht.ends _ _).2 h.hc
  one:=fun c' vs' hc'=>h.one c' vs' ((ht.ends _ _).1 hc')
  ncr:=fun c' k Rs hc'=>(ht.crowds c' k Rs hc').elim (h.ncr c' k Rs) fun x=>x.2
  nrw:=h.nrw
  newk:=Mn h.below h.newk ht
  neww:=h.neww
  below:=Le h.below h.newk ht
  am:=ham
  aw:=h.aw
  rm:=hrm
  rw_:=h.rw_
  dmw:=m
  dms:=f
  dws:=h.dws
  ncm:=n
  ncw:=h.ncw
  ncs:=h.ncs
  lt:=fun b hb=>by
   rcases hb with (hb|hb)|hb
   ·exact Ng (h.lt b (.inl hb)) ht.size
   ·exact hb.2
   ·exact Ng (h.lt b (.inr hb)) ht.size
  tr:=h.tr.main h.j0 (fun _=>.inl) (fun k a d=>m k d a) f h.dws ⟨n,h.ncs⟩ o1 p }
theorem PhC.main{fr':Frame}{cs':List Frame}{w':World}{σ':Own}{es:Array Event}{g':Goroutine}{pc:Nat}(h:PhC P W0 fr cs ρ σ c j Am Aw Sh pc gs w t q)(ht:Trans ρ σ w σ' w')(hes:∀e∈es,Wb ρ σ' e)
  (g:Goroutine) (hg0:gs[0]?=some g) (hg':Is g' fr' cs') (fn:FuncId) (pos:String) :
  PhC P W0 fr' cs' ρ σ' c j (fun b=>Am b∨(w.heap.size≤b∧b<w'.heap.size)) Aw Sh pc ((gs.map (woken P g g' w')).setIfInBounds 0 g') w' (t++MemOp.ofEvents 0 fn pos es) q:=by
 have hch:∃s r tm,w'.heap[c]?=some (.chan 0 #[] true s r tm):=by
  obtain⟨s,r,tm,hh⟩:=h.ch
  refine⟨s,r,tm,?_⟩
  rw[ht.frame c (Dq hh) fun o ho=>h.ncm (h.am c _ ho (by simp))];exact hh
 have ham:∀b r,(b,r)∈σ'→(∀vs,r ≠ .recv vs)→Am b∨(w.heap.size≤b∧b<w'.heap.size):=fun b r hb hr=>by
  rcases ht.keys b (Du hb) with d|d
  ·obtain⟨⟨b',r'⟩,hr',e⟩:=Iu.1 d
   simp only at e;subst e
   refine .inl (h.am _ r' hr' fun vs e=>hr vs ?_)
   subst e
   exact ht.sat.uniq hb ((ht.ends _ _).2 hr')
  ·exact .inr d
 have hrm:∀b,(ρ b).isSome=true→Sh b∨(Am b∨(w.heap.size≤b∧b<w'.heap.size)):=fun b hb=>(h.rm b hb).imp id .inl
 obtain⟨o1,n⟩:=Ud (A:=fun b=>Am b∨(w.heap.size≤b∧b<w'.heap.size)) hes (fun b o hb=>ham b _ hb (by simp)) hrm 0 fn pos
 have B:c<w.heap.size:=by obtain⟨s,r,tm,hh⟩:=h.ch;exact Dq hh
 have u:∀b,(Am b∨(w.heap.size≤b∧b<w'.heap.size))→Aw b→False:=fun b d f=>d.elim (fun d=>h.dmw b d f) fun d=>absurd (h.lt b (.inr (.inl f))) (by omega)
 have p:∀b,(Am b∨(w.heap.size≤b∧b<w'.heap.size))→Sh b→False:=fun b d f=>d.elim (fun d=>h.dms b d f) fun d=>absurd (h.lt b (.inr (.inr f))) (by omega)
 have v:¬(Am c∨(w.heap.size≤c∧c<w'.heap.size)):=fun d=>d.elim h.ncm fun d=>by omega
 exact {
  g0:=⟨g',Lf hg0,hg'⟩
  oth:=fun i x hi hx=>by
   rcases Jv hx with⟨e,_⟩|⟨_,y,hy,rfl⟩
   ·exact absurd e hi
   ·have:=h.oth i y hi hy
    rw[Fo this.status];exact this
  sat:=ht.sat
  ch:=hch
  hc:=(ht.ends _ _).2 h.hc
  one:=fun c' vs' hc'=>h.one c' vs' ((ht.ends _ _).1 hc')
  ncr:=fun c' k Rs hc'=>(ht.crowds c' k Rs hc').elim (h.ncr c' k Rs) fun x=>x.2
  newk:=Mn h.below h.newk ht
  below:=Le h.below h.newk ht
  am:=ham
  rm:=hrm
  dmw:=u
  dms:=p
  dws:=h.dws
  ncm:=v
  ncs:=h.ncs
  lt:=fun b hb=>by
   rcases hb with (hb|hb)|hb
   ·exact Ng (h.lt b (.inl hb)) ht.size
   ·exact hb.2
   ·exact Ng (h.lt b (.inr hb)) ht.size
  tr:=by
   obtain⟨op,d,f,m⟩:=h.tr.at_
   refine⟨h.tr.wl.append o1,fun z=>noRace_append (h.tr.clean z) (fun op hop=>(n op hop).1) fun i a ha op hop b hb hcf=>?_,⟨op,by rw[getElem?_append_old (lt_size_of_getElem? d)];exact d,f,m⟩,fun i a ha hm=>?_⟩
   ·rcases h.tr.k0 i a ha hcf.2.1 with d|⟨_,d⟩
    ·exact d
    ·exact(Ul (fun k d f=>u k f d) h.dws p ⟨v,h.ncs⟩ d ((n op hop).2 b hb) hcf).elim
   ·rcases Di ha with d|⟨op,d,f,_,_⟩
    ·exact(h.tr.k0 i a d hm).imp (·.app _) fun⟨f,m⟩=>⟨f.app _,m⟩
    ·have:=knows_own d;rw[(n op f).1]at this;exact .inl this }
theorem PhA.main{fr':Frame}{cs':List Frame}{w':World}{σ':Own}{es:Array Event}{g':Goroutine}(h:PhA P W0 fr cs ρ σ gs w t q)(ht:Trans ρ σ w σ' w')(hes:∀e∈es,Wb ρ σ' e)
    (g:Goroutine) (hg0:gs[0]?=some g) (hg':Is g' fr' cs') (fn:FuncId) (pos:String) :
    PhA P W0 fr' cs' ρ σ' ((gs.map (woken P g g' w')).setIfInBounds 0 g') w' (t++MemOp.ofEvents 0 fn pos es) q :=
  { g0:=⟨g',Lf hg0,hg'⟩
    oth:=fun i x hi hx=>by
      rcases Jv hx with⟨e,_⟩|⟨_,y,hy,rfl⟩
      · exact absurd e hi
      · have:=h.oth i y hi hy
        rw[Fo this.status];exact this
    sat:=ht.sat
    nr:=h.nr.trans ht
    newk:=Mn h.below h.newk ht
    below:=Le h.below h.newk ht
    tr:=by
      obtain⟨o1,a⟩:=Abe hes 0 fn pos
      exact h.tr.own o1 fun op hop=>(a op hop).1 }
/-- THE WORKER's OWN STEP. -/
theorem PhB.work{fw':Frame}{cw':List Frame}{w':World}{σw':Own}{es:Array Event}{g':Goroutine}(h:PhB P W0 fr cs ρ σ c vs fw cw ρw σw j Am Aw Sh mp none gs w t q)(ht:Trans ρw σw w σw' w')(hes:∀e∈es,Wb ρw σw' e)
  (g:Goroutine) (hgj:gs[j]?=some g) (hg':Is g' fw' cw') (fn:FuncId) (pos:String) :
  PhB P W0 fr cs ρ σ c vs fw' cw' ρw σw' j Am (fun b=>Aw b∨(w.heap.size≤b∧b<w'.heap.size)) Sh mp none ((gs.map (woken P g g' w')).setIfInBounds j g') w' (t++MemOp.ofEvents j fn pos es) q:=by
 have hch:∃s r tm,w'.heap[c]?=some (.chan 0 #[] false s r tm):=by
  obtain⟨s,r,tm,hh⟩:=h.ch
  refine⟨s,r,tm,?_⟩
  rw[ht.frame c (Dq hh) fun o ho=>h.ncw (h.aw c (Du ho))];exact hh
 have haw:∀b∈keys σw',Aw b∨(w.heap.size≤b∧b<w'.heap.size):=fun b hb=>(ht.keys b hb).imp (h.aw b) id
 have hrw:∀b,(ρw b).isSome=true→Sh b∨(Aw b∨(w.heap.size≤b∧b<w'.heap.size)):=fun b hb=>(h.rw_ b hb).imp id .inl
 obtain⟨o1,p⟩:=Ud (A:=fun b=>Aw b∨(w.heap.size≤b∧b<w'.heap.size)) hes (fun b o hb=>haw b (Du hb)) hrw j fn pos
 have u:c<w.heap.size:=by obtain⟨s,r,tm,hh⟩:=h.ch;exact Dq hh
 have f:∀b,Am b→(Aw b∨(w.heap.size≤b∧b<w'.heap.size))→False:=fun b d a=>a.elim (fun a=>h.dmw b d a) fun a=>absurd (h.lt b (.inl d)) (by omega)
 have m:∀b,(Aw b∨(w.heap.size≤b∧b<w'.heap.size))→Sh b→False:=fun b a d=>a.elim (fun a=>h.dws b a d) fun a=>absurd (h.lt b (.inr (.inr d))) (by omega)
 have n:¬(Aw c∨(w.heap.size≤c∧c<w'.heap.size)):=fun a=>a.elim h.ncw fun a=>by omega
 exact {
  g0:=fun e=>by
   obtain⟨x,hx,hi⟩:=h.g0 e
   exact⟨x,by rw[Ei (Ne.symm h.j0) hx,Fo (.inl hi.1)],hi⟩
  g0p:=fun z e=>by
   obtain⟨s,r,tm,hh⟩:=hch
   rw[Ei (Ne.symm h.j0) (h.g0p z e),woken_recv_open _ _ hh]
  gj:=fun _=>⟨g',Lf hgj,hg'⟩
  gjp:=fun v z e=>by cases e
  j0:=h.j0
  oth:=fun i x hi hij hx=>by
   rcases Jv hx with⟨e,_⟩|⟨_,y,hy,rfl⟩
   ·exact absurd e hij
   ·have:=h.oth i y hi hij hy
    rw[Fo this.status];exact this
  sat:=h.sat.kept fun b hb=>by
   have hlt:b<w.heap.size:=hb.elim (fun hb=>h.sat.key_lt hb) fun hb=>(h.rm b hb).elim (fun x=>h.lt b (.inr (.inr x))) fun x=>h.lt b (.inl x)
   refine ht.frame b hlt fun o ho=>?_
   have hA:=h.aw b (Du ho)
   rcases hb with hb|hb
   ·obtain⟨⟨b',r⟩,hr,e⟩:=Iu.1 hb
    simp only at e;subst e
    cases r with
    | obj o'=>exact h.dmw _ (h.am _ _ hr (by simp)) hA
    | chan=>exact h.dmw _ (h.am _ _ hr (by simp)) hA
    | crowd k Rs=>exact h.dmw _ (h.am _ _ hr (by simp)) hA
    | recv vs'=>rw[h.one _ _ hr]at hA;exact h.ncw hA
   ·exact(h.rm b hb).elim (h.dws b hA) fun x=>h.dmw b x hA
  satw:=ht.sat
  ch:=hch
  hc:=h.hc
  one:=h.one
  nrw:=h.nrw.trans ht
  ncr:=h.ncr
  newk:=h.newk
  neww:=Mn h.below h.neww ht
  below:=Le h.below h.neww ht
  am:=h.am
  aw:=haw
  rm:=h.rm
  rw_:=hrw
  dmw:=f
  dms:=h.dms
  dws:=m
  ncm:=h.ncm
  ncw:=n
  ncs:=h.ncs
  lt:=fun b hb=>by
   rcases hb with hb|(hb|hb)|hb
   ·exact Ng (h.lt b (.inl hb)) ht.size
   ·exact Ng (h.lt b (.inr (.inl hb))) ht.size
   ·exact hb.2
   ·exact Ng (h.lt b (.inr (.inr hb))) ht.size
  tr:=h.tr.work (fun _=>.inl) f m h.dms ⟨n,h.ncs⟩ o1 p }
end
end
section
open Go Go.Conc Go.RowKit
open Go.ConcN (sumTo sumTo_upd upd_ne upd_same)
section
variable{P:Program}{Pst:Value→World→Prop}{W0:World}{fr:Frame}{cs:List Frame}{ρ:Ro}{σ:Own}{c:Nat}{vs:List Value}{fw:Frame}{cw:List Frame}{ρw:Ro}{σw:Own}{j:Nat}{Am Aw Sh:Nat→Prop}{mp:Option Value}{wp:Option (Value×Value)}
 {gs:Array Goroutine} {w:World} {t:Trace} {q:Nat→Nat}
theorem PhB.ghostw{ρw':Ro}{σw':Own}(hg:Ghost ρw σw ρw' σw')(h:PhB P W0 fr cs ρ σ c vs fw cw ρw σw j Am Aw Sh mp wp gs w t q):PhB P W0 fr cs ρ σ c vs fw cw ρw' σw' j Am Aw Sh mp wp gs w t q :=
  { h with
    satw:=hg.sat _ h.satw
    nrw:=h.nrw.ghost hg
    neww:=fun b hb=>h.neww b (hg.keys b hb)
    aw:=fun b hb=>h.aw b (hg.keys b hb)
    rw_:=fun b hb=>(hg.dom b hb).elim (h.rw_ b) fun⟨o,ho⟩=>.inr (h.aw b (Du ho)) }
theorem Xv{ρ':Ro}{σ':Own}(hg:Ghost ρ σ ρ' σ')(h:∀b r,(b,r)∈σ→(∀vs,r ≠ .recv vs)→Am b)(b:Nat)(r:Res)(hb:(b,r)∈σ')(hr:∀vs,r ≠ .recv vs):Am b:=by
 cases r with
 | obj o=>obtain⟨o',ho'⟩:=hg.objs b o hb;exact h b _ ho' (by simp)
 | chan=>exact h b _ (hg.chans b hb) (by simp)
 | crowd k Rs=>exact h b _ (hg.crowds b k Rs hb) (by simp)
 | recv vs=>exact absurd rfl (hr vs)
theorem PhB.ghost{ρ':Ro}{σ':Own}(hg:Ghost ρ σ ρ' σ')(h:PhB P W0 fr cs ρ σ c vs fw cw ρw σw j Am Aw Sh mp wp gs w t q):PhB P W0 fr cs ρ' σ' c vs fw cw ρw σw j Am Aw Sh mp wp gs w t q :=
  { h with
    sat:=hg.sat _ h.sat
    hc:=(hg.ends _ _).2 h.hc
    one:=fun c' vs' hc'=>h.one c' vs' ((hg.ends _ _).1 hc')
    ncr:=fun c' k Rs hc'=>h.ncr c' k Rs (hg.crowds c' k Rs hc')
    newk:=fun b hb=>h.newk b (hg.keys b hb)
    am:=Xv hg h.am
    rm:=fun b hb=>(hg.dom b hb).elim (h.rm b) fun⟨o,ho⟩=>.inr (h.am b _ ho (by simp)) }
theorem PhC.ghost{ρ':Ro}{σ':Own}{pc:Nat}(hg:Ghost ρ σ ρ' σ')(h:PhC P W0 fr cs ρ σ c j Am Aw Sh pc gs w t q):PhC P W0 fr cs ρ' σ' c j Am Aw Sh pc gs w t q :=
  { h with
    sat:=hg.sat _ h.sat
    hc:=(hg.ends _ _).2 h.hc
    one:=fun c' vs' hc'=>h.one c' vs' ((hg.ends _ _).1 hc')
    ncr:=fun c' k Rs hc'=>h.ncr c' k Rs (hg.crowds c' k Rs hc')
    newk:=fun b hb=>h.newk b (hg.keys b hb)
    am:=Xv hg h.am
    rm:=fun b hb=>(hg.dom b hb).elim (h.rm b) fun⟨o,ho⟩=>.inr (h.am b _ ho (by simp)) }
theorem PhA.ghost{ρ':Ro}{σ':Own}(hg:Ghost ρ σ ρ' σ')(h:PhA P W0 fr cs ρ σ gs w t q):PhA P W0 fr cs ρ' σ' gs w t q :=
  { h with
    sat:=hg.sat _ h.sat
    nr:=h.nr.ghost hg
    newk:=fun b hb=>h.newk b (hg.keys b hb) }
theorem Qf(g:Goroutine)(k:Array CommCase)(s:CommShape):awake (parked g k s):=fun t e=>by cases e
theorem PhB.awake(h:PhB P W0 fr cs ρ σ c vs fw cw ρw σw j Am Aw Sh mp wp gs w t q):∀g∈gs,Conc.awake g:=by
 intro g hg
 obtain⟨i,hi⟩:=Bcz hg
 by_cases hi0:i=0
 ·subst hi0
  cases hm:mp with
  | none=>obtain⟨x,hx,his⟩:=h.g0 hm;rw[hx]at hi;cases hi;exact Ip his.1
  | some z=>rw[h.g0p z hm]at hi;cases hi;exact Qf _ _ _
 ·by_cases hij:i=j
  ·subst hij
   cases hm:wp with
   | none=>obtain⟨x,hx,his⟩:=h.gj hm;rw[hx]at hi;cases hi;exact Ip his.1
   | some z=>obtain⟨v,z⟩:=z;rw[h.gjp v z hm]at hi;cases hi;exact Qf _ _ _
  ·rcases (h.oth i g hi0 hij hi).status with hs|hs<;>intro t e<;>rw[hs]at e<;>cases e
/-- A leaver's step. -/
theorem PhB.leave{i k:Nat}{g g':Goroutine}(h:PhB P W0 fr cs ρ σ c vs fw cw ρw σw j Am Aw Sh mp wp gs w t q)(hi:gs[i]?=some g)(hi0:i≠0)(hij:i≠j)(hq:QuitsIn P k g') :
  PhB P W0 fr cs ρ σ c vs fw cw ρw σw j Am Aw Sh mp wp ((gs.map (woken P g g' w)).setIfInBounds i g') w t (Go.ConcN.upd q i k):=by
 obtain⟨s,r,tm,hh⟩:=h.ch
 exact { h with
  g0:=fun e=>by
   obtain⟨x,hx,his⟩:=h.g0 e
   exact⟨x,by rw[Ei (Ne.symm hi0) hx,Fo (.inl his.1)],his⟩
  g0p:=fun z e=>by rw[Ei (Ne.symm hi0) (h.g0p z e),woken_recv_open _ _ hh]
  gj:=fun e=>by
   obtain⟨x,hx,his⟩:=h.gj e
   exact⟨x,by rw[Ei (Ne.symm hij) hx,Fo (.inl his.1)],his⟩
  gjp:=fun v z e=>by rw[Ei (Ne.symm hij) (h.gjp v z e),woken_send_open _ _ hh]
  oth:=fun n x hn hnj hx=>by
   rcases Jv hx with⟨rfl,rfl⟩|⟨hni,y,hy,rfl⟩
   ·rw[upd_same];exact hq
   ·have:=h.oth n y hn hnj hy
    rw[Fo this.status,upd_ne q k hni];exact this }
def WGo(P:Program)(c:Nat)(vs:List Value)(fw:Frame)(cw:List Frame)(ρw:Ro)(σw:Own):Option (Value×Value)→Prop
 | none=>SendI P c vs fw cw ρw σw
 | some (v,_)=>∃vs',vs=v::vs'∧SendI P c vs' (fw.finish undef) cw ρw σw
theorem get_set{gs:Array Goroutine}{i k:Nat}{x y:Goroutine}(h:(gs.setIfInBounds i x)[k]?=some y):(k=i∧y=x)∨(k≠i∧gs[k]?=some y):=by
 by_cases hk:i=k
 ·subst hk
  by_cases hlt:i<gs.size
  ·rw[Bin hlt]at h;exact .inl ⟨rfl,(Option.some.inj h).symm⟩
  ·rw[Azb (by simpa using hlt)]at h;cases h
 ·rw[Ayz hk]at h;exact .inr ⟨Ne.symm hk,h⟩
theorem Dw{gs:Array Goroutine}{i k:Nat}{x:Goroutine}(h:k≠i):(gs.setIfInBounds i x)[k]?=gs[k]?:=Ayz (Ne.symm h)
theorem Fq{gs:Array Goroutine}{i:Nat}{x y:Goroutine}(h:gs[i]?=some y):(gs.setIfInBounds i x)[i]?=some x :=
 Bin (Aan.1 h).1
theorem Hq{w:World}{c cap s r:Nat}{buf:Array Value}{cl tm:Bool}(h:c<w.heap.size):(w.setChan c cap buf cl s r tm).heap[c]?=some (.chan cap buf cl s r tm):=by
 simp[World.setChan,h]
theorem Fi{w:World}{c cap s r k:Nat}{buf:Array Value}{cl tm:Bool}(h:k≠c):(w.setChan c cap buf cl s r tm).heap[k]?=w.heap[k]?:=by
 simp[World.setChan,Ne.symm h]
/-- THE TWO MEET at the channel. -/
theorem PhB.meet{i:Nat}{v:Value}{vs':List Value}{gs':Array Goroutine}{u:Trace}{s r:Nat}{tm:Bool}(h:PhB P W0 fr cs ρ σ c (v::vs') fw cw ρw σw j Am Aw Sh mp wp gs w t q)
  (hi:σ[i]?=some (c,Res.recv (v::vs'))) (h0:∃g,gs'[0]?=some g∧Is g (fr.finish (.tuple #[v,.bool true])) cs) (hj:∃g,gs'[j]?=some g∧Is g (fw.finish undef) cw)
  (ho:∀k,k≠0→k≠j→gs'[k]?=gs[k]?) (hw:Wordless u) (hu:∀op∈u,op.act.touch?=none) :
  PhB P W0 (fr.finish (.tuple #[v,.bool true])) cs ρ (σ.set i (c,.recv vs')) c vs' (fw.finish undef) cw ρw σw j Am Aw Sh none none gs' (w.setChan c 0 #[] false s r tm) (t++u) q:=by
 have f:c<w.heap.size:=by obtain⟨s,r,tm,hh⟩:=h.ch;exact Dq hh
 have d:=Tt (r':=.recv vs') hi
 have a:∀p,p∈σ.set i (c,Res.recv vs')→p=(c,.recv vs')∨(p∈σ∧p.1≠c):=fun p hp=>Gq hi h.sat.nd hp
 have hcW:W0.heap.size≤c:=h.newk c (Du h.hc)
 refine {
  g0:=fun _=>h0
  g0p:=fun z e=>by cases e
  gj:=fun _=>hj
  gjp:=fun v z e=>by cases e
  j0:=h.j0
  oth:=fun k x hk hkj hx=>by rw[ho k hk hkj]at hx;exact h.oth k x hk hkj hx
  sat:=?_
  satw:=h.satw.kept fun b hb=>Fi fun e=>?_
  ch:=⟨s,r,tm,Hq f⟩
  hc:=?_
  one:=fun c' m hc'=>?_
  nrw:=h.nrw
  ncr:=fun c' k Rs hc'=>(a _ hc').elim (fun e=>by cases e) fun x=>h.ncr c' k Rs x.1
  newk:=by rw[d];exact h.newk
  neww:=h.neww
  below:=⟨h.below.os,h.below.tape,h.below.output,by simpa[World.setChan]using h.below.size,fun k hk=>by rw[Fi (by omega)];exact h.below.block k hk⟩
  am:=fun b x hb hx=>?_
  aw:=h.aw
  rm:=h.rm
  rw_:=h.rw_
  dmw:=h.dmw
  dms:=h.dms
  dws:=h.dws
  ncm:=h.ncm
  ncw:=h.ncw
  ncs:=h.ncs
  lt:=fun b hb=>by simpa[World.setChan]using h.lt b hb
  tr:=h.tr.mute hw hu }
 ·refine⟨fun b o hb=>?_,fun p hp=>?_,by rw[d];exact h.sat.nd,by rw[d];exact h.sat.dj⟩
  ·have hbc:b≠c:=fun e=>by
    have:=h.sat.dj c (Du h.hc)
    rw[←e,hb]at this;cases this
   rw[Fi hbc];exact h.sat.ro b o hb
  ·rcases a p hp with rfl|⟨hp',hpc⟩
   ·exact⟨s,r,false,tm,Hq f⟩
   ·exact Res.fits_of (h.sat.own p hp') (Fi hpc)
 ·subst e
  rcases hb with hb|hb
  ·exact h.ncw (h.aw _ hb)
  ·exact(h.rw_ _ hb).elim h.ncs h.ncw
 ·have hlt:i<σ.length:=by
   rcases Mg i σ.length with h'|h'
   ·exact h'
   ·rw[Og h']at hi;cases hi
  exact lZ6 (i:=i) (by rw[Rk];simp[hlt])
 ·rcases a _ hc' with e|⟨hc'',_⟩
  ·injection e with e _
  ·exact h.one _ _ hc''
 ·rcases a _ hb with e|⟨hb',_⟩
  ·injection e with _ e;exact absurd e (hx vs')
  ·exact h.am b x hb' hx
/-- THE WORKER CLOSES. -/
theorem PhB.close{n:Nat}{g g':Goroutine}{s r:Nat}{tm:Bool}(h:PhB P W0 fr cs ρ σ c [] fw cw ρw σw j Am Aw Sh mp none gs w t q)(hgj:gs[j]?=some g)(hmw:mayWake P g=true)(hq:QuitsIn P n g')(fn:FuncId)(pos:String) :
  ∃pc,PhC P W0 fr cs ρ σ c j Am Aw Sh pc ((gs.map (woken P g g' (w.setChan c 0 #[] true s r tm))).setIfInBounds j g') (w.setChan c 0 #[] true s r tm) (t++MemOp.ofEvents j fn pos #[⟨.obj c,false,true⟩,⟨.obj c,true,true⟩]) (Go.ConcN.upd q j n):=by
 have a:c<w.heap.size:=by obtain⟨s,r,tm,hh⟩:=h.ch;exact Dq hh
 have hcW:W0.heap.size≤c:=h.newk c (Du h.hc)
 obtain⟨pc,htc⟩:=h.tr.close fn pos ⟨h.ncm,h.ncs⟩
 refine⟨pc,{
  g0:=?_
  oth:=fun i x hi hx=>?_
  sat:=?_
  ch:=⟨s,r,tm,Hq a⟩
  hc:=h.hc
  one:=h.one
  ncr:=h.ncr
  newk:=h.newk
  below:=⟨h.below.os,h.below.tape,h.below.output,by simpa[World.setChan]using h.below.size,fun k hk=>by rw[Fi (by omega)];exact h.below.block k hk⟩
  am:=h.am
  rm:=h.rm
  dmw:=h.dmw
  dms:=h.dms
  dws:=h.dws
  ncm:=h.ncm
  ncs:=h.ncs
  lt:=fun b hb=>by simpa[World.setChan]using h.lt b hb
  tr:=htc }⟩
 ·cases hm:mp with
  | none =>
   obtain⟨x,hx,his⟩:=h.g0 hm
   exact⟨x,by rw[Ei (Ne.symm h.j0) hx,Fo (.inl his.1)],his⟩
  | some z =>
   refine⟨{parked (G fr cs) #[rcase c z] (.recv true) with status:=.running},?_,rfl,rfl,rfl,rfl⟩
   rw[Ei (Ne.symm h.j0) (h.g0p z hm)]
   have hst:(g'.status != .blocked&&g'.status != .waiting)=true:=by rcases hq.status with hs|hs<;>rw[hs]<;>rfl
   have:woken P g g' (w.setChan c 0 #[] true s r tm) (parked (G fr cs) #[rcase c z] (.recv true))=(parked (G fr cs) #[rcase c z] (.recv true)).again (w.setChan c 0 #[] true s r tm):=by
    unfold woken
    rw[if_pos (by rw[hmw,Awf];exact hst)]
   rw[this,again_recv_closed (Hq a)]
 ·rcases Jv hx with⟨rfl,rfl⟩|⟨hij,y,hy,rfl⟩
  ·rw[upd_same];exact hq
  ·have:=h.oth i y hi hij hy
   rw[Fo this.status,upd_ne q n hij];exact this
 ·refine⟨fun b o hb=>?_,fun p hp=>?_,h.sat.nd,h.sat.dj⟩
  ·have hbc:b≠c:=fun e=>by
    have:=h.sat.dj c (Du h.hc)
    rw[←e,hb]at this;cases this
   rw[Fi hbc];exact h.sat.ro b o hb
  ·have hf:=h.sat.own p hp
   obtain⟨b,x⟩:=p
   by_cases hpc:b=c
   ·subst hpc
    have e:=h.sat.uniq hp h.hc
    subst e
    exact⟨s,r,true,tm,Hq a⟩
   ·exact Res.fits_of hf (Fi hpc)
theorem Zl{gs:Array Goroutine}{q:Nat→Nat}{i k m:Nat}{g:Goroutine}(hi:gs[i]?=some g)(hk:q i=k+1)(hm:sumTo gs.size q≤m+1):sumTo gs.size (Go.ConcN.upd q i k)≤m:=by
 have b:=sumTo_upd q k id (Aan.1 hi).1
 simp only[id]at b
 have c:sumTo gs.size (fun a=>Go.ConcN.upd q i k a)=sumTo gs.size (Go.ConcN.upd q i k):=rfl
 have d:sumTo gs.size (fun a=>q a)=sumTo gs.size q:=rfl
 rw[c,d,hk]at b
 omega
/-- While the worker is parked,only the first goroutine and those who leave move. -/
theorem Adj{v z:Value}(hmain:∀gs w sl t q,PhB P W0 fr cs ρ σ c vs fw cw ρw σw j Am Aw Sh none (some (v,z)) gs w t q→Out P Pst gs t (runT P (crowd gs w sl) 0)) :
  ∀(m:Nat) (gs:Array Goroutine) (w:World) (sl:Option (Nat×Nat)) (t:Trace) (q:Nat→Nat),sumTo gs.size q≤m→PhB P W0 fr cs ρ σ c vs fw cw ρw σw j Am Aw Sh none (some (v,z)) gs w t q→My P Pst (crowd gs w sl) t:=by
 intro m
 induction m with
 | zero =>
  intro gs w sl t q hm h
  obtain⟨x,hx,his⟩:=h.g0 rfl
  refine Jn h.awake ⟨0,x,hx,his.1⟩ fun i g d sl' hi hg=>?_
  by_cases hi0:i=0
  ·subst hi0;exact hmain gs _ sl' t q (h.at_ d)
  ·by_cases hij:i=j
   ·subst hij;rw[h.gjp v z rfl]at hi;cases hi;cases hg
   ·obtain⟨g',k,hk,_⟩:=Hf (w:=w) (sl:=sl) hi hi0 hg (h.oth i g hi0 hij hi)
    have:=Go.ConcN.le_sumTo (f:=q) (Aan.1 hi).1
    omega
 | succ m ih =>
  intro gs w sl t q hm h
  obtain⟨x,hx,his⟩:=h.g0 rfl
  refine Jn h.awake ⟨0,x,hx,his.1⟩ fun i g d sl' hi hg=>?_
  by_cases hi0:i=0
  ·subst hi0;exact hmain gs _ sl' t q (h.at_ d)
  ·by_cases hij:i=j
   ·subst hij;rw[h.gjp v z rfl]at hi;cases hi;cases hg
   ·obtain⟨g',k,hk,hq,a⟩:=Hf (w:=w.at d) (sl:=sl') hi hi0 hg (h.oth i g hi0 hij hi)
    refine .inl ⟨_,_,a,?_⟩
    rw[Wx]
    exact ih _ _ sl' t _ (by simpa using Zl hi hk hm) ((h.at_ d).leave hi hi0 hij hq)
theorem Io{gs:Array Goroutine}{i:Nat}{send:Bool}(h:∀k g,k≠i→gs[k]?=some g→offersAt g c send=[]):partners (gs.setIfInBounds i ph) c send=[] :=
 partners_nil fun k x hx=>by
  rcases getElem?_stand gs i k x hx with⟨_,rfl⟩|⟨hk,hx⟩
  ·rfl
  ·exact h k x hk hx
theorem Gi{n:Nat}{g:Goroutine}{send:Bool}(h:QuitsIn P n g):offersAt g c send=[] :=
 offersAt_of_not_blocked (by rcases h.status with hs|hs<;>rw[hs]<;>simp) c send
/-- Beside a worker that runs: it is enough to look at its step and at the first goroutine's. -/
theorem Nb(hself:SendI P c vs fw cw ρw σw)
  (hmain:mp=none→∀gs w sl t q fw cw ρw σw Aw wp,WGo P c vs fw cw ρw σw wp→PhB P W0 fr cs ρ σ c vs fw cw ρw σw j Am Aw Sh none wp gs w t q→Out P Pst gs t (runT P (crowd gs w sl) 0))
  (hwork:∀gs w sl t q Aw g,PhB P W0 fr cs ρ σ c vs fw cw ρw σw j Am Aw Sh mp none gs w t q→gs[j]?=some g→Is g fw cw→Out P Pst gs t (runT P (crowd gs w sl) j)) :
  ∀(m:Nat) (gs:Array Goroutine) (w:World) (sl:Option (Nat×Nat)) (t:Trace) (q:Nat→Nat) (Aw:Nat→Prop),sumTo gs.size q≤m→PhB P W0 fr cs ρ σ c vs fw cw ρw σw j Am Aw Sh mp none gs w t q→My P Pst (crowd gs w sl) t:=by
 intro m
 induction m with
 | zero =>
  intro gs w sl t q Aw hm h
  obtain⟨x,hx,his⟩:=h.gj rfl
  refine Jn h.awake ⟨j,x,hx,his.1⟩ fun i g d sl' hi hg=>?_
  by_cases hi0:i=0
  ·subst hi0
   cases hmp:mp with
   | none=>subst hmp;exact hmain rfl gs _ sl' t q fw cw ρw σw Aw none hself (h.at_ d)
   | some z=>rw[h.g0p z hmp]at hi;cases hi;cases hg
  ·by_cases hij:i=j
   ·rw[hij]at hi ⊢
    rw[hx]at hi;cases hi
    exact hwork gs _ sl' t q Aw x (h.at_ d) hx his
   ·obtain⟨g',k,hk,_⟩:=Hf (w:=w) (sl:=sl) hi hi0 hg (h.oth i g hi0 hij hi)
    have:=Go.ConcN.le_sumTo (f:=q) (Aan.1 hi).1
    omega
 | succ m ih =>
  intro gs w sl t q Aw hm h
  obtain⟨x,hx,his⟩:=h.gj rfl
  refine Jn h.awake ⟨j,x,hx,his.1⟩ fun i g d sl' hi hg=>?_
  by_cases hi0:i=0
  ·subst hi0
   cases hmp:mp with
   | none=>subst hmp;exact hmain rfl gs _ sl' t q fw cw ρw σw Aw none hself (h.at_ d)
   | some z=>rw[h.g0p z hmp]at hi;cases hi;cases hg
  ·by_cases hij:i=j
   ·rw[hij]at hi ⊢
    rw[hx]at hi;cases hi
    exact hwork gs _ sl' t q Aw x (h.at_ d) hx his
   ·obtain⟨g',k,hk,hq,a⟩:=Hf (w:=w.at d) (sl:=sl') hi hi0 hg (h.oth i g hi0 hij hi)
    refine .inl ⟨_,_,a,?_⟩
    rw[Wx]
    exact ih _ _ sl' t _ Aw (by simpa using Zl hi hk hm) ((h.at_ d).leave hi hi0 hij hq)
/-- BESIDE A WORKER THAT RUNS. -/
theorem Ti(hW:SendI P c vs fw cw ρw σw):∀(Am:Nat→Prop) (σ:Own)
  (_:mp=none→∀gs w sl t q fw cw ρw σw Aw wp,WGo P c vs fw cw ρw σw wp→PhB P W0 fr cs ρ σ c vs fw cw ρw σw j Am Aw Sh none wp gs w t q→Out P Pst gs t (runT P (crowd gs w sl) 0))
  (_:∀z v vs',mp=some z→vs=v::vs'→∃i,σ[i]?=some (c,Res.recv (v::vs'))∧∀gs w sl t q fw cw ρw σw Aw,SendI P c vs' fw cw ρw σw →
   PhB P W0 (fr.finish (.tuple #[v,.bool true])) cs ρ (σ.set i (c,.recv vs')) c vs' fw cw ρw σw j Am Aw Sh none none gs w t q→My P Pst (crowd gs w sl) t)
  (_:vs=[]→∀gs w sl t q Aw pc,PhC P W0 fr cs ρ σ c j Am Aw Sh pc gs w t q→My P Pst (crowd gs w sl) t)
  (m:Nat) (gs:Array Goroutine) (w:World) (sl:Option (Nat×Nat)) (t:Trace) (q:Nat→Nat) (Aw:Nat→Prop),sumTo gs.size q≤m→PhB P W0 fr cs ρ σ c vs fw cw ρw σw j Am Aw Sh mp none gs w t q→My P Pst (crowd gs w sl) t:=by
 induction hW with
 | ghost hg hs ih=>exact fun Am σ a d b m gs w sl t q Aw hm h=>ih Am σ a d b m gs w sl t q Aw hm (h.ghostw hg)
 | @step vs fw cw ρw σw K hst hK ih =>
  intro Am σ a d b
  refine Nb (.step K hst hK) a fun gs w sl t q Aw g h hgj his=>?_
  obtain⟨fw',cw',w',es,σw',C,D,E,F⟩:=hst w h.satw
  have hb:(j==0)=false:=by simpa using h.j0
  refine .inl ⟨_,_,runT_crowd_go hgj (by rw[hb,his.step];exact C),?_⟩
  exact ih _ _ _ F Am σ a d b _ _ _ _ _ _ _ (Et _) (h.work D E g hgj (Is.of _ _) _ _)
 | @send v vs' z fw cw ρw σw hat hs ih =>
  intro Am σ a d b
  refine Nb (.send hat hs) a fun gs w sl t q Aw g h hgj his=>?_
  have hb:(j==0)=false:=by simpa using h.j0
  have p:stepG P (j==0) g w = .comm (G fw cw) #[scase c v z] true .send w #[]:=by rw[hb,his.step];exact hat w
  obtain⟨s,r,tm,hch⟩:=h.ch
  cases hmp:mp with
  | none =>
   subst hmp
   obtain⟨I,x,u⟩:=h.g0 rfl
   have hp:partners (gs.setIfInBounds j ph) c false=[]:=Io fun k y hk hy=>by
    by_cases hk0:k=0
    ·subst hk0;rw[x]at hy;cases hy;exact offersAt_of_not_blocked (by rw[u.1];simp) c false
    ·exact Gi (h.oth k y hk0 hk hy)
   refine .inl ⟨_,_,crowd_waits hgj p fun cc hcc=>?_,?_⟩
   ·have:cc=scase c v z:=by simpa using hcc
    subst this
    exact ways_send_none hch (by simp) hp
   ·have B:MemOp.ofEvents j g.frame.fn g.frame.place #[] = #[]:=rfl
    rw[B,Wx]
    refine Adj (v:=v) (z:=z) (fun gs w sl t q h'=>a rfl gs w sl t q fw cw ρw σw Aw (some (v,z)) ⟨vs',rfl,hs⟩ h') _ _ _ _ _ q (Et _) ?_
    exact { h with
     g0:=fun _=>⟨I,by rw[Dw (Ne.symm h.j0)];exact x,u⟩
     g0p:=fun z e=>by cases e
     gj:=fun e=>by cases e
     gjp:=fun v' z' e=>by cases e;exact Fq hgj
     oth:=fun k y hk hkj hy=>by rw[Dw hkj]at hy;exact h.oth k y hk hkj hy }
  | some z0 =>
   have f:=h.g0p z0 hmp
   have hp:partners (gs.setIfInBounds j ph) c false=[(0,0)]:=by
    rw[partners_one (stand_get (Ne.symm h.j0) f) fun k y hk hy=>?_]
    ·simp[offersAt_parked_recv]
    ·rcases getElem?_stand gs j k y hy with⟨_,rfl⟩|⟨hkj,hy⟩
     ·rfl
     ·exact Gi (h.oth k y hk hkj hy)
   obtain⟨i,hi,hn⟩:=d z0 v vs' hmp rfl
   refine .inl ⟨_,_,crowd_send_meets hgj p hch (Ne.symm h.j0) f hp,?_⟩
   refine hn _ _ _ _ q _ _ _ _ _ hs (h.meet hi ?_ ?_ ?_ ?_ ?_)
   ·refine⟨_,?_,(Is.of fr cs).served _⟩
    rw[Dw (Ne.symm h.j0),Fq f]
    rfl
   ·refine⟨_,?_,(Is.of fw cw).served _⟩
    rw[Fq (y:=g) (by rw[Dw h.j0];exact hgj)]
    rfl
   ·intro k hk hkj
    rw[Dw hkj,Dw hk]
   ·intro op hop m hm
    have:MemOp.ofEvents j g.frame.fn g.frame.place #[] = #[]:=rfl
    simp only[this,Vh]at hop
    simp only[Ahn,lZ8,Rl,or_false]at hop
    rcases hop with rfl|rfl|rfl|rfl<;>cases hm
   ·intro op hop
    have:MemOp.ofEvents j g.frame.fn g.frame.place #[] = #[]:=rfl
    simp only[this,Vh]at hop
    simp only[Ahn,lZ8,Rl,or_false]at hop
    rcases hop with rfl|rfl|rfl|rfl<;>rfl
 | @close fw cw ρw σw hat =>
  intro Am σ a d b
  refine Nb (.close hat) a fun gs w sl t q Aw g h hgj his=>?_
  obtain⟨hmw,n,g',hq,hst⟩:=hat
  obtain⟨s,r,tm,hch⟩:=h.ch
  have hb:(j==0)=false:=by simpa using h.j0
  have H:mayWake P g=true:=by
   rw[←hmw];unfold mayWake;rw[his.2.1];rfl
  obtain⟨pc,hC⟩:=h.close (s:=s) (r:=r) (tm:=tm) hgj H hq g.frame.fn g.frame.place
  exact .inl ⟨_,_,runT_crowd_go hgj (by rw[hb,his.step];exact hst w s r tm hch),b rfl _ _ _ _ _ _ pc hC⟩
end
end
section
open Go Go.Conc
/-- The places in these blocks. -/
def BL(A:Nat→Prop)(l:Loc):Prop:=∃k,Lx l=some k∧A k
/-- A touch that is none of the business of somebody who may touch A,and read S,and all that is new (from block N on). -/
structure Free(N:Nat)(A S:Loc→Prop)(x:Touch):Prop where
 a:¬A x.loc
 s:S x.loc→x.write=false
 lt:∀b,Lx x.loc=some b→b<N
/-- What goroutine g does not know of is none of its business. -/
def KN(t:Trace)(g N:Nat)(A S:Loc→Prop):Prop:=∀i a,touchAt t i=some a→a.loc.isMemory=true→Knows t g i∨Free N A S a
/-- What does not come before p is none of the business of whoever is told of p. -/
def KPt(t:Trace)(p N:Nat)(A S:Loc→Prop):Prop:=∀i a,touchAt t i=some a→a.loc.isMemory=true→Before t i p∨Free N A S a
/-- What somebody does who may touch A,and read S. -/
def Does(N:Nat)(A S:Loc→Prop)(g:Nat)(u:Trace):Prop:=Wordless u∧∀op∈u,op.g=g∧∀b,op.act.touch?=some b→(A b.loc∨(b.write=false∧S b.loc))∧∀k,Lx b.loc=some k→k<N
section
variable{t u:Trace}{g p N N':Nat}{A S A' S':Loc→Prop}
theorem Free.mono{a:Touch}(h:Free N A S a)(hN:N≤N')(hA:∀l,A' l→A l)(hS:∀l,S' l→A l∨S l):Free N' A' S' a :=
 ⟨fun x=>h.a (hA _ x),fun x=>(hS _ x).elim (fun x=>absurd x h.a) h.s,fun b hb=>Ng (h.lt b hb) hN⟩
theorem KN.mono(h:KN t g N A S)(hN:N≤N')(hA:∀l,A' l→A l)(hS:∀l,S' l→A l∨S l):KN t g N' A' S':=fun i a b c=>(h i a b c).imp id (·.mono hN hA hS)
theorem KN.noRace{said:Bool}(h:KN t g N A S)(hc:¬Race said t)(hA:∀l,A' l→A l∨∀b,Lx l=some b→b<N→False)(hb:∀l,A' l→∃b,Lx l=some b)(hu:Does N' A' S g u):¬Race said (t++u) :=
 noRace_append hc (fun op hop=>(hu.2 op hop).1) fun i a ha op hop b hb' hcf=>by
  rcases h i a ha hcf.2.1 with h1|h1
  ·exact h1
  ·exfalso
   obtain⟨e,_,hw,_⟩:=hcf
   rcases ((hu.2 op hop).2 b hb').1 with h3|⟨h3,h4⟩
   ·rcases hA _ h3 with h4|h4
    ·exact h1.a (e ▸ h4)
    ·obtain⟨k,hk⟩:=hb _ h3
     exact h4 k hk (h1.lt k (by rw[e];exact hk))
   ·rcases hw with hw|hw
    ·rw[h1.s (e ▸ h4)]at hw;cases hw
    ·rw[h3]at hw;cases hw
/-- One's own doings. -/
theorem KN.own(h:KN t g N A S)(hu:∀op∈u,op.g=g):KN (t++u) g N A S:=fun i a ha hm=>by
 rcases Di ha with h1|⟨op,h1,h2,_,_⟩
 ·exact(h i a h1 hm).imp (·.app u) id
 ·have:=knows_own h1;rw[hu op h2]at this;exact .inl this
/-- Another's doings. -/
theorem KN.other(h:KN t g N A S)(hN:N≤N')(hu:∀op∈u,∀b,op.act.touch?=some b→Free N' A S b):KN (t++u) g N' A S:=fun i a ha hm=>by
 rcases Di ha with h1|⟨op,_,h2,h3,_⟩
 ·exact(h i a h1 hm).imp (·.app u) fun h=>h.mono hN (fun _ h=>h) fun _ h=>.inr h
 ·exact .inr (hu op h2 a h3)
theorem KPt.other(h:KPt t p N A S)(hN:N≤N')(hu:∀op∈u,∀b,op.act.touch?=some b→Free N' A S b):KPt (t++u) p N' A S:=fun i a ha hm=>by
 rcases Di ha with h1|⟨op,_,h2,h3,_⟩
 ·exact(h i a h1 hm).imp (·.app u) fun h=>h.mono hN (fun _ h=>h) fun _ h=>.inr h
 ·exact .inr (hu op h2 a h3)
theorem Does.free(h:Does N A S g u)(h1:∀l,A l→¬A' l∧¬S' l)(h2:∀l,S l→¬A' l):∀op∈u,∀b,op.act.touch?=some b→Free N A' S' b:=fun op hop b hb=>by
 obtain⟨a,c⟩:=(h.2 op hop).2 b hb
 rcases a with a|⟨a,h4⟩
 ·exact⟨(h1 _ a).1,fun x=>absurd x (h1 _ a).2,c⟩
 ·exact⟨h2 _ h4,fun _=>a,c⟩
/-- New places. -/
theorem KN.fresh(h:KN t g N A S)(hN:N≤N')(hn:∀l,A' l→A l∨∀b,Lx l=some b→b<N→False)(hb:∀l,A' l→∃b,Lx l=some b):KN t g N' A' S:=fun i a ha hm =>
 (h i a ha hm).imp id fun h=>⟨fun x=>by
  rcases hn _ x with h1|h1
  ·exact h.a h1
  ·obtain⟨b,hb⟩:=hb _ x;exact h1 b hb (h.lt b hb),h.s,fun b hb=>Ng (h.lt b hb) hN⟩
/-- What it did,and knew,is told at its operation at p. -/
theorem KN.told{y:MemOp}(h:KN t g N A S)(hu:∀op∈u,op.act.touch?=none)(hp:t.size≤p)(hy:(t++u)[p]?=some y)(hg:y.g=g):KPt (t++u) p N A S:=fun i a ha hm=>by
 rcases Di ha with h1|⟨op,_,h2,h3,_⟩
 ·exact(h i a h1 hm).imp (fun h=>.inr (h.hb_new hp hy hg)) id
 ·rw[hu op h2]at h3;cases h3
/-- Somebody is told of p,and may touch what the other might. -/
theorem KN.hears{q:Nat}{y:MemOp}(h:KN t g N A S)(hk:KPt (t++u) p N A' S')(hu:∀op∈u,op.act.touch?=none)(hy:(t++u)[q]?=some y)(hg:y.g=g)(hb:HappensBefore (t++u) p q):KN (t++u) g N (fun l=>A l∨A' l) S:=fun i a ha hm=>by
 rcases Di ha with h1|⟨op,_,h2,h3,_⟩
 ·rcases h i a h1 hm with h4|h4
  ·exact .inl (h4.app u)
  ·rcases hk i a ha hm with h5|h5
   ·exact .inl ⟨q,y,hy,hg,.inr (h5.hb hb)⟩
   ·exact .inr ⟨fun x=>x.elim h4.a h5.a,h4.s,h4.lt⟩
 ·rw[hu op h2]at h3;cases h3
theorem Jm(hu:∀op∈u,op.act.touch?=none):∀op∈u,∀b,op.act.touch?=some b→Free N A S b:=fun op hop b hb=>by rw[hu op hop]at hb;cases hb
/-- What a step of one's own lists. -/
theorem Avg{ρ:Ro}{σ:Own}{es:Array Event}{A S:Nat→Prop}(hes:∀e∈es,Wb ρ σ e)(ha:∀b o,(b,Res.obj o)∈σ→A b)(hr:∀b,(ρ b).isSome=true→S b∨A b)(hN:∀b,A b∨S b→b<N)(g:Nat)(fn:FuncId)(pos:String) :
  Does N (BL A) (BL S) g (MemOp.ofEvents g fn pos es):=by
 obtain⟨a,c⟩:=Abe hes g fn pos
 refine⟨a,fun op hop=>⟨(c op hop).1,fun b hb=>?_⟩⟩
 obtain⟨_,k,hl,d⟩:=(c op hop).2 b hb
 have key:BL A b.loc∨(b.write=false∧BL S b.loc)→(BL A b.loc∨(b.write=false∧BL S b.loc))∧∀k,Lx b.loc=some k→k<N:=fun h=>⟨h,fun k hk=>by
  rcases h with⟨k',a,c⟩|⟨_,k',a,c⟩
  ·rw[hk]at a;cases a;exact hN _ (.inl c)
  ·rw[hk]at a;cases a;exact hN _ (.inr c)⟩
 refine key ?_
 rcases d with⟨o,ho⟩|⟨hw,hs⟩
 ·exact .inl ⟨k,hl,ha k o ho⟩
 ·exact(hr k hs).elim (fun h=>.inr ⟨hw,k,hl,h⟩) fun h=>.inl ⟨k,hl,h⟩
/-- A go statement: the child knows what its starter knows. -/
theorem Bfv{j:Nat}{x y:MemOp}(hwl:Wordless t)(hx:x.g=0∧x.act = .go j)(hy:y.g=j∧y.act = .start) :
  Wordless ((t.push x).push y)∧(∀op ∈ #[x,y],op.act.touch?=none)∧(t.push x).push y=t ++ #[x,y]∧∀i,Knows t 0 i→Knows (t ++ #[x,y]) j i:=by
 have e:(t.push x).push y=t ++ #[x,y]:=by rw[Avw,Avw,Array.append_assoc];rfl
 have f:∀op ∈ #[x,y],op.act.touch?=none:=fun op hop=>by
  have:op=x∨op=y:=by simpa using hop
  rcases this with rfl|rfl
  ·rw[hx.2];rfl
  ·rw[hy.2];rfl
 have hw:Wordless #[x,y]:=fun op hop m hm=>by
  have:op=x∨op=y:=by simpa using hop
  rcases this with rfl|rfl
  ·rw[hx.2]at hm;cases hm
  ·rw[hy.2]at hm;cases hm
 have b:=hwl.append hw
 have c:(t ++ #[x,y])[t.size]?=some x:=by rw[Aen (Et _)];simp
 have a:(t ++ #[x,y])[t.size+1]?=some y:=by rw[Aen (Nat.le_succ _)];simp
 have hsp:HappensBefore (t ++ #[x,y]) t.size (t.size+1):=.single (.inr ⟨.spawn (child:=j) (by simp[Trace.act?,c,hx.2]) (by simp[Trace.act?,a,hy.2]) (by simp[Trace.g?,a,hy.1]),b.heard c,b.heard a⟩)
 refine⟨by rw[e];exact b,f,e,fun i hk=>?_⟩
 obtain⟨q,z,hq,hz,hb⟩:=hk
 have hlt:=lt_size_of_getElem? hq
 have d:HappensBefore (t ++ #[x,y]) q t.size:=hb_po hlt (by rw[getElem?_append_old hlt];exact hq) c (hz.trans hx.1.symm)
 exact⟨t.size+1,y,a,hy.1,.inr ((hb.app _).hb (d.trans hsp))⟩
end
end
section
open Go Go.Conc Go.RowKit
open Go.ConcN (sumTo sumTo_upd upd_ne upd_same)
/-- It stands at a receive that takes one value (or two). -/
def Akn(P:Program)(c:Nat)(z:Value)(f:Bool)(fr:Frame)(cs:List Frame):Prop :=
 ∀W,stepG P true (G fr cs) W = .comm (G fr cs) #[rcase c z] true (.recv f) W #[]
/-- A worker that sends one value,of which R is true,and leaves. -/
inductive MsgI(P:Program)(c:Nat)(R:Value→Ro→Prop):Frame→List Frame→Ro→Own→Prop
 | ghost {fr cs ρ σ ρ' σ'}:Ghost ρ σ ρ' σ'→MsgI P c R fr cs ρ' σ'→MsgI P c R fr cs ρ σ
 | step {fr cs ρ σ} (K:Frame→List Frame→Own→Prop):Aal (Wn P) fr cs ρ σ K→(∀fr' cs' σ',K fr' cs' σ'→MsgI P c R fr' cs' ρ σ')→MsgI P c R fr cs ρ σ
 | send {v z fr cs ρ σ}:Amv P c v z fr cs→R v ρ→(∃n,QuitsIn P n (Conc.served (G fr cs) undef))→MsgI P c R fr cs ρ σ
theorem MsgI.of_goes{P:Program}{c:Nat}{R:Value→Ro→Prop}{S:Cy}{fr:Frame}{cs:List Frame}{ρ:Ro}{σ:Own}(h:GoesH (Wn P) S fr cs ρ σ)(hk:∀fr cs ρ σ,S fr cs ρ σ→MsgI P c R fr cs ρ σ):MsgI P c R fr cs ρ σ:=by
 induction h with
 | stop h=>exact hk _ _ _ _ h
 | ghost hg _ ih=>exact .ghost hg ih
 | step K h1 _ ih=>exact .step K h1 ih
 | ext K h1 _ _=>exact h1.elim
/-- WHAT THE FIRST GOROUTINE MAY RELY ON BESIDE ITS OWN STEPS: a go statement whose child sends these values and closes;a receive of the next of them;a receive that finds the channel closed;a go statement whose child sends one value;a receive of one of them,whichever. -/
def Ade(P:Program):Frame→List Frame→Ro→Own→Cy→Prop:=fun fr cs ρ σ K =>
 (∃d i c vs fr',(∀W,stepG P true (G fr cs) W = .spawn (G fr' cs) (G (Gg P d) []) W #[])∧NoRecv σ∧σ[i]?=some (c,Res.chan)∧SendI P c vs (Gg P d) [] ρ []∧K fr' cs ρ (σ.set i (c,.recv vs))) ∨
 (∃i c v vs z,Sv P c z fr cs∧σ[i]?=some (c,Res.recv (v::vs))∧K (fr.finish (.tuple #[v,.bool true])) cs ρ (σ.set i (c,.recv vs))) ∨
 (∃i c z,Sv P c z fr cs∧σ[i]?=some (c,Res.recv [])∧K (fr.finish (.tuple #[z,.bool false])) cs ρ (σ.eraseIdx i)) ∨
 (∃d i c k Rs R fr',(∀W,stepG P true (G fr cs) W = .spawn (G fr' cs) (G (Gg P d) []) W #[])∧(∀c vs,(c,Res.recv vs)∉σ)∧(∀c' k' Rs',(c',Res.crowd k' Rs')∈σ→Rs'≠[]→c'=c)∧σ[i]?=some (c,Res.crowd (k+1) Rs) ∧
  MsgI P c R (Gg P d) [] ρ []∧K fr' cs ρ (σ.set i (c,.crowd k (Rs++[R])))) ∨
 (∃i c k Rs z f,Akn P c z f fr cs∧σ[i]?=some (c,Res.crowd k Rs)∧Rs≠[] ∧
  ∀(n:Nat) R v ρ1 ρ',Rs[n]?=some R→R v ρ1→Ro.le ρ ρ'→Ro.le ρ1 ρ'→K (fr.finish (recvd f v true)) cs ρ' (σ.set i (c,.crowd k (Rs.eraseIdx n))))
def Iw(P:Program):Ctx:=⟨P,true,Ade P⟩
/-- How far a worker is: it runs;it has sent its value (by its operation at p of the trace). -/
inductive WS where
 | run (fw:Frame) (cw:List Frame) (ρw:Ro) (σw:Own)
 | sent (v:Value) (ρw:Ro) (p:Nat)
/-- A worker: its number,what is true of its value,what it may touch,and read. -/
structure WK where
 j:Nat
 R:Value→Ro→Prop
 A:Nat→Prop
 S:Nat→Prop
 st:WS
/-- Whose doings the first goroutine does not know of yet. -/
def AlOk(t:Trace)(i:Nat)(x:WK):Prop:=match x.st with
 | .run ..=>∃op,t[i]?=some op∧op.g=x.j
 | .sent _ _ p=>Before t i p
/-- A worker that runs. -/
structure WRun(P:Program)(W0:World)(x:WK)(fw:Frame)(cw:List Frame)(ρw:Ro)(σw:Own)(gs:Array Goroutine)(w:World)(t:Trace):Prop where
 g:∃g,gs[x.j]?=some g∧Is g fw cw
 sat:Sat ρw σw w
 newk:∀b∈keys σw,W0.heap.size≤b
 aw:∀b∈keys σw,x.A b
 rw_:∀b,(ρw b).isSome=true→x.S b∨x.A b
 kn:KN t x.j w.heap.size (BL x.A) (BL x.S)
/-- A worker that has sent. -/
structure WSent(x:WK)(v:Value)(ρw:Ro)(p:Nat)(c r:Nat)(B:List (Nat×Value))(w:World)(t:Trace):Prop where
 val:x.R v ρw
 sat:∀b o,ρw b=some o→w.heap[b]?=some o∧o.isChan=false
 rw_:∀b,(ρw b).isSome=true→x.S b∨x.A b
 kp:KPt t p w.heap.size (BL x.A) (BL x.S)
 at_:∃m op,B[m]?=some (x.j,v)∧t[p]?=some op∧op.act = .send c (r+m)
/-- The first goroutine holds (ρ,σ) at frame fr (it runs,or is parked at a receive);the workers l;B: what lies in the channel,and from whom. -/
structure PhN(P:Program)(W0:World)(fr:Frame)(cs:List Frame)(ρ:Ro)(σ:Own)(c k:Nat)(l:List WK)(B:List (Nat×Value))(r:Nat)(A0 S0:Nat→Prop)(mp:Option (Value×Bool))
  (gs:Array Goroutine) (w:World) (t:Trace) (q:Nat→Nat):Prop where
 g0:mp=none→∃g,gs[0]?=some g∧Is g fr cs
 g0p:∀z f,mp=some (z,f)→gs[0]?=some (parked (G fr cs) #[rcase c z] (.recv f))∧B=[]
 oth:∀i g,i≠0→(∀x∈l,x.j=i→∃v ρw p,x.st = .sent v ρw p)→gs[i]?=some g→QuitsIn P (q i) g
 j0:∀x∈l,x.j≠0
 jl:∀x∈l,x.j<gs.size
 jn:(l.map (·.j)).Nodup
 run:∀x∈l,∀fw cw ρw σw,x.st = .run fw cw ρw σw→WRun P W0 x fw cw ρw σw gs w t
 sent:∀x∈l,∀v ρw p,x.st = .sent v ρw p→WSent x v ρw p c r B w t
 buf:∀j v,(j,v)∈B→∃x∈l,x.j=j∧∃ρw p,x.st = .sent v ρw p
 bn:(B.map Prod.fst).Nodup
 ch:∃cap tm,w.heap[c]?=some (.chan cap (B.map Prod.snd).toArray false (r+B.length) r tm)∧k+l.length≤cap
 sat:Sat ρ σ w
 hc:(c,Res.crowd k (l.map (·.R)))∈σ
 one:∀c' k' Rs',(c',Res.crowd k' Rs')∈σ→Rs'≠[]→c'=c
 nr:∀c vs,(c,Res.recv vs)∉σ
 newk:∀b∈keys σ,W0.heap.size≤b
 below:Below W0.heap.size W0 w
 am:∀b x,(b,x)∈σ→b≠c→A0 b
 rm:∀b,(ρ b).isSome=true→S0 b∨A0 b
 ap:∀x∈l,∀y∈l,x.j≠y.j→∀b,x.A b→¬y.A b∧¬y.S b
 a0:∀x∈l,∀b,x.A b→¬A0 b∧¬S0 b
 ds:∀b,A0 b→¬S0 b
 ss:∀x∈l,∀b,x.S b→S0 b
 nc:¬A0 c∧¬S0 c∧∀x∈l,¬x.A c
 lt:∀b,(A0 b∨S0 b∨∃x∈l,x.A b)→b<w.heap.size
 wl:Wordless t
 clean:∀said,¬Race said t
 k0:KN t 0 w.heap.size (BL A0) (BL S0)
 al:∀i a,touchAt t i=some a→a.loc.isMemory=true→Knows t 0 i∨∃x∈l,AlOk t i x
section
variable{P:Program}{W0:World}{fr:Frame}{cs:List Frame}{ρ:Ro}{σ:Own}{c k r:Nat}{l:List WK}{B:List (Nat×Value)}{A0 S0:Nat→Prop}{mp:Option (Value×Bool)}
 {gs:Array Goroutine} {w:World} {t:Trace} {q:Nat→Nat}
theorem PhN.at_(h:PhN P W0 fr cs ρ σ c k l B r A0 S0 mp gs w t q)(d:Nat):PhN P W0 fr cs ρ σ c k l B r A0 S0 mp gs (w.at d) t q :=
  { h with
    sat:=h.sat.at_ d,below:=Sy h.below d,ch:=h.ch,lt:=h.lt,k0:=h.k0
    run:=fun x hx fw cw ρw σw e=>let z:=h.run x hx fw cw ρw σw e;{z with sat:=z.sat.at_ d,kn:=z.kn}
    sent:=fun x hx v ρw p e=>let z:=h.sent x hx v ρw p e;{ z with sat:=z.sat,kp:=z.kp } }
theorem Pr{x y:WK}(hn:(l.map (·.j)).Nodup)(hx:x∈l)(hy:y∈l)(e:x.j=y.j):x=y:=by
 induction l with
 | nil=>cases hx
 | cons a l ih =>
  simp only[Hd,Ol]at hn
  rcases lZ8.1 hx with rfl|hx'<;>rcases lZ8.1 hy with rfl|hy'
  ·rfl
  ·exact absurd (e ▸ Ml (f:=(·.j)) hy') hn.1
  ·exact absurd (e ▸ Ml (f:=(·.j)) hx') hn.1
  ·exact ih hn.2 hx' hy'
theorem Afe{i:Nat}{x x' y:WK}(hn:(l.map (·.j)).Nodup)(hi:l[i]?=some x)(hy:y∈l.set i x'):y=x'∨(y∈l∧y.j≠x.j):=by
 induction l generalizing i with
 | nil=>cases hi
 | cons a l ih =>
  simp only[Hd,Ol]at hn
  cases i with
  | zero =>
   cases hi
   rcases lZ8.1 hy with rfl|hy
   ·exact .inl rfl
   ·exact .inr ⟨lZ0 _ hy,fun e=>hn.1 (e ▸ Ml (f:=(·.j)) hy)⟩
  | succ i =>
   rw[Sl]at hi
   rcases lZ8.1 hy with rfl|hy
   ·exact .inr ⟨Oh ..,fun e=>hn.1 (e ▸ Ml (f:=(·.j)) (lZ6 hi))⟩
   ·exact(ih hn.2 hi hy).imp id fun⟨b,c⟩=>⟨lZ0 _ b,c⟩
theorem Gz{i:Nat}{x x' y:WK}(hi:l[i]?=some x)(hy:y∈l)(hj:y.j≠x.j):y∈l.set i x':=by
 obtain⟨m,hm⟩:=Aau hy
 refine lZ6 (i:=m) ?_
 rw[Rk]
 split
 ·rename_i e;subst e;rw[hm]at hi;cases hi;exact absurd rfl hj
 ·exact hm
theorem Gw{i:Nat}{x x':WK}(hi:l[i]?=some x):x'∈l.set i x':=by
 have hlt:i<l.length:=by
  rcases Mg i l.length with h'|h'
  ·exact h'
  ·rw[Og h']at hi;cases hi
 exact lZ6 (i:=i) (by rw[Rk];simp[hlt])
theorem Oq{β:Type}{f:WK→β}{i:Nat}{x x':WK}(hi:l[i]?=some x)(he:f x'=f x):(l.set i x').map f=l.map f:=by
 rw[Aeh,he]
 apply Ats
 intro m
 rw[Rk]
 split
 ·rename_i e;subst e
  rw[Oj,hi]
  split
  ·rfl
  ·rename_i hlt;exact absurd (by
    rcases Mg i l.length with h'|h'
    ·simpa using h'
    ·rw[Og h']at hi;cases hi) hlt
 ·rfl
theorem Atw{i:Nat}{x y:WK}(hn:(l.map (·.j)).Nodup)(hi:l[i]?=some x)(hy:y∈l.eraseIdx i):y∈l∧y.j≠x.j:=by
 induction l generalizing i with
 | nil=>cases hi
 | cons a l ih =>
  simp only[Hd,Ol]at hn
  cases i with
  | zero =>
   cases hi
   exact⟨lZ0 _ hy,fun e=>hn.1 (e ▸ Ml (f:=(·.j)) hy)⟩
  | succ i =>
   rw[Sl]at hi
   rcases lZ8.1 hy with rfl|hy
   ·exact⟨Oh ..,fun e=>hn.1 (e ▸ Ml (f:=(·.j)) (lZ6 hi))⟩
   ·obtain⟨b,c⟩:=ih hn.2 hi hy;exact⟨lZ0 _ b,c⟩
theorem Na{i:Nat}{x y:WK}(hi:l[i]?=some x)(hy:y∈l)(hj:y.j≠x.j):y∈l.eraseIdx i:=by
 induction l generalizing i with
 | nil=>cases hi
 | cons a l ih =>
  cases i with
  | zero =>
   cases hi
   rcases lZ8.1 hy with rfl|hy
   ·exact absurd rfl hj
   ·exact hy
  | succ i =>
   rw[Sl]at hi
   rcases lZ8.1 hy with rfl|hy
   ·exact Oh ..
   ·exact lZ0 _ (ih hi hy)
theorem WRun.kept{x:WK}{fw:Frame}{cw:List Frame}{ρw:Ro}{σw:Own}{gs':Array Goroutine}{w':World}{u:Trace}(h:WRun P W0 x fw cw ρw σw gs w t)(hg:∃g,gs'[x.j]?=some g∧Is g fw cw)
    (hk:∀b,x.A b∨x.S b→w'.heap[b]?=w.heap[b]?) (hN:w.heap.size≤w'.heap.size) (hu:∀op∈u,∀b,op.act.touch?=some b→Free w'.heap.size (BL x.A) (BL x.S) b):WRun P W0 x fw cw ρw σw gs' w' (t++u) :=
  { h with
    g:=hg
    sat:=h.sat.kept fun b hb=>hk b (hb.elim (fun hb=>.inl (h.aw b hb)) fun hb=>(h.rw_ b hb).symm)
    kn:=h.kn.other hN hu }
theorem WSent.kept{x:WK}{v:Value}{ρw:Ro}{p:Nat}{w':World}{u:Trace}(h:WSent x v ρw p c r B w t)(hk:∀b,x.A b∨x.S b→w'.heap[b]?=w.heap[b]?)(hN:w.heap.size≤w'.heap.size)
    (hu:∀op∈u,∀b,op.act.touch?=some b→Free w'.heap.size (BL x.A) (BL x.S) b):WSent x v ρw p c r B w' (t++u) :=
  { h with
    sat:=fun b o hb=>by
      rw[hk b (h.rw_ b (by rw[hb];rfl)).symm];exact h.sat b o hb
    kp:=h.kp.other hN hu
    at_:=by
      obtain⟨m,op,d,a,e⟩:=h.at_
      exact⟨m,op,d,by rw[getElem?_append_old (lt_size_of_getElem? a)];exact a,e⟩ }
theorem AlOk.app{i:Nat}{x:WK}(u:Trace)(h:AlOk t i x):AlOk (t++u) i x:=by
 unfold AlOk at *
 split
 ·rename_i e;rw[e]at h
  obtain⟨op,a,b⟩:=h
  exact⟨op,by rw[getElem?_append_old (lt_size_of_getElem? a)];exact a,b⟩
 ·rename_i e;rw[e]at h;exact Before.app u h
theorem Acs{A A' S':Nat→Prop}(h:∀b,A b→¬A' b∧¬S' b):∀l,BL A l→¬BL A' l∧¬BL S' l:=fun l ⟨k,d,e⟩=>⟨fun⟨k',a,c⟩=>by rw[d]at a;cases a;exact(h k e).1 c,fun⟨k',a,c⟩=>by rw[d]at a;cases a;exact(h k e).2 c⟩
theorem Yb{A A':Nat→Prop}(h:∀b,A b→¬A' b):∀l,BL A l→¬BL A' l:=fun l ⟨k,c,d⟩ ⟨k',a,e⟩=>by rw[c]at a;cases a;exact h k d e
theorem Aba{A:Nat→Prop}:∀l,BL A l→∃b,Lx l=some b:=fun _ ⟨k,h,_⟩=>⟨k,h⟩
/-- What is new beside A. -/
theorem Akt{A:Nat→Prop}{N N':Nat}:∀l,BL (fun b=>A b∨(N≤b∧b<N')) l→BL A l∨∀b,Lx l=some b→b<N→False:=fun l ⟨k,c,a⟩=>by
 rcases a with a|a
 ·exact .inl ⟨k,c,a⟩
 ·exact .inr fun b hb hl=>by rw[c]at hb;cases hb;omega
theorem Wz{a:Touch}{i:Nat}{u:Trace}(ha:touchAt (t++u) i=some a)(hu:∀op∈u,op.act.touch?=none):touchAt t i=some a:=by
 rcases Di ha with h|⟨op,_,h2,h3,_⟩
 ·exact h
 ·rw[hu op h2]at h3;cases h3
/-- THE FIRST GOROUTINE's OWN STEP. -/
theorem PhN.main{fr':Frame}{cs':List Frame}{w':World}{σ':Own}{es:Array Event}{g':Goroutine}(h:PhN P W0 fr cs ρ σ c k l B r A0 S0 none gs w t q)(ht:Trans ρ σ w σ' w')(hes:∀e∈es,Wb ρ σ' e)
  (g:Goroutine) (hg0:gs[0]?=some g) (hg':Is g' fr' cs') (fn:FuncId) (pos:String) :
  PhN P W0 fr' cs' ρ σ' c k l B r (fun b=>A0 b∨(w.heap.size≤b∧b<w'.heap.size)) S0 none ((gs.map (woken P g g' w')).setIfInBounds 0 g') w' (t++MemOp.ofEvents 0 fn pos es) q:=by
 have hN:=ht.size
 have u:c<w.heap.size:=by obtain⟨cap,tm,hh,_⟩:=h.ch;exact Dq hh
 have hcc:∀o,(c,Res.obj o)∉σ:=fun o ho=>by have:=h.sat.uniq ho h.hc;cases this
 have hfr:∀b,b<w.heap.size→¬A0 b→w'.heap[b]?=w.heap[b]?:=fun b hb hn=>ht.frame b hb fun o ho=>hn (h.am b _ ho fun e=>hcc o (e ▸ ho))
 have hcF:w'.heap[c]?=w.heap[c]?:=hfr c u h.nc.1
 have hxk:∀x∈l,∀b,x.A b∨x.S b→w'.heap[b]?=w.heap[b]?:=fun x hx b hb=>by
  rcases hb with hb|hb
  ·exact hfr b (h.lt b (.inr (.inr ⟨x,hx,hb⟩))) (h.a0 x hx b hb).1
  ·exact hfr b (h.lt b (.inr (.inl (h.ss x hx b hb)))) fun hA=>h.ds b hA (h.ss x hx b hb)
 have ham:∀b x,(b,x)∈σ'→b≠c→A0 b∨(w.heap.size≤b∧b<w'.heap.size):=fun b x hb hc=>by
  rcases ht.keys b (Du hb) with d|d
  ·obtain⟨⟨b',r'⟩,hr',e⟩:=Iu.1 d
   simp only at e;subst e
   exact .inl (h.am _ r' hr' hc)
  ·exact .inr d
 have hrm:∀b,(ρ b).isSome=true→S0 b∨(A0 b∨(w.heap.size≤b∧b<w'.heap.size)):=fun b hb=>(h.rm b hb).imp id .inl
 have m:∀b,((A0 b∨(w.heap.size≤b∧b<w'.heap.size))∨S0 b)→b<w'.heap.size:=fun b hb=>by
  rcases hb with (hb|hb)|hb
  ·exact Ng (h.lt b (.inl hb)) hN
  ·exact hb.2
  ·exact Ng (h.lt b (.inr (.inl hb))) hN
 have hdo:=Avg (N:=w'.heap.size) (A:=fun b=>A0 b∨(w.heap.size≤b∧b<w'.heap.size)) hes (fun b o hb=>ham b _ hb fun e=>by
  have d:=ht.crowdsKept _ _ _ h.hc
  have:=ht.sat.uniq (e ▸ hb) d;cases this) hrm m 0 fn pos
 have hap:∀x∈l,∀b,(A0 b∨(w.heap.size≤b∧b<w'.heap.size))→¬x.A b∧¬x.S b:=fun x hx b hb=>by
  rcases hb with hb|hb
  ·exact⟨fun d=>(h.a0 x hx b d).1 hb,fun d=>h.ds b hb (h.ss x hx b d)⟩
  ·exact⟨fun d=>absurd (h.lt b (.inr (.inr ⟨x,hx,d⟩))) (by omega),fun d=>absurd (h.lt b (.inr (.inl (h.ss x hx b d)))) (by omega)⟩
 have n:∀x∈l,∀op∈MemOp.ofEvents 0 fn pos es,∀b,op.act.touch?=some b→Free w'.heap.size (BL x.A) (BL x.S) b:=fun x hx =>
  hdo.free (Acs (hap x hx)) (Yb fun b hb d=>(h.a0 x hx b d).2 hb)
 exact {
  g0:=fun _=>⟨g',Lf hg0,hg'⟩
  g0p:=fun z f e=>by cases e
  oth:=fun i x hi hx hxi=>by
   rcases Jv hxi with⟨e,_⟩|⟨_,y,hy,rfl⟩
   ·exact absurd e hi
   ·have:=h.oth i y hi hx hy
    rw[Fo this.status];exact this
  j0:=h.j0
  jl:=fun x hx=>by simpa using h.jl x hx
  jn:=h.jn
  run:=fun x hx fw cw ρw σw e=>(h.run x hx fw cw ρw σw e).kept (by
   obtain⟨y,hy,hi⟩:=(h.run x hx fw cw ρw σw e).g
   exact⟨y,by rw[Ei (h.j0 x hx) hy,Fo (.inl hi.1)],hi⟩) (hxk x hx) hN (n x hx)
  sent:=fun x hx v ρw p e=>(h.sent x hx v ρw p e).kept (hxk x hx) hN (n x hx)
  buf:=h.buf
  bn:=h.bn
  ch:=by obtain⟨cap,tm,d,j⟩:=h.ch;exact⟨cap,tm,by rw[hcF];exact d,j⟩
  sat:=ht.sat
  hc:=ht.crowdsKept _ _ _ h.hc
  one:=fun c' k' Rs' hc' hn=>(ht.crowds c' k' Rs' hc').elim (fun d=>h.one c' k' Rs' d hn) fun d=>absurd d.2 hn
  nr:=fun c' vs' hc'=>h.nr c' vs' ((ht.ends _ _).1 hc')
  newk:=Mn h.below h.newk ht
  below:=Le h.below h.newk ht
  am:=ham
  rm:=hrm
  ap:=h.ap
  a0:=fun x hx b hb=>⟨fun d=>(hap x hx b d).1 hb,(h.a0 x hx b hb).2⟩
  ds:=fun b hb d=>by
   rcases hb with hb|hb
   ·exact h.ds b hb d
   ·exact absurd (h.lt b (.inr (.inl d))) (by omega)
  ss:=h.ss
  nc:=⟨fun d=>d.elim h.nc.1 fun d=>by omega,h.nc.2⟩
  lt:=fun b hb=>by
   rcases hb with hb|hb|hb
   ·exact m b (.inl hb)
   ·exact m b (.inr hb)
   ·exact Ng (h.lt b (.inr (.inr hb))) hN
  wl:=h.wl.append hdo.1
  clean:=fun C=>h.k0.noRace (h.clean C) Akt Aba hdo
  k0:=(h.k0.fresh hN Akt Aba).own fun op hop=>(hdo.2 op hop).1
  al:=fun i a ha hm=>by
   rcases Di ha with d|⟨op,d,j,_,_⟩
   ·exact(h.al i a d hm).imp (·.app _) fun⟨x,hx,j⟩=>⟨x,hx,j.app _⟩
   ·have:=knows_own d;rw[(hdo.2 op j).1]at this;exact .inl this }
/-- A WORKER's OWN STEP. -/
theorem PhN.work{i:Nat}{x:WK}{fw fw':Frame}{cw cw':List Frame}{ρw:Ro}{σw σw':Own}{w':World}{es:Array Event}{g':Goroutine}(h:PhN P W0 fr cs ρ σ c k l B r A0 S0 mp gs w t q)(hi:l[i]?=some x)
  (hst:x.st = .run fw cw ρw σw) (ht:Trans ρw σw w σw' w') (hes:∀e∈es,Wb ρw σw' e) (g:Goroutine) (hgj:gs[x.j]?=some g) (hg':Is g' fw' cw') (fn:FuncId) (pos:String) :
  PhN P W0 fr cs ρ σ c k (l.set i {x with A:=fun b=>x.A b∨(w.heap.size≤b∧b<w'.heap.size),st:=.run fw' cw' ρw σw'}) B r A0 S0 mp ((gs.map (woken P g g' w')).setIfInBounds x.j g') w' (t++MemOp.ofEvents x.j fn pos es) q:=by
 have hxl:x∈l:=lZ6 hi
 have hR:=h.run x hxl fw cw ρw σw hst
 have hN:=ht.size
 have K:c<w.heap.size:=by obtain⟨cap,tm,hh,_⟩:=h.ch;exact Dq hh
 have hfr:∀b,b<w.heap.size→¬x.A b→w'.heap[b]?=w.heap[b]?:=fun b hb hn=>ht.frame b hb fun o ho=>hn (hR.aw b (Du ho))
 have hcF:w'.heap[c]?=w.heap[c]?:=hfr c K (h.nc.2.2 x hxl)
 have hyk:∀y∈l,y.j≠x.j→∀b,y.A b∨y.S b→w'.heap[b]?=w.heap[b]?:=fun y hy hj b hb=>by
  rcases hb with hb|hb
  ·exact hfr b (h.lt b (.inr (.inr ⟨y,hy,hb⟩))) (h.ap y hy x hxl hj b hb).1
  ·exact hfr b (h.lt b (.inr (.inl (h.ss y hy b hb)))) fun hA=>(h.a0 x hxl b hA).2 (h.ss y hy b hb)
 have haw:∀b∈keys σw',x.A b∨(w.heap.size≤b∧b<w'.heap.size):=fun b hb=>(ht.keys b hb).imp (hR.aw b) id
 have hrw:∀b,(ρw b).isSome=true→x.S b∨(x.A b∨(w.heap.size≤b∧b<w'.heap.size)):=fun b hb=>(hR.rw_ b hb).imp id .inl
 have I:∀b,((x.A b∨(w.heap.size≤b∧b<w'.heap.size))∨x.S b)→b<w'.heap.size:=fun b hb=>by
  rcases hb with (hb|hb)|hb
  ·exact Ng (h.lt b (.inr (.inr ⟨x,hxl,hb⟩))) hN
  ·exact hb.2
  ·exact Ng (h.lt b (.inr (.inl (h.ss x hxl b hb)))) hN
 have hdo:=Avg (N:=w'.heap.size) (A:=fun b=>x.A b∨(w.heap.size≤b∧b<w'.heap.size)) hes (fun b o hb=>haw b (Du hb)) hrw I x.j fn pos
 have hap:∀y∈l,y.j≠x.j→∀b,(x.A b∨(w.heap.size≤b∧b<w'.heap.size))→¬y.A b∧¬y.S b:=fun y hy hj b hb=>by
  rcases hb with hb|hb
  ·exact h.ap x hxl y hy (Ne.symm hj) b hb
  ·exact⟨fun d=>absurd (h.lt b (.inr (.inr ⟨y,hy,d⟩))) (by omega),fun d=>absurd (h.lt b (.inr (.inl (h.ss y hy b d)))) (by omega)⟩
 have G:∀b,(x.A b∨(w.heap.size≤b∧b<w'.heap.size))→¬A0 b∧¬S0 b:=fun b hb=>by
  rcases hb with hb|hb
  ·exact h.a0 x hxl b hb
  ·exact⟨fun d=>absurd (h.lt b (.inl d)) (by omega),fun d=>absurd (h.lt b (.inr (.inl d))) (by omega)⟩
 have H:∀y∈l,y.j≠x.j→∀op∈MemOp.ofEvents x.j fn pos es,∀b,op.act.touch?=some b→Free w'.heap.size (BL y.A) (BL y.S) b:=fun y hy hj =>
  hdo.free (Acs (hap y hy hj)) (Yb fun b hb d=>(h.a0 y hy b d).2 (h.ss x hxl b hb))
 have L:∀op∈MemOp.ofEvents x.j fn pos es,∀b,op.act.touch?=some b→Free w'.heap.size (BL A0) (BL S0) b :=
  hdo.free (Acs G) (Yb fun b hb d=>h.ds b d (h.ss x hxl b hb))
 have hm:∀{y},y∈l.set i {x with A:=fun b=>x.A b∨(w.heap.size≤b∧b<w'.heap.size),st:=.run fw' cw' ρw σw'}→y={x with A:=fun b=>x.A b∨(w.heap.size≤b∧b<w'.heap.size),st:=.run fw' cw' ρw σw'}∨(y∈l∧y.j≠x.j):=fun hy=>Afe h.jn hi hy
 have hmj:(l.set i {x with A:=fun b=>x.A b∨(w.heap.size≤b∧b<w'.heap.size),st:=.run fw' cw' ρw σw'}).map (·.j)=l.map (·.j):=Oq hi rfl
 have hmR:(l.set i {x with A:=fun b=>x.A b∨(w.heap.size≤b∧b<w'.heap.size),st:=.run fw' cw' ρw σw'}).map (·.R)=l.map (·.R):=Oq hi rfl
 exact {
  g0:=fun e=>by
   obtain⟨y,hy,hi⟩:=h.g0 e
   exact⟨y,by rw[Ei (Ne.symm (h.j0 x hxl)) hy,Fo (.inl hi.1)],hi⟩
  g0p:=fun z f e=>by
   obtain⟨d,u⟩:=h.g0p z f e
   obtain⟨cap,tm,hh,_⟩:=h.ch
   exact⟨by rw[Ei (Ne.symm (h.j0 x hxl)) d,woken_recv_open _ _ (hcF.trans hh)],u⟩
  oth:=fun m y M F hy=>by
   have hmj:m≠x.j:=fun e=>by
    obtain⟨v,D,p,C⟩:=F _ (Gw hi) e.symm
    cases C
   rcases Jv hy with⟨e,_⟩|⟨_,z,hz,rfl⟩
   ·exact absurd e hmj
   ·have:=h.oth m z M (fun y hy e=>F y (Gz hi hy (by rw[e];exact hmj)) e) hz
    rw[Fo this.status];exact this
  j0:=fun y hy=>by
   rcases hm hy with rfl|⟨hy,_⟩
   ·exact h.j0 x hxl
   ·exact h.j0 y hy
  jl:=fun y hy=>by
   rcases hm hy with rfl|⟨hy,_⟩
   ·simpa using h.jl x hxl
   ·simpa using h.jl y hy
  jn:=by rw[hmj];exact h.jn
  run:=fun y hy U T V W e=>by
   rcases hm hy with rfl|⟨hy,hj⟩
   ·cases e
    exact⟨⟨g',Lf hgj,hg'⟩,ht.sat,Mn h.below hR.newk ht,haw,hrw,(hR.kn.fresh hN Akt Aba).own fun op hop=>(hdo.2 op hop).1⟩
   ·refine(h.run y hy _ _ _ _ e).kept ?_ (hyk y hy hj) hN (H y hy hj)
    obtain⟨z,hz,hi⟩:=(h.run y hy _ _ _ _ e).g
    exact⟨z,by rw[Ei hj hz,Fo (.inl hi.1)],hi⟩
  sent:=fun y hy v D p e=>by
   rcases hm hy with rfl|⟨hy,hj⟩
   ·cases e
   ·exact(h.sent y hy v D p e).kept (hyk y hy hj) hN (H y hy hj)
  buf:=fun j v hb=>by
   obtain⟨y,hy,e,D,p,C⟩:=h.buf j v hb
   exact⟨y,Gz hi hy (fun ej=>by have:=Pr h.jn hy hxl ej;subst this;rw[hst]at C;cases C),e,D,p,C⟩
  bn:=h.bn
  ch:=by obtain⟨cap,tm,d,u⟩:=h.ch;exact⟨cap,tm,by rw[hcF];exact d,by simpa using u⟩
  sat:=h.sat.kept fun b hb=>by
   rcases hb with hb|hb
   ·by_cases hbc:b=c
    ·rw[hbc];exact hcF
    ·obtain⟨⟨b',y⟩,hy,e⟩:=Iu.1 hb
     simp only at e;subst e
     have hA:=h.am _ y hy hbc
     exact hfr b' (h.lt b' (.inl hA)) fun d=>(h.a0 x hxl b' d).1 hA
   ·rcases h.rm b hb with d|d
    ·exact hfr b (h.lt b (.inr (.inl d))) fun u=>(h.a0 x hxl b u).2 d
    ·exact hfr b (h.lt b (.inl d)) fun u=>(h.a0 x hxl b u).1 d
  hc:=by rw[hmR];exact h.hc
  one:=h.one
  nr:=h.nr
  newk:=h.newk
  below:=Le h.below hR.newk ht
  am:=h.am
  rm:=h.rm
  ap:=fun y hy z hz hj b hb=>by
   rcases hm hy with rfl|⟨hy,hyj⟩<;>rcases hm hz with rfl|⟨hz,hzj⟩
   ·exact absurd rfl hj
   ·exact hap z hz hzj b hb
   ·exact⟨fun d=>(hap y hy hyj b d).1 hb,(h.ap y hy x hxl hyj b hb).2⟩
   ·exact h.ap y hy z hz hj b hb
  a0:=fun y hy b hb=>by
   rcases hm hy with rfl|⟨hy,_⟩
   ·exact G b hb
   ·exact h.a0 y hy b hb
  ds:=h.ds
  ss:=fun y hy b hb=>by
   rcases hm hy with rfl|⟨hy,_⟩
   ·exact h.ss x hxl b hb
   ·exact h.ss y hy b hb
  nc:=⟨h.nc.1,h.nc.2.1,fun y hy d=>by
   rcases hm hy with rfl|⟨hy,_⟩
   ·exact d.elim (h.nc.2.2 x hxl) fun d=>by omega
   ·exact h.nc.2.2 y hy d⟩
  lt:=fun b hb=>by
   rcases hb with hb|hb|⟨y,hy,hb⟩
   ·exact Ng (h.lt b (.inl hb)) hN
   ·exact Ng (h.lt b (.inr (.inl hb))) hN
   ·rcases hm hy with rfl|⟨hy,_⟩
    ·exact I b (.inl hb)
    ·exact Ng (h.lt b (.inr (.inr ⟨y,hy,hb⟩))) hN
  wl:=h.wl.append hdo.1
  clean:=fun O=>hR.kn.noRace (h.clean O) Akt Aba hdo
  k0:=h.k0.other hN L
  al:=fun n a ha hm'=>by
   rcases Di ha with d|⟨op,d,u,_,_⟩
   ·rcases h.al n a d hm' with h3|⟨y,hy,h3⟩
    ·exact .inl (h3.app _)
    ·by_cases hj:y.j=x.j
     ·have:=Pr h.jn hy hxl hj
      subst this
      unfold AlOk at h3
      rw[hst]at h3
      obtain⟨op,E,J⟩:=h3
      exact .inr ⟨_,Gw hi,op,by rw[getElem?_append_old (lt_size_of_getElem? E)];exact E,J⟩
     ·exact .inr ⟨y,Gz hi hy hj,h3.app _⟩
   ·exact .inr ⟨_,Gw hi,op,d,(hdo.2 op u).1⟩ }
end
end
end Go.Proofs.YtjdkajkimeainaaGreatDoor
