/- Part 1 of what all laws of layer 8 need: a logic of programs that start goroutines, and what the functions yield. -/
import Derived.Below
import Derived.Conc.Beside
import Derived.Conc.CrowdBase
import Derived.Conc.CrowdComm
import Derived.Conc.Know
import Derived.Conc.Own
import Derived.Laws.BitsAllLaws
import Derived.Laws.BitsLemmas
import Derived.Laws.Closers25b
import Derived.Orders
import Derived.Test.YtekhlbdfjkndnaaGreatDoorProg
set_option linter.unusedVariables false
set_option linter.unusedSimpArgs false
set_option maxRecDepth 100000
set_option maxHeartbeats 4000000
namespace Go.Proofs.YtekhlbdfjkndnaaGreatDoor
open Go
section
abbrev o1:=true
abbrev o0:=false
abbrev iV(n:Int):Value:=.int .i64 n
abbrev z0:Value:=.int .i64 0
abbrev nS:Value:=.slice none 0 0
abbrev lZ0:=@List.mem_cons_of_mem
abbrev lZ1:=@List.getElem?_eq_some_iff
abbrev lZ2:=@of_decide_eq_false
abbrev lZ3:=@of_decide_eq_true
abbrev lZ4:=@List.length_append
abbrev lZ5:=@List.mem_append_right
abbrev lZ6:=@List.mem_of_getElem?
abbrev lZ7:=@Nat.le_of_ble_eq_true
abbrev lZ8:=@List.mem_cons
abbrev lZ9:=@List.append_assoc
abbrev Hr:=@Nat.eq_of_beq_eq_true
abbrev Gb:=@List.length_cons
abbrev Iz:=@List.mem_append_left
abbrev Jw:=@List.getElem?_toArray
abbrev Gv:=@List.mem_append
abbrev Oz:=@List.getD_eq_getElem?_getD
abbrev Ps:=@List.getElem?_eq_getElem
abbrev Ji:=@decide_eq_false
abbrev Nh:=@List.mem_singleton
abbrev Lo:=@List.length_take
abbrev Ic:=@List.map_cons
abbrev Hn:=@Nat.zero_le
abbrev Mi:=@List.map_append
abbrev Pa:=@Nat.lt_of_lt_of_le
abbrev Pb:=@List.getElem?_map
abbrev Ib:=@Nat.le_refl
abbrev Nx:=@List.length_nil
abbrev Pc:=@Bool.and_eq_true
abbrev Sr:=@List.getElem?_eq_none
abbrev Se:=@List.getElem?_of_mem
abbrev Rk:=@List.mem_map_of_mem
abbrev Lp:=@List.mem_map
abbrev Xm:=@List.getElem?_cons_succ
abbrev Rg:=@List.mem_filter
abbrev Zc:=@List.getElem?_take_of_lt
abbrev Qx:=@decide_eq_true
abbrev Sz:=@List.cons_append
abbrev Xo:=@List.length_singleton
abbrev Vb:=@List.mem_cons_self
abbrev Te:=@List.all_eq_true
abbrev Tf:=@List.length_drop
abbrev Tb:=@List.nodup_cons
abbrev Vc:=@List.getElem?_set
abbrev Zd:=@List.take_append_drop
abbrev Qz:=@Nat.zero_add
abbrev Ui:=@List.append_nil
abbrev Uk:=@Nat.not_lt_zero
abbrev Agh:=@Array.getElem?_eq_some_iff
abbrev Yk:=@Int.toNat_natCast
abbrev Ym:=@List.take_add_one
abbrev Xp:=@List.not_mem_nil
abbrev Aiv:=@List.getElem?_append_left
abbrev Amx:=@Array.getElem?_append_right
abbrev Tj:=@Nat.le_trans
abbrev Tk:=@Nat.lt_or_ge
abbrev Xr:=@List.length_set
abbrev Adz:=@Array.toArray_toList
abbrev Amy:=@List.drop_eq_getElem_cons
abbrev Ack:=@Array.empty_append
abbrev Aea:=@Array.append_empty
abbrev Ve:=@Int.le_refl
abbrev Abj:=@List.length_map
abbrev Aiw:=@Bool.false_eq_true
abbrev Agl:=@List.range'_succ
abbrev Agm:=@List.take_length
abbrev Aix:=@List.nodup_append
abbrev Aiy:=@List.size_toArray
abbrev Bar:=@List.eq_nil_of_length_eq_zero
abbrev Atr:=@List.take_of_length_le
abbrev Yo:=@Nat.add_mul
abbrev Agn:=@List.nil_append
abbrev Awz:=@Array.size_setIfInBounds
abbrev Abk:=@Nat.add_zero
abbrev Bas:=@Array.getD_eq_getD_getElem?
abbrev Bhd:=@Array.getElem?_setIfInBounds_ne
abbrev Amz:=@Option.getD_some
abbrev Aov:=@Nat.one_shiftLeft
abbrev Bat:=@Option.isSome_iff_exists
abbrev Anb:=@Nat.and_le_left
abbrev Ats:=@Int.natCast_nonneg
abbrev Att:=@List.getElem?_drop
abbrev Aow:=@List.mem_toArray
abbrev Axa:=@Nat.pow_le_pow_right
abbrev Btg:=@Array.getElem?_setIfInBounds_self_of_lt
abbrev Anc:=@Nat.mul_le_mul
abbrev Aox:=@Nat.min_eq_left
abbrev Aoy:=@Option.map_some
abbrev Atu:=@Nat.succ_ne_self
abbrev Bau:=@Array.mapM_eq_foldlM
abbrev Aoz:=@List.drop_drop
abbrev Apa:=@List.drop_zero
abbrev Bhe:=@List.getElem?_cons_zero
abbrev Axb:=@List.ext_getElem?
abbrev Axc:=@Nat.shiftRight_le
abbrev Bna:=@List.perm_append_comm_assoc
abbrev Bav:=@Array.getElem?_push
abbrev Bhf:=@Array.getElem?_eq_none
abbrev Bhg:=@Array.getElem?_toList
abbrev Bhh:=@List.length_replicate
abbrev Axd:=@List.foldl_cons
abbrev Bcx:=@Nat.and_two_pow_sub_one_eq_mod
abbrev Amm:=@Bool.eq_false_iff
abbrev Amn:=@List.foldl_append
abbrev Bcy:=@List.drop_append_of_le_length
abbrev Aqh:=@List.map_congr_left
abbrev Amo:=@List.perm_middle
abbrev Awk:=@List.drop_eq_nil_of_le
abbrev Awl:=@List.sublist_cons_self
abbrev Aqi:=@Nat.lt_of_le_of_lt
abbrev Amq:=@Bool.eq_iff_iff
abbrev Awm:=@Bool.or_eq_false_iff
abbrev Awn:=@List.range_eq_range'
abbrev Awo:=@Nat.mul_le_mul_right
abbrev Amr:=@Array.mem_push
abbrev Ams:=@List.take_left
abbrev Amt:=@Nat.testBit_or
abbrev Aqj:=@List.any_eq_true
abbrev Aqk:=@List.foldlM_cons
abbrev Aql:=@List.getElem_mem
abbrev Aie:=@List.set_set
abbrev Aqm:=@Nat.lt_succ_self
abbrev Aif:=@Nat.ne_of_lt
abbrev Awp:=@List.getElem?_range
abbrev Awq:=@List.toList_toArray
abbrev Awr:=@Option.isSome_none
abbrev Bcz:=@List.getElem?_set_self
abbrev Aws:=@Nat.lt_succ_of_lt
abbrev Awt:=@Nat.or_lt_two_pow
abbrev Bda:=@Array.getElem?_modify
abbrev Bdb:=@List.contains_iff_mem
abbrev Aqn:=@List.nodup_nil
abbrev Amu:=@Nat.le_of_eq
abbrev Bdc:=@Array.push_eq_append
abbrev Bdd:=@List.mem_of_mem_take
abbrev Bde:=@Nat.pow_lt_pow_right
abbrev Awu:=@Nat.succ_le_succ
abbrev Aqo:=@List.all_cons
abbrev Blw:=@List.getElem?_append_right
abbrev Amw:=@Nat.one_mul
abbrev Bdf:=@Int.toNat_of_nonneg
abbrev Bdg:=@List.length_pos_iff
abbrev Blx:=@Array.getElem?_eq_getElem
abbrev Awv:=@Bool.or_eq_true
abbrev Bly:=@List.extract_eq_take_drop
abbrev Blz:=@List.mem_or_eq_of_mem_set
abbrev Bdh:=@Array.getElem?_map
abbrev Bdi:=@List.forIn_toArray
abbrev Aqp:=@List.map_set
abbrev Bdj:=@List.set_cons_zero
abbrev Bma:=@List.set_eq_of_length_le
abbrev Aqq:=@Nat.add_comm
abbrev Aqr:=@Nat.pow_succ
abbrev Aqs:=@Nat.sub_zero
abbrev Bmb:=@List.getElem?_replicate
abbrev Bmc:=@List.length_eq_zero_iff
abbrev Bmd:=@Nat.testBit_mod_two_pow
abbrev Bdk:=@Array.toList_push
abbrev Bdl:=@List.any_eq_false
abbrev Bdm:=@List.flatten_cons
abbrev Bdn:=@List.length_range
abbrev Bdo:=@Nat.lt_trichotomy
abbrev Bvn:=@List.set_eq_take_append_cons_drop
abbrev Aqt:=@Nat.mul_one
abbrev Bdp:=@Nat.div_eq_of_lt
abbrev Bdq:=@Nat.mod_eq_of_lt
abbrev Bme:=@Array.getElem?_of_mem
abbrev Bmf:=@Bool.and_eq_false_iff
abbrev Bmg:=@List.mem_iff_getElem?
abbrev Bmh:=@List.singleton_append
abbrev Bmi:=@Nat.ble_eq_true_of_le
abbrev Bdr:=@List.forIn_cons
abbrev Bds:=@List.range_succ
abbrev Bmj:=@Nat.eq_of_testBit_eq
abbrev Aqu:=@Nat.mod_lt
abbrev Aww:=@Nat.sub_self
abbrev Awx:=@Nat.zero_mul
abbrev Bvo:=@List.take_append_of_le_length
abbrev Bmk:=@Array.toList_filter
abbrev Bml:=@Array.toList_modify
abbrev Bmm:=@List.foldlM_toArray
abbrev Bmn:=@List.getElem_of_mem
abbrev Bdt:=@Bool.and_false
abbrev Bdu:=@List.drop_left
abbrev Bdv:=@List.mem_range
abbrev Awy:=@Nat.or_zero
abbrev Bmo:=@List.append_of_mem
abbrev Bmp:=@List.filter_append
abbrev Bmq:=@List.getElem?_take
abbrev Bmr:=@List.getElem_range
abbrev Bms:=@Option.isSome_some
abbrev Bdw:=@List.map_take
abbrev Bdx:=@Nat.and_assoc
abbrev Bmt:=@Array.toList_inj
abbrev Bmu:=@Array.toList_map
abbrev Bdy:=@Int.add_zero
abbrev Bmv:=@List.all_toArray
abbrev Bdz:=@List.map_map
abbrev Bmw:=@List.mem_flatMap
abbrev Bmx:=@List.zipIdx_cons
abbrev Bmy:=@Nat.le_add_right
abbrev Bmz:=@Option.bind_some
abbrev bZ0:List UInt8:=[48,49,50,51,52,53,54,55,56,57,97,98,99,100,101,102,103,104,105,106,107,108,109,110,111,112,113,114,115,116,117,118,119,120,121,122]
abbrev bZ1:List UInt8:=[98,111,111,107,32]
abbrev bZ2:List UInt8:=[98,111,111,107]
abbrev zT(a b:Nat):List Bool:=List.replicate a true++List.replicate b false
abbrev zZ0:=zT 8 1
abbrev zZ1:=zT 9 0
abbrev zZ2:=zT 11 5
abbrev zZ3:=zT 12 4
abbrev zZ4:=zT 13 3
abbrev zZ5:=zT 14 2
abbrev zZ6:=zT 15 1
abbrev zZ7:=zT 16 0
theorem bZl:(∀b,(true&&b)=b)/\(∀b,(false&&b)=false)/\(∀b,(b&&true)=b)/\(∀b,(b&&false)=false)/\(∀b,(true||b)=true)/\(∀b,(false||b)=b)/\(∀b,(b||true)=true)/\(∀b,(b||false)=b)/\(!true)=false/\(!false)=true:=by simp
def zR:Bool->List Nat->List Bool
  | _,[]=>[]
  | b,n::l=>List.replicate n b++zR (!b) l
abbrev bF:Value:=.bool false
abbrev bT:Value:=.bool true
abbrev pV(r:Nat):Value:=.pointer (some ⟨r,0,none⟩)
theorem nL{a b}(h:Nat.ble a b=true:=by exact rfl):a<=b:=lZ7 h
theorem mC{α:Type _}{a:α}{l:List α}:a∈a::l:=Vb
abbrev Ro:=Nat->Option Obj
inductive Res where
 | obj (o:Obj)
 | chan
 | recv (vs:List Value)
 | crowd (k:Nat) (Rs:List (Value->Ro->Prop))
abbrev Own:=List (Nat×Res)
def keys(Z:Own):List Nat:=Z.map Prod.fst
def Res.fits(W:World)(b:Nat):Res->Prop
 | .obj o=>W.heap[b]?=some o/\o.isChan=false
 | .chan=>∃s r tm,W.heap[b]?=some (.chan 0 #[] false s r tm)
 | .recv _=>∃s r cl tm,W.heap[b]?=some (.chan 0 #[] cl s r tm)
 | .crowd k Rs=>∃cap buf s r tm,W.heap[b]?=some (.chan cap buf false s r tm)/\k+Rs.length<=cap/\(Rs=[]->buf = #[]/\s=r)
structure Sat(Y:Ro)(Z:Own)(W:World):Prop where
 ro:∀b o,Y b=some o->W.heap[b]?=some o/\o.isChan=false
 own:∀p∈Z,p.2.fits W p.1
 nd:(keys Z).Nodup
 dj:∀b∈keys Z,Y b=none
def Has(Y:Ro)(Z:Own)(b:Nat)(o:Obj):Prop:=Y b=some o∨(b,Res.obj o)∈Z
def Gy:Obj->Nat->Option Value
 | .cells c _ _,i=>c[i]?
 | _,_=>none
def Bwc:Mark->Prop
 | .extern _=>True
 | m=>Conc.Neutral m
def Xk:Obj->Option (TypeId×Nat)
 | .cells c t _=>some (t,c.size)
 | _=>none
def Lv(o:Obj)(i:Nat):Bool :=
 match o with
 | .cells _ _ (lo,hi)=>lo<=i&&i<hi
 | _=>false
def Sj:Obj->Bool
 | .cells ..=>true
 | _=>false
def single:Value->Bool
 | .agg _ | .tuple _=>false
 | _=>true
def wpS{α:Type}(P:Program)(Y:Ro):Sem α->Own->(α->Own->Prop)->Prop
 | .pure a,Z,Q=>Q a Z
 | .load m a k,Z,Q=>m = .plain/\a.spot=none/\∃o v,Has Y Z a.block o/\Gy o a.off=some v/\wpS P Y (k v) Z Q
 | .store m a v k,Z,Q=>m = .plain/\a.spot=none/\single v=true/\∃i c t fz,Z[i]?=some (a.block,.obj (.cells c t fz))/\a.off<c.size /\
   Lv (.cells c t fz) a.off=false/\wpS P Y k (Z.set i (a.block,.obj (.cells (c.setIfInBounds a.off v) t fz))) Q
 | .new o k,Z,Q=>(o.isChan=false/\∀r,wpS P Y (k r) ((r,.obj o)::Z) Q)∨(o = .chan 0 #[] false 0 0 false/\∀r,wpS P Y (k r) ((r,.chan)::Z) Q) ∨
   (∃n,o = .chan n #[] false 0 0 false/\∀r,wpS P Y (k r) ((r,.crowd n [])::Z) Q)
 | .shape r k,Z,Q=>∃o,Has Y Z r o/\wpS P Y (k (Xk o)) Z Q
 | .freeze a n k,Z,Q=>(n=0/\wpS P Y k Z Q)∨(n≠0/\∃i c t lo hi,Z[i]?=some (a.block,.obj (.cells c t (lo,hi))) /\
   wpS P Y k (Z.set i (a.block,.obj (.cells c t (if lo==hi then (a.off,a.off+n) else (min lo a.off,max hi (a.off+n)))))) Q)
 | .frozen a k,Z,Q=>∃o,Has Y Z a.block o/\wpS P Y (k (Lv o a.off)) Z Q
 | .getObj r k,Z,Q=>∃o,Has Y Z r o/\Sj o=false/\wpS P Y (k o) Z Q
 | .setObj r o k,Z,Q=>o.isChan=false/\∃i o9,Z[i]?=some (r,.obj o9)/\Sj o9=false/\wpS P Y k (Z.set i (r,.obj o)) Q
 | .choose q k,Z,Q=>if q.forced then wpS P Y (k 0) Z Q else ∀t,wpS P Y (k (q.cut t)) Z Q
 | .sys _ _,_,_=>False
 | .program k,Z,Q=>wpS P Y (k P) Z Q
 | .mark m k,Z,Q=>Bwc m/\wpS P Y k Z Q
 | .halt _,_,_=>False
structure Trans(Y:Ro)(Z:Own)(W:World)(Z':Own)(W':World):Prop where
 sat:Sat Y Z' W'
 size:W.heap.size<=W'.heap.size
 keys:∀b∈keys Z',b∈keys Z∨(W.heap.size<=b/\b<W'.heap.size)
 kept:∀b∈Go.Proofs.YtekhlbdfjkndnaaGreatDoor.keys Z,b∈Go.Proofs.YtekhlbdfjkndnaaGreatDoor.keys Z'
 fresh:∀b,W.heap.size<=b->b<W'.heap.size->b∈Go.Proofs.YtekhlbdfjkndnaaGreatDoor.keys Z'
 frame:∀b,b<W.heap.size->(∀o,(b,Res.obj o)∉Z)->W'.heap[b]?=W.heap[b]?
 ends:∀c vs,(c,Res.recv vs)∈Z'↔(c,Res.recv vs)∈Z
 chans:∀c,(c,Res.chan)∈Z'->(c,Res.chan)∈Z∨W.heap.size<=c
 chansKept:∀c,(c,Res.chan)∈Z->(c,Res.chan)∈Z'
 crowds:∀c k Rs,(c,Res.crowd k Rs)∈Z'->(c,Res.crowd k Rs)∈Z∨(W.heap.size<=c/\Rs=[])
 crowdsKept:∀c k Rs,(c,Res.crowd k Rs)∈Z->(c,Res.crowd k Rs)∈Z'
 tape:W'.tape=W.tape
 os:W'.os=W.os
 output:W'.output=W.output
def Acx(Y:Ro)(Z:Own)(e:Event):Prop :=
 (∃a,e.loc = .cell a/\e.sync=false/\((∃o,(a.block,Res.obj o)∈Z)∨(e.write=false/\(Y a.block).isSome=true))) ∨
 (∃r,e.loc = .obj r/\e.sync=false/\((∃o,(r,Res.obj o)∈Z)∨(e.write=false/\(Y r).isSome=true))) ∨
 (∃m,e.loc = .mark m/\Conc.Neutral m)
theorem Du{Z b r}(h:(b,r)∈Z):b∈keys Z:=Lp.2 ⟨_,h,rfl⟩
theorem Sat.has{Y Z W}(h:Sat Y Z W){b o}(hb:Has Y Z b o):W.heap[b]?=some o/\o.isChan=false:=by
 rcases hb with hb|hb
 ·exact h.ro _ _ hb
 ·exact h.own _ hb
theorem Trans.refl{Y Z W}(h:Sat Y Z W):Trans Y Z W Z W :=
 ⟨h,Ib _,fun _ hb=>.inl hb,fun _ hb=>hb,fun _ b a=>absurd a (by omega),fun _ _ _=>rfl,fun _ _=>Iff.rfl,fun _ h=>.inl h,fun _ h=>h,fun _ _ _ h=>.inl h,fun _ _ _ h=>h,rfl,rfl,rfl⟩
theorem Dq{W:World}{b o}(h:W.heap[b]?=some o):b<W.heap.size:=by
 rcases Tk b W.heap.size with h'|h'
 ·exact h'
 ·rw[Bhf h']at h;cases h
theorem Res.fits_lt{W b}{r:Res}(h:r.fits W b):b<W.heap.size:=by
 cases r with
 | obj o=>exact Dq h.1
 | chan=>obtain⟨s,r,tm,h⟩:=h;exact Dq h
 | recv vs=>obtain⟨s,r,cl,tm,h⟩:=h;exact Dq h
 | crowd k Rs=>obtain⟨cap,buf,s,r,tm,h,_⟩:=h;exact Dq h
theorem Res.fits_of{W W':World}{b:Nat}{r:Res}(h:r.fits W b)(e:W'.heap[b]?=W.heap[b]?):r.fits W' b:=by
 cases r with
 | obj o=>exact⟨by rw[e];exact h.1,h.2⟩
 | chan=>obtain⟨s,r,tm,hh⟩:=h;exact⟨s,r,tm,by rw[e];exact hh⟩
 | recv vs=>obtain⟨s,r,cl,tm,hh⟩:=h;exact⟨s,r,cl,tm,by rw[e];exact hh⟩
 | crowd k Rs=>obtain⟨cap,buf,s,r,tm,hh,a⟩:=h;exact⟨cap,buf,s,r,tm,by rw[e];exact hh,a⟩
theorem Sat.key_lt{Y Z W}(h:Sat Y Z W){b}(hb:b∈Go.Proofs.YtekhlbdfjkndnaaGreatDoor.keys Z):b<W.heap.size:=by obtain⟨p,hp,rfl⟩:=Lp.1 hb;exact Res.fits_lt (h.own p hp)
theorem Sat.uniq{Y Z W}(h:Sat Y Z W){b r r'}(h1:(b,r)∈Z)(h2:(b,r')∈Z):r=r':=by
 have nd:=h.nd;clear h;induction Z with
 | nil=>cases h1
 | cons p Z ih =>
  simp only[Go.Proofs.YtekhlbdfjkndnaaGreatDoor.keys,Ic,Tb]at nd;rcases lZ8.1 h1 with rfl|h1'<;>rcases lZ8.1 h2 with h2'|h2'
  ·injection h2' with _ e;exact e.symm
  ·exact absurd (Du h2') nd.1
  ·subst h2';exact absurd (Du h1') nd.1
  ·exact ih h1' h2' nd.2
theorem Trans.objs{Y Z Z' W W'}(h0:Sat Y Z W)(h:Trans Y Z W Z' W'){b o}(hb:(b,Res.obj o)∈Z):∃o',(b,Res.obj o')∈Z':=by
 obtain⟨⟨b',r⟩,hr,e⟩:=Lp.1 (h.kept b (Du hb));simp only at e;subst e;cases r with
 | obj o'=>exact⟨o',hr⟩
 | chan =>
  rcases h.chans _ hr with h1|h1
  ·exact absurd (h0.uniq hb h1) (by simp)
  ·exact absurd (h0.key_lt (Du hb)) (by omega)
 | recv vs=>exact absurd (h0.uniq hb ((h.ends _ _).1 hr)) (by simp)
 | crowd k Rs =>
  rcases h.crowds _ _ _ hr with h1|⟨h1,_⟩
  ·exact absurd (h0.uniq hb h1) (by simp)
  ·exact absurd (h0.key_lt (Du hb)) (by omega)
theorem Trans.objs_back{Y Z Z' W W'}(h0:Sat Y Z W)(h:Trans Y Z W Z' W'){b o}(hb:(b,Res.obj o)∈Z'):(∃o',(b,Res.obj o')∈Z)∨W.heap.size<=b:=by
 rcases h.keys b (Du hb) with h1|⟨h1,_⟩
 ·obtain⟨⟨b',r⟩,hr,e⟩:=Lp.1 h1;simp only at e;subst e;cases r with
  | obj o'=>exact .inl ⟨o',hr⟩
  | chan=>exact absurd (h.sat.uniq hb (h.chansKept _ hr)) (by simp)
  | recv vs=>exact absurd (h.sat.uniq hb ((h.ends _ _).2 hr)) (by simp)
  | crowd k Rs=>exact absurd (h.sat.uniq hb (h.crowdsKept _ _ _ hr)) (by simp)
 ·exact .inr h1
theorem Trans.trans{Y Z Z' Z'' W W' W''}(h0:Sat Y Z W)(h:Trans Y Z W Z' W')(h':Trans Y Z' W' Z'' W''):Trans Y Z W Z'' W'':=by
 refine⟨h'.sat,Tj h.size h'.size,fun b hb=>?_,fun b hb=>h'.kept _ (h.kept _ hb),fun b a d=>?_,fun b hb hn=>?_,fun c vs=>(h'.ends c vs).trans (h.ends c vs),fun c hc=>?_,fun c hc=>h'.chansKept c (h.chansKept c hc),fun c k Rs hc=>?_,fun c k Rs hc=>h'.crowdsKept c k Rs (h.crowdsKept c k Rs hc),h'.tape.trans h.tape,h'.os.trans h.os,h'.output.trans h.output⟩
 ·rcases h'.keys b hb with a|⟨a,d⟩
  ·rcases h.keys b a with h3|⟨h3,h4⟩
   ·exact .inl h3
   ·exact .inr ⟨h3,Pa h4 h'.size⟩
  ·exact .inr ⟨Tj h.size a,d⟩
 ·rcases Tk b W'.heap.size with h3|h3
  ·exact h'.kept _ (h.fresh b a h3)
  ·exact h'.fresh b h3 d
 ·rw[h'.frame b (Pa hb h.size) ?_,h.frame b hb hn];intro o ho;rcases h.objs_back h0 ho with⟨o',a⟩|a
  ·exact hn _ a
  ·omega
 ·rcases h'.chans c hc with a|a
  ·exact h.chans c a
  ·exact .inr (Tj h.size a)
 ·rcases h'.crowds c k Rs hc with a|⟨a,d⟩
  ·exact h.crowds c k Rs a
  ·exact .inr ⟨Tj h.size a,d⟩
theorem Tt{Z i b r r'}(h:Z[i]?=some (b,r)):keys (Z.set i (b,r'))=keys Z:=by
 unfold keys;rw[Aqp];apply Axb;intro j;rw[Vc];split
 ·rename_i e;subst e;split
  ·rw[Pb,h];rfl
  ·rename_i hlt;rw[Sr (by simpa using hlt)]
 ·rfl
theorem Gq{Z i b r r'}(h:Z[i]?=some (b,r))(nd:(keys Z).Nodup){p}(hp:p∈Z.set i (b,r')):p=(b,r')∨(p∈Z/\p.1≠b):=by
 obtain⟨j,hj,e⟩:=Bmn hp;rw[List.getElem_set]at e;split at e
 ·exact .inl e.symm
 ·rename_i hne;rw[Xr]at hj;refine .inr ⟨e ▸ Aql _,fun hb=>?_⟩;have hi:i<Z.length:=by
   rcases Tk i Z.length with h'|h'
   ·exact h'
   ·rw[Sr h']at h;cases h
  have a:(keys Z)[i]'(by simpa[keys]using hi)=b:=by
   have:=lZ1.1 h;simp[keys,this.2]
  have c:(keys Z)[j]'(by simpa[keys]using hj)=b:=by simp[keys,e,hb]
  exact hne ((List.getElem_inj nd).1 (a.trans c.symm))
theorem On{Z:Own}{i b c o r r'}(hi:Z[i]?=some (b,.obj o))(hc:(c,r)∈Z)(hr:∀o,r ≠ .obj o):(c,r)∈Z.set i (b,r'):=by
 rcases Bmn hc with⟨j,hj,e⟩;refine lZ6 (i:=j) ?_;rw[Vc];split
 ·rename_i e2;subst e2;rw[Ps hj,e]at hi;cases hi;exact absurd rfl (hr o)
 ·rw[Ps hj,e]
theorem Sat.setObj{Y Z W}(h:Sat Y Z W){i b o o'}(hi:Z[i]?=some (b,.obj o))(ho:o'.isChan=false){W'}(hb:W'.heap[b]?=some o')(hsz:W'.heap.size=W.heap.size)(hne:∀k,k≠b->W'.heap[k]?=W.heap[k]?)(ht:W'.tape=W.tape)(hos:W'.os=W.os)(hout:W'.output=W.output):
  Trans Y Z W (Z.set i (b,.obj o')) W':=by
 have d:(b,Res.obj o)∈Z:=lZ6 hi;have a:=Tt (r':=.obj o') hi;have j:(b,Res.obj o')∈Z.set i (b,.obj o'):=by
  have hlt:i<Z.length:=by
   rcases Tk i Z.length with h'|h'
   ·exact h'
   ·rw[Sr h']at hi;cases hi
  exact lZ6 (i:=i) (by rw[Vc];simp[hlt])
 refine⟨⟨fun k ok hk=>?_,fun p hp=>?_,by rw[a];exact h.nd,by rw[a];exact h.dj⟩,by omega,fun k hk=>.inl (by rw[a]at hk;exact hk),fun k hk=>by rw[a];exact hk,fun k g f=>absurd f (by omega),fun k hk hn=>hne k fun e=>hn o (e ▸ d),fun c vs=>⟨fun hc=>?_,fun hc=>?_⟩,fun c hc=>?_,fun c hc=>?_,fun c k Rs hc=>?_,fun c k Rs hc=>?_,ht,hos,hout⟩
 ·have hkb:k≠b:=fun e=>by
   have:=h.dj b (Du d);rw[e,this]at hk;cases hk
  rw[hne k hkb];exact h.ro k ok hk
 ·rcases Gq hi h.nd hp with rfl|⟨hp',hpb⟩
  ·exact⟨hb,ho⟩
  ·exact Res.fits_of (h.own p hp') (hne p.1 hpb)
 ·rcases Gq hi h.nd hc with e|⟨hc',_⟩
  ·cases e
  ·exact hc'
 ·exact On hi hc (by simp)
 ·rcases Gq hi h.nd hc with e|⟨hc',_⟩
  ·cases e
  ·exact .inl hc'
 ·exact On hi hc (by simp)
 ·rcases Gq hi h.nd hc with e|⟨hc',_⟩
  ·cases e
  ·exact .inl hc'
 ·exact On hi hc (by simp)
theorem Sat.pushRes{Y Z W}(h:Sat Y Z W){o x}(hx:x.fits {W with heap:=W.heap.push o} W.heap.size)(hr:∀vs,x ≠ .recv vs)(hcr:∀k Rs,x = .crowd k Rs->Rs=[]):Trans Y Z W ((W.heap.size,x)::Z) {W with heap:=W.heap.push o}:=by
 have hnk:W.heap.size∉keys Z:=fun hk=>absurd (h.key_lt hk) (by omega);have a:∀k,k<W.heap.size->(W.heap.push o)[k]?=W.heap[k]?:=fun k hk=>by
  rw[Bav];rw[if_neg (by omega)]
 refine⟨⟨fun k ok hk=>?_,fun p hp=>?_,Tb.2 ⟨hnk,h.nd⟩,fun b hb=>?_⟩,by simp,fun k hk=>?_,fun k hk=>lZ0 _ hk,fun k g d=>?_,fun k hk _=>a k hk,fun c vs=>?_,fun c hc=>?_,fun c hc=>lZ0 _ hc,fun c k Rs hc=>?_,fun c k Rs hc=>lZ0 _ hc,rfl,rfl,rfl⟩
 ·have:=h.ro k ok hk;exact⟨by show (W.heap.push o)[k]?=_;rw[a k (Dq this.1)];exact this.1,this.2⟩
 ·rcases lZ8.1 hp with rfl|hp'
  ·exact hx
  ·exact Res.fits_of (h.own p hp') (a p.1 (Res.fits_lt (h.own p hp')))
 ·rcases lZ8.1 hb with rfl|hb'
  ·cases hr:Y W.heap.size with
   | none=>rfl
   | some o'=>exact absurd (Dq (h.ro _ _ hr).1) (by omega)
  ·exact h.dj b hb'
 ·rcases lZ8.1 hk with rfl|hk'
  ·exact .inr ⟨Ib _,by simp⟩
  ·exact .inl hk'
 ·have f:k=W.heap.size:=by simp at d;omega
  subst f;exact Vb ..
 ·constructor
  ·intro hc;rcases lZ8.1 hc with e|hc
   ·injection e with _ e;exact absurd e.symm (hr vs)
   ·exact hc
  ·exact fun hc=>lZ0 _ hc
 ·rcases lZ8.1 hc with e|hc
  ·injection e with e _;exact .inr (by omega)
  ·exact .inl hc
 ·rcases lZ8.1 hc with e|hc
  ·injection e with e e2;exact .inr ⟨by omega,hcr _ _ e2.symm⟩
  ·exact .inl hc
theorem Sat.push{Y Z W}(h:Sat Y Z W){o}(ho:o.isChan=false):Trans Y Z W ((W.heap.size,.obj o)::Z) {W with heap:=W.heap.push o} :=
 h.pushRes (x:=.obj o) ⟨by show (W.heap.push o)[W.heap.size]?=_;simp,ho⟩ (by simp) (by simp)
theorem World.cell?_of{W:World}{a o}(h:W.heap[a.block]?=some o)(hs:a.spot=none):W.cell? a=Gy o a.off:=by unfold World.cell?;rw[h];cases o<;>simp[Gy,hs]
theorem World.frozen?_of{W:World}{a o}(h:W.heap[a.block]?=some o):W.frozen? a=Lv o a.off:=by unfold World.frozen?;rw[h];cases o<;>simp[Lv]
theorem World.shape?_of{W:World}{r o}(h:W.heap[r]?=some o):W.shape? r=Xk o:=by unfold World.shape?;rw[h];cases o<;>simp[Xk]
def EvW(Y:Ro)(Z:Own)(e:Event):Prop:=Acx Y Z e∨∃f,e.loc = .mark (.extern f)
def Bfo(es:Array Event)(e:Event):Prop:=e∈es/\∀f,e.loc ≠ .mark (.extern f)
theorem Atg{Y Z es e}(h:∀e∈es,e∈(#[]:Array Event)∨EvW Y Z e)(hk:Bfo es e):Acx Y Z e :=
 ((h e hk.1).resolve_left (by simp)).resolve_right fun⟨f,hf⟩=>hk.2 f hf
theorem Rr{α P Y}:∀(s:Sem α) (Z:Own) (Q:α->Own->Prop) (W:World) (es:Array Event),wpS P Y s Z Q->Sat Y Z W ->
  ∃a Z' W' es',s.runT P W es=(.ok a W',es')/\Q a Z'/\Trans Y Z W Z' W'/\∀e∈es',e∈es∨EvW Y Z' e:=by
 intro s;induction s with
 | pure a=>exact fun Z Q W es h hs=>⟨a,Z,W,es,rfl,h,.refl hs,fun e he=>.inl he⟩
 | load m a k ih =>
  intro Z Q W es ⟨hm,hsp,o,v,ho,hv,hk⟩ hs;obtain⟨a',Z',W',es',d,g,b,j⟩:=ih v Z Q W (es.push ⟨.cell a,false,false⟩) hk hs;refine⟨a',Z',W',es',?_,g,b,fun e he=>?_⟩
  ·subst hm;simp only[Sem.runT,World.cell?_of (hs.has ho).1 hsp,hv];exact d
  ·rcases j e he with h|h
   ·rcases Amr.1 h with h|rfl
    ·exact .inl h
    ·refine .inr (.inl (.inl ⟨a,rfl,rfl,?_⟩));rcases ho with ho|ho
     ·exact .inr ⟨rfl,by simp[ho]⟩
     ·exact .inl (b.objs hs ho)
   ·exact .inr h
 | store m a v k ih =>
  intro Z Q W es ⟨hm,hsp,hv,i,c,t,fz,hi,hlt,hfz,hk⟩ hs;have p:(a.block,Res.obj (.cells c t fz))∈Z:=lZ6 hi;have hb:=(hs.own _ p).1;have u:=Dq hb;have hW:(W.setCell a v).heap[a.block]?=some (.cells (c.setIfInBounds a.off v) t fz):=by
   have:=(Agh.1 hb).2;simp[World.setCell,Bda,hb,hsp]
  have htr:Trans Y Z W (Z.set i (a.block,.obj (.cells (c.setIfInBounds a.off v) t fz))) (W.setCell a v) :=
   hs.setObj hi rfl hW (by simp[World.setCell]) (fun k hk=>by simp[World.setCell,Bda,Ne.symm hk]) rfl rfl rfl
  obtain⟨a',Z',W',es',d,g,b,j⟩:=ih _ Q (W.setCell a v) (es.push ⟨.cell a,true,false⟩) hk htr.sat;refine⟨a',Z',W',es',?_,g,htr.trans hs b,fun e he=>?_⟩
  ·subst hm;have hc:W.cell? a=some (c[a.off]):=by rw[World.cell?_of hb hsp];simp[Gy,hlt]
   have hf:W.frozen? a=false:=by rw[World.frozen?_of hb];exact hfz
   cases v<;>first|(simp[single]at hv;done)|(simp only[Sem.runT,hc,hf];exact d)
  ·rcases j e he with h|h
   ·rcases Amr.1 h with h|rfl
    ·exact .inl h
    ·obtain⟨o',ho'⟩:=htr.objs hs p;exact .inr (.inl (.inl ⟨a,rfl,rfl,.inl (b.objs htr.sat ho')⟩))
   ·exact .inr h
 | new o k ih =>
  intro Z Q W es h hs;rcases h with⟨ho,hk⟩|⟨rfl,hk⟩|⟨n,rfl,hk⟩
  ·have htr:=hs.push ho;obtain⟨a',Z',W',es',d,g,b,j⟩:=ih _ _ Q _ es (hk W.heap.size) htr.sat;exact⟨a',Z',W',es',by simp only[Sem.runT];exact d,g,htr.trans hs b,j⟩
  ·have htr:=hs.pushRes (o:=.chan 0 #[] false 0 0 false) (x:=.chan) ⟨0,0,false,by simp⟩ (by simp) (by simp);obtain⟨a',Z',W',es',d,g,b,j⟩:=ih _ _ Q _ es (hk W.heap.size) htr.sat;exact⟨a',Z',W',es',by simp only[Sem.runT];exact d,g,htr.trans hs b,j⟩
  ·have htr:=hs.pushRes (o:=.chan n #[] false 0 0 false) (x:=.crowd n []) ⟨n,#[],0,0,false,by simp,by simp,fun _=>⟨rfl,rfl⟩⟩ (by simp) (fun k Rs e=>by injection e with _ e;exact e.symm);obtain⟨a',Z',W',es',d,g,b,j⟩:=ih _ _ Q _ es (hk W.heap.size) htr.sat;exact⟨a',Z',W',es',by simp only[Sem.runT];exact d,g,htr.trans hs b,j⟩
 | shape r k ih =>
  intro Z Q W es ⟨o,ho,hk⟩ hs;obtain⟨a',Z',W',es',d,g,b,j⟩:=ih _ Z Q W es hk hs;exact⟨a',Z',W',es',by simp only[Sem.runT,World.shape?_of (hs.has ho).1];exact d,g,b,j⟩
 | freeze a n k ih =>
  intro Z Q W es h hs;rcases h with⟨hn,hk⟩|⟨hn,i,c,t,lo,hi',hi,hk⟩
  ·obtain⟨a',Z',W',es',d,g,b,j⟩:=ih Z Q W es hk hs;exact⟨a',Z',W',es',by subst hn;simp only[Sem.runT,World.freeze,if_true];exact d,g,b,j⟩
  ·have p:(a.block,Res.obj (.cells c t (lo,hi')))∈Z:=lZ6 hi;have hb:=(hs.own _ p).1;have htr:Trans Y Z W (Z.set i (a.block,.obj (.cells c t (if lo==hi' then (a.off,a.off+n) else (min lo a.off,max hi' (a.off+n)))))) (W.freeze a n) :=
    hs.setObj hi rfl (by simp[World.freeze,hn,Bda,hb]) (by simp[World.freeze,hn]) (fun k hk=>by simp[World.freeze,hn,Bda,Ne.symm hk])
     (by simp[World.freeze,hn]) (by simp[World.freeze,hn]) (by simp[World.freeze,hn])
   obtain⟨a',Z',W',es',d,g,b,j⟩:=ih _ Q (W.freeze a n) es hk htr.sat;exact⟨a',Z',W',es',by simp only[Sem.runT];exact d,g,htr.trans hs b,j⟩
 | frozen a k ih =>
  intro Z Q W es ⟨o,ho,hk⟩ hs;obtain⟨a',Z',W',es',d,g,b,j⟩:=ih _ Z Q W es hk hs;exact⟨a',Z',W',es',by simp only[Sem.runT,World.frozen?_of (hs.has ho).1];exact d,g,b,j⟩
 | getObj r k ih =>
  intro Z Q W es ⟨o,ho,hc,hk⟩ hs;obtain⟨hh,hch⟩:=hs.has ho;obtain⟨a',Z',W',es',d,g,b,j⟩:=ih o Z Q W (es.push ⟨.obj r,false,false⟩) hk hs;refine⟨a',Z',W',es',?_,g,b,fun e he=>?_⟩
  ·cases o<;>first|(simp[Sj]at hc;done)|(simp[Obj.isChan]at hch;done)|(simp only[Sem.runT,hh,Obj.isChan];exact d)
  ·rcases j e he with h|h
   ·rcases Amr.1 h with h|rfl
    ·exact .inl h
    ·refine .inr (.inl (.inr (.inl ⟨r,rfl,rfl,?_⟩)));rcases ho with ho|ho
     ·exact .inr ⟨rfl,by simp[ho]⟩
     ·exact .inl (b.objs hs ho)
   ·exact .inr h
 | setObj r o k ih =>
  intro Z Q W es ⟨ho,i,o9,hi,hc,hk⟩ hs;have p:(r,Res.obj o9)∈Z:=lZ6 hi;have hb:=(hs.own _ p).1;have hlt:=Dq hb;have htr:Trans Y Z W (Z.set i (r,.obj o)) {W with heap:=W.heap.setIfInBounds r o} :=
   hs.setObj hi ho (by simp[hlt]) (by simp) (fun k hk=>by simp[Ne.symm hk]) rfl rfl rfl
  obtain⟨a',Z',W',es',d,g,b,j⟩:=ih _ Q _ (es.push ⟨.obj r,true,false⟩) hk htr.sat;refine⟨a',Z',W',es',?_,g,htr.trans hs b,fun e he=>?_⟩
  ·cases o9<;>first|(simp[Sj]at hc;done)|(simp only[Sem.runT,hb,ho];exact d)
  ·rcases j e he with h|h
   ·rcases Amr.1 h with h|rfl
    ·exact .inl h
    ·obtain⟨o',ho'⟩:=htr.objs hs p;exact .inr (.inl (.inr (.inl ⟨r,rfl,rfl,.inl (b.objs htr.sat ho')⟩)))
   ·exact .inr h
 | choose q k ih =>
  intro Z Q W es h hs;simp only[wpS]at h;cases hq:q.forced with
  | true =>
   simp only[hq,if_true]at h;obtain⟨a',Z',W',es',d,g,b,j⟩:=ih _ Z Q W es h hs;exact⟨a',Z',W',es',by simp only[Sem.runT,hq,if_true];exact d,g,b,j⟩
  | false =>
   simp only[hq,Aiw,if_false]at h;have hs':Sat Y Z {W with drawn:=W.drawn+1}:=⟨hs.ro,hs.own,hs.nd,hs.dj⟩;obtain⟨a',Z',W',es',d,g,b,j⟩:=ih _ Z Q {W with drawn:=W.drawn+1} es (h (W.tape W.drawn q)) hs';exact⟨a',Z',W',es',by simp only[Sem.runT,hq,Aiw,if_false];exact d,g,⟨b.sat,b.size,b.keys,b.kept,b.fresh,b.frame,b.ends,b.chans,b.chansKept,b.crowds,b.crowdsKept,b.tape,b.os,b.output⟩,j⟩
 | sys c k ih=>exact fun Z Q W es h _=>h.elim
 | program k ih =>
  intro Z Q W es h hs;obtain⟨a',Z',W',es',d,g,b,j⟩:=ih _ Z Q W es h hs;exact⟨a',Z',W',es',by simp only[Sem.runT];exact d,g,b,j⟩
 | mark m k ih =>
  intro Z Q W es ⟨hm,hk⟩ hs;obtain⟨a',Z',W',es',d,g,b,j⟩:=ih Z Q W (es.push ⟨.mark m,false,true⟩) hk hs;refine⟨a',Z',W',es',by simp only[Sem.runT];exact d,g,b,fun e he=>?_⟩;rcases j e he with h|h
  ·rcases Amr.1 h with h|rfl
   ·exact .inl h
   ·refine .inr ?_;cases m with
    | extern f=>exact .inr ⟨f,rfl⟩
    | _=>exact .inl (.inr (.inr ⟨_,rfl,hm⟩))
  ·exact .inr h
 | halt h=>exact fun Z Q W es h _=>h.elim
theorem Eu{α P Y Q Q'}(hq:∀a Z,Q a Z->Q' a Z):∀(s:Sem α) (Z:Own),wpS P Y s Z Q->wpS P Y s Z Q':=by
 intro s;induction s with
 | pure a=>exact fun Z h=>hq _ _ h
 | load m a k ih=>exact fun Z ⟨b,d,o,v,e,f,g⟩=>⟨b,d,o,v,e,f,ih v Z g⟩
 | store m a v k ih=>exact fun Z ⟨b,d,e,i,c,t,fz,f,g,j,p⟩=>⟨b,d,e,i,c,t,fz,f,g,j,ih _ p⟩
 | new o k ih=>exact fun Z h=>h.imp (fun⟨b,d⟩=>⟨b,fun r=>ih r _ (d r)⟩) (fun h=>h.imp (fun⟨b,d⟩=>⟨b,fun r=>ih r _ (d r)⟩) (fun⟨n,b,d⟩=>⟨n,b,fun r=>ih r _ (d r)⟩))
 | shape r k ih=>exact fun Z ⟨o,b,d⟩=>⟨o,b,ih _ _ d⟩
 | freeze a n k ih=>exact fun Z h=>h.imp (fun⟨b,d⟩=>⟨b,ih _ d⟩) (fun⟨b,i,c,t,lo,hi,d,e⟩=>⟨b,i,c,t,lo,hi,d,ih _ e⟩)
 | frozen a k ih=>exact fun Z ⟨o,b,d⟩=>⟨o,b,ih _ _ d⟩
 | getObj r k ih=>exact fun Z ⟨o,b,d,e⟩=>⟨o,b,d,ih _ _ e⟩
 | setObj r o k ih=>exact fun Z ⟨b,i,o9,d,e,f⟩=>⟨b,i,o9,d,e,ih _ f⟩
 | choose q k ih =>
  intro Z h;simp only[wpS]at h ⊢;split
  ·rename_i hf;rw[if_pos hf]at h;exact ih _ _ h
  ·rename_i hf;rw[if_neg hf]at h;exact fun t=>ih _ _ (h t)
 | sys c k ih=>exact fun Z h=>h
 | program k ih=>exact fun Z h=>ih _ _ h
 | mark m k ih=>exact fun Z ⟨b,d⟩=>⟨b,ih _ d⟩
 | halt h=>exact fun Z h=>h
theorem Ad{α β P Y Q}(f:α->Sem β):∀(s:Sem α) (Z:Own),wpS P Y (s.bind f) Z Q↔wpS P Y s Z (fun a Z'=>wpS P Y (f a) Z' Q):=by
 intro s;induction s with
 | pure a=>exact fun Z=>Iff.rfl
 | load m a k ih=>intro Z;simp only[Sem.bind,wpS,ih]
 | store m a v k ih=>intro Z;simp only[Sem.bind,wpS,ih]
 | new o k ih=>intro Z;simp only[Sem.bind,wpS,ih]
 | shape r k ih=>intro Z;simp only[Sem.bind,wpS,ih]
 | freeze a n k ih=>intro Z;simp only[Sem.bind,wpS,ih]
 | frozen a k ih=>intro Z;simp only[Sem.bind,wpS,ih]
 | getObj r k ih=>intro Z;simp only[Sem.bind,wpS,ih]
 | setObj r o k ih=>intro Z;simp only[Sem.bind,wpS,ih]
 | choose q k ih=>intro Z;simp only[Sem.bind,wpS,ih]
 | sys c k ih=>intro Z;simp only[Sem.bind,wpS]
 | program k ih=>intro Z;simp only[Sem.bind,wpS,ih]
 | mark m k ih=>intro Z;simp only[Sem.bind,wpS,ih]
 | halt h=>intro Z;simp only[Sem.bind,wpS]
end
section
abbrev Cy:=Frame->List Frame->Ro->Own->Prop
structure Ctx where
 P:Program
 main:Bool
 X:Frame->List Frame->Ro->Own->Cy->Prop
structure Ghost(Y:Ro)(Z:Own)(Y':Ro)(Z':Own):Prop where
 sat:∀W,Sat Y Z W->Sat Y' Z' W
 objs:∀b o,(b,Res.obj o)∈Z'->∃o',(b,Res.obj o')∈Z
 dom:∀b,(Y' b).isSome=true->(Y b).isSome=true∨∃o,(b,Res.obj o)∈Z
 ends:∀c vs,(c,Res.recv vs)∈Z'↔(c,Res.recv vs)∈Z
 keys:∀b∈keys Z',b∈Go.Proofs.YtekhlbdfjkndnaaGreatDoor.keys Z
 chans:∀c,(c,Res.chan)∈Z'->(c,Res.chan)∈Z
 crowds:∀c k Rs,(c,Res.crowd k Rs)∈Z'->(c,Res.crowd k Rs)∈Z
 crowdsKept:∀c k Rs,Rs≠[]->(c,Res.crowd k Rs)∈Z->(c,Res.crowd k Rs)∈Z'
def Aal(C:Ctx)(fr:Frame)(cs:List Frame)(Y:Ro)(Z:Own)(K:Frame->List Frame->Own->Prop):Prop :=
 ∀W,Sat Y Z W->∃fr' cs' W' es Z',stepG C.P C.main (Conc.G fr cs) W = .go (Conc.G fr' cs') W' es/\Trans Y Z W Z' W'/\(∀e∈es,Acx Y Z' e)/\K fr' cs' Z'
inductive GoesH(C:Ctx)(S:Cy):Frame->List Frame->Ro->Own->Prop
 | stop {fr cs Y Z}:S fr cs Y Z->GoesH C S fr cs Y Z
 | ghost {fr cs Y Z Y' Z'}:Ghost Y Z Y' Z'->GoesH C S fr cs Y' Z'->GoesH C S fr cs Y Z
 | step {fr cs Y Z} (K:Frame->List Frame->Own->Prop):Aal C fr cs Y Z K->(∀fr' cs' Z',K fr' cs' Z'->GoesH C S fr' cs' Y Z')->GoesH C S fr cs Y Z
 | ext {fr cs Y Z} (K:Cy):C.X fr cs Y Z K->(∀fr' cs' Y' Z',K fr' cs' Y' Z'->GoesH C S fr' cs' Y' Z')->GoesH C S fr cs Y Z
theorem GoesH.bind{C S S' fr cs Y Z}(h:GoesH C S fr cs Y Z)(hk:∀fr cs Y Z,S fr cs Y Z->GoesH C S' fr cs Y Z):GoesH C S' fr cs Y Z:=by
 induction h with
 | stop h=>exact hk _ _ _ _ h
 | ghost hg _ ih=>exact .ghost hg ih
 | step K h1 _ ih=>exact .step K h1 ih
 | ext K h1 _ ih=>exact .ext K h1 ih
theorem GoesH.mono{C S S' fr cs Y Z}(h:GoesH C S fr cs Y Z)(hk:∀fr cs Y Z,S fr cs Y Z->S' fr cs Y Z):GoesH C S' fr cs Y Z :=
 h.bind fun fr cs Y Z hs=>.stop (hk fr cs Y Z hs)
section
variable{C:Ctx}{S:Cy}{fr fr':Frame}{cs cs':List Frame}{Y:Ro}{Z:Own}
theorem Eh(h:∀W,stepG C.P C.main (Conc.G fr cs) W = .go (Conc.G fr' cs') W #[])(hk:GoesH C S fr' cs' Y Z):GoesH C S fr cs Y Z :=
 .step (fun a b c=>a=fr'/\b=cs'/\c=Z) (fun W hs=>⟨fr',cs',W,#[],Z,h W,.refl hs,by simp,rfl,rfl,rfl⟩) (by rintro _ _ _ ⟨rfl,rfl,rfl⟩;exact hk)
theorem Abm{P fn es e}(h:e∈seen P fn es)(f:FuncId):e.loc ≠ .mark (.extern f):=by
 obtain⟨l⟩:=es;unfold seen at h;simp only[List.foldl_toArray']at h;revert h;generalize (Option.any (fun x=>x.norace) P.funcs[fn]?)=q;have key:∀(g:Bool×Array Event->Event->Bool×Array Event),(∀x ev,(g x ev).2=x.2∨((g x ev).2=x.2.push ev/\ev.loc ≠ .mark (.extern f)))->∀(l:List Event) (x:Bool×Array Event),e∈(l.foldl g x).2->e∈x.2∨e.loc ≠ .mark (.extern f):=by
  intro g hg l;induction l with
  | nil=>exact fun x h=>.inl h
  | cons y l ih =>
   intro x h;rcases ih _ h with h|h
   ·rcases hg x y with h1|⟨h1,h2⟩
    ·rw[h1]at h;exact .inl h
    ·rw[h1]at h;rcases Amr.1 h with h|rfl
     ·exact .inl h
     ·exact .inr h2
   ·exact .inr h
 intro h;rcases key _ (fun x ev=>by
  obtain⟨q,k⟩:=x;simp only;split
  ·exact .inl rfl
  ·rename_i hne;simp only;split
   ·exact .inl rfl
   ·exact .inr ⟨rfl,fun hc=>hne f hc⟩) _ _ h with h|h
 ·simp at h
 ·exact h
theorem Bpt{P fn es e}(h:e∈seen P fn es):e∈es:=by
 obtain⟨l⟩:=es;unfold seen at h;simp only[List.foldl_toArray']at h;revert h;generalize (Option.any (fun x=>x.norace) P.funcs[fn]?)=q;have key:∀(g:Bool×Array Event->Event->Bool×Array Event),(∀x ev,(g x ev).2=x.2∨(g x ev).2=x.2.push ev)->∀(l:List Event) (x:Bool×Array Event),e∈(l.foldl g x).2->e∈x.2∨e∈l:=by
  intro g hg l;induction l with
  | nil=>exact fun x h=>.inl h
  | cons y l ih =>
   intro x h;rcases ih _ h with h|h
   ·rcases hg x y with h1|h1
    ·rw[h1]at h;exact .inl h
    ·rw[h1]at h;rcases Amr.1 h with h|rfl
     ·exact .inl h
     ·exact .inr mC
   ·exact .inr (lZ0 _ h)
 intro h;rcases key _ (fun x ev=>by
  obtain⟨q,k⟩:=x;simp only;split
  ·exact .inl rfl
  ·simp only;split
   ·exact .inl rfl
   ·exact .inr rfl) _ _ h with h|h
 ·simp at h
 ·simpa using h
theorem Lh{P fn es e}(h:e∈seen P fn es):Bfo es e:=⟨Bpt h,Abm h⟩
theorem Lw{α s}{f:α->Frame×List Frame}(h:∀W,∀a W' es,s.runT C.P W #[]=(.ok a W',es)->∃es',stepG C.P C.main (Conc.G fr cs) W = .go (Conc.G (f a).1 (f a).2) W' es'/\∀e∈es',Bfo es e){Q}(hw:wpS C.P Y s Z Q)(hk:∀a Z',Q a Z'->GoesH C S (f a).1 (f a).2 Y Z'):GoesH C S fr cs Y Z:=by refine .step (fun a b c=>∃x,Q x c/\a=(f x).1/\b=(f x).2) (fun W hs=>?_) (by rintro _ _ _ ⟨x,hx,rfl,rfl⟩;exact hk x _ hx);obtain⟨a,Z',W',es,d,g,i,j⟩:=Rr s Z Q W #[] hw hs;obtain⟨es',k,m⟩:=h W a W' es d;exact⟨_,_,W',es',Z',k,i,fun e he=>Atg j (m e he),a,g,rfl,rfl⟩
end
structure FB where
 fn:FuncId
 kind:CallKind
 round:Option Nat
def Fr(b:FB)(tm:Array Value)(ds:List Deferred)(todo:List Item):Frame :=
 {fn:=b.fn,tmps:=tm,todo:=todo,defers:=ds,mode:=.run,kind:=b.kind,roundOf:=b.round}
abbrev Env:=Nat->Value
def EnvOf(n:Nat)(tm:Array Value)(e:Env):Prop:=tm.size=n/\∀i,tm.getD i undef=e i
def Af(e:Env):Operand->Value
 | .tmp t=>e t
 | .const v=>v
 | .global g=>.pointer (some ⟨g,0,none⟩)
 | .func f=>.func (.func f) #[] #[]
def upd(e:Env)(d:Nat)(v:Value):Env:=fun i=>if i=d then v else e i
def Ja(e:Env)(d:Option Tmp)(v:Value):Env :=
 match d with
 | some d=>upd e d v
 | none=>e
theorem EnvOf.eval{n tm e}(h:EnvOf n tm e)(b:FB)(ds:List Deferred)(todo:List Item):(Fr b tm ds todo).eval=Af e:=by funext x;cases x<;>simp[Frame.eval,Af,Fr,<-h.2]
theorem EnvOf.put{n tm e}(h:EnvOf n tm e){d}(hd:d<n)(v:Value):EnvOf n (tm.setIfInBounds d v) (upd e d v):=by
 refine⟨by simp[h.1],fun i=>?_⟩;unfold upd;rw[Bas,Array.getElem?_setIfInBounds];by_cases hi:i=d
 ·subst hi;simp[h.1,hd]
 ·rw[if_neg (Ne.symm hi),if_neg hi,<-Bas];exact h.2 i
inductive Ex where
 | normal
 | exit (id:Nat)
 | ret
def Wc(id:Nat):Item->Bool
 | .inBlock id'=>id' != id
 | _=>true
def Pl:Ex->List Item->List Item->Prop
 | .normal,k,t=>t=k
 | .exit id,k,t=>∃pre,(∀x∈pre,Wc id x=true)/\t = .code (.exit id)::(pre++k)
 | .ret,k,t=>∃pre,t = .code .ret::(pre++k)
abbrev Hu:=Ex->Env->List Deferred->Ro->Own->Prop
abbrev Ql:=Value->Env->List Deferred->Ro->Own->Prop
def NoV:Ql:=fun _ _ _ _ _=>False
def FrP(b:FB)(tm:Array Value)(ds:List Deferred)(todo:List Item)(x:Value):Frame:={Fr b tm ds todo with mode:=.panicking [⟨x,false,false⟩]}
def PanS(V:Ql)(b:FB)(cs:List Frame)(fr:Frame)(cs':List Frame)(Y:Ro)(Z:Own):Prop:=cs'=cs/\∃x tm e ds todo,(∀i,tm.getD i undef=e i)/\fr=FrP b tm ds todo x/\V x e ds Y Z
theorem PanS.no{b:FB}{cs:List Frame}{fr:Frame}{cs':List Frame}{Y:Ro}{Z:Own}(h:PanS NoV b cs fr cs' Y Z):False:=let ⟨_,_,_,_,_,_,_,_,h⟩:=h;h
def WpP(C:Ctx)(V:Ql)(b:FB)(n:Nat)(c:Code)(Q:Hu)(e:Env)(ds:List Deferred)(Y:Ro)(Z:Own):Prop :=
 ∀tm k cs,EnvOf n tm e->GoesH C (fun fr cs' Y' Z'=>(cs'=cs/\∃ex tm' e' ds' todo,EnvOf n tm' e'/\Q ex e' ds' Y' Z'/\Pl ex k todo/\fr=Fr b tm' ds' todo)∨PanS V b cs fr cs' Y' Z') (Fr b tm ds (.code c::k)) cs Y Z
abbrev WpC(C:Ctx)(b:FB)(n:Nat)(c:Code)(Q:Hu)(e:Env)(ds:List Deferred)(Y:Ro)(Z:Own):Prop:=WpP C NoV b n c Q e ds Y Z
theorem WpC.stops{C:Ctx}{b:FB}{n:Nat}{c:Code}{Q:Hu}{e:Env}{ds:List Deferred}{Y:Ro}{Z:Own}(h:WpC C b n c Q e ds Y Z)(tm k cs)(ht:EnvOf n tm e) :
  GoesH C (fun fr cs' Y' Z'=>cs'=cs/\∃ex tm' e' ds' todo,EnvOf n tm' e'/\Q ex e' ds' Y' Z'/\Pl ex k todo/\fr=Fr b tm' ds' todo) (Fr b tm ds (.code c::k)) cs Y Z :=
 (h tm k cs ht).mono fun _ _ _ _ hs=>hs.elim id fun hp=>hp.no.elim
section rules
variable{C:Ctx}{V:Ql}{b:FB}{n:Nat}{Q Q':Hu}{e:Env}{ds:List Deferred}{Y Y':Ro}{Z Z':Own}
theorem Adw{c}(h:WpP C V b n c Q e ds Y Z)(hq:∀ex e ds Y Z,Q ex e ds Y Z->Q' ex e ds Y Z):WpP C V b n c Q' e ds Y Z :=
 fun tm k cs ht=>(h tm k cs ht).mono fun _ _ _ _ hs=>hs.elim (fun⟨a,ex,tm',e',ds',i,d,f,g⟩=>.inl ⟨a,ex,tm',e',ds',i,d,hq _ _ _ _ _ f,g⟩) .inr
theorem Aj{c}(hg:Ghost Y Z Y' Z')(h:WpP C V b n c Q e ds Y' Z'):WpP C V b n c Q e ds Y Z :=
 fun tm k cs ht=>.ghost hg (h tm k cs ht)
theorem Al(h:Q .normal e ds Y Z):WpP C V b n .skip Q e ds Y Z:=fun tm k cs ht =>
 Eh (fr':=Fr b tm ds k) (cs':=cs) (fun W=>by simp[Conc.G,stepG,stepG.exec,Fr]) (.stop (.inl ⟨rfl,.normal,tm,e,ds,k,ht,h,rfl,rfl⟩))
theorem Aq(h:Q .ret e ds Y Z):WpP C V b n .ret Q e ds Y Z:=fun tm k _ ht =>
 .stop (.inl ⟨rfl,.ret,tm,e,ds,_,ht,h,⟨[],rfl⟩,rfl⟩)
theorem Bx{id}(h:Q (.exit id) e ds Y Z):WpP C V b n (.exit id) Q e ds Y Z:=fun tm k _ ht =>
 .stop (.inl ⟨rfl,.exit id,tm,e,ds,_,ht,h,⟨[],by simp,rfl⟩,rfl⟩)
def Zo(M:Env->List Deferred->Ro->Own->Prop)(Q:Hu):Hu
 | .normal,e,ds,Y,Z=>M e ds Y Z
 | ex,e,ds,Y,Z=>Q ex e ds Y Z
theorem He{ex x k t}(hne:ex ≠ .normal)(hx:∀id,Wc id x=true)(h:Pl ex (x::k) t):Pl ex k t:=by
 cases ex with
 | normal=>exact absurd rfl hne
 | exit id =>
  obtain⟨pre,hp,rfl⟩:=h;exact⟨pre++[x],fun y hy=>(Gv.1 hy).elim (hp y) (fun hy=>by rw[Nh.1 hy];exact hx id),by simp⟩
 | ret =>
  obtain⟨pre,rfl⟩:=h;exact⟨pre++[x],by simp⟩
theorem Ai{x y}(h:∀K:Env->List Deferred->Ro->Own->Prop,(∀e ds Y Z,WpP C V b n y Q e ds Y Z->K e ds Y Z)->WpP C V b n x (Zo K Q) e ds Y Z):WpP C V b n (.seq x y) Q e ds Y Z:=by
 intro tm k cs ht;refine Eh (fr':=Fr b tm ds (.code x :: .code y::k)) (cs':=cs) (fun W=>by simp[Conc.G,stepG,stepG.exec,Fr]) ?_;refine(h (WpP C V b n y Q) (fun _ _ _ _ h=>h) tm (.code y::k) cs ht).bind ?_;rintro _ _ Y' Z' (⟨rfl,ex,tm',e',ds',f,a,c,d,rfl⟩|hp);rotate_left
 ·exact .stop (.inr hp)
 cases ex with
 | normal=>cases d;exact c tm' k _ a
 | exit id=>exact .stop (.inl ⟨rfl,.exit id,tm',e',ds',f,a,c,He (by simp) (fun _=>rfl) d,rfl⟩)
 | ret=>exact .stop (.inl ⟨rfl,.ret,tm',e',ds',f,a,c,He (by simp) (fun _=>rfl) d,rfl⟩)
theorem Bp{c x y t}(hc:Af e c = .bool t)(h1:t=true->WpP C V b n x Q e ds Y Z)(h0:t=false->WpP C V b n y Q e ds Y Z):WpP C V b n (.cond c x y) Q e ds Y Z:=by
 intro tm k cs ht;have hev:(Fr b tm ds (.code (.cond c x y)::k)).eval c = .bool t:=by rw[ht.eval];exact hc
 refine Eh (fr':=Fr b tm ds (.code (if t then x else y)::k)) (cs':=cs) (fun W=>?_) ?_
 ·simp only[Fr]at hev;simp[Conc.G,stepG,stepG.exec,Fr,hev]
 ·cases t with
  | true=>exact h1 rfl tm k cs ht
  | false=>exact h0 rfl tm k cs ht
def Qy(id:Nat)(Q:Hu):Hu
 | .exit id',e,ds,Y,Z=>if id'=id then Q .normal e ds Y Z else Q (.exit id') e ds Y Z
 | ex,e,ds,Y,Z=>Q ex e ds Y Z
theorem Mj{id:Nat}{k:List Item}:∀{pre:List Item},(∀x∈pre,Wc id x=true)->exitTo id (pre++k)=exitTo id k
 | [],_=>rfl
 | x::pre,h=>by
  have hx:=h x mC;have:=Mj (pre:=pre) (k:=k) fun y hy=>h y (lZ0 _ hy);cases x<;>simp_all [exitTo,Wc]
theorem Ao{id c}(h:WpP C V b n c (Qy id Q) e ds Y Z):WpP C V b n (.block id c) Q e ds Y Z:=by
 intro tm k cs ht;refine Eh (fr':=Fr b tm ds (.code c :: .inBlock id::k)) (cs':=cs) (fun W=>by simp[Conc.G,stepG,stepG.exec,Fr]) ?_;refine(h tm (.inBlock id::k) cs ht).bind ?_;rintro _ _ Y' Z' (⟨rfl,ex,tm',e',ds',i,f,d,g,rfl⟩|hp);rotate_left
 ·exact .stop (.inr hp)
 cases ex with
 | normal =>
  cases g;exact Eh (fr':=Fr b tm' ds' k) (fun W=>by simp[Conc.G,stepG,stepG.exec,Fr]) (.stop (.inl ⟨rfl,.normal,tm',e',ds',k,f,d,rfl,rfl⟩))
 | exit id' =>
  obtain⟨pre,hp,rfl⟩:=g;by_cases hid:id'=id
  ·subst hid;simp only[Qy,if_true]at d;refine Eh (fr':=Fr b tm' ds' k) (fun W=>?_) (.stop (.inl ⟨rfl,.normal,tm',e',ds',k,f,d,rfl,rfl⟩));have:exitTo id' (pre ++ .inBlock id'::k)=some k:=by rw[Mj hp];simp[exitTo]
   simp[Conc.G,stepG,stepG.exec,Fr,this]
  ·simp only[Qy,hid,if_false]at d;refine .stop (.inl ⟨rfl,.exit id',tm',e',ds',_,f,d,⟨pre++[.inBlock id],fun y hy=>?_,by simp⟩,rfl⟩);rcases Gv.1 hy with hy|hy
   ·exact hp y hy
   ·rw[Nh.1 hy];simp[Wc,Ne.symm hid]
 | ret =>
  obtain⟨pre,rfl⟩:=g;exact .stop (.inl ⟨rfl,.ret,tm',e',ds',_,f,d,⟨pre++[.inBlock id],by simp⟩,rfl⟩)
theorem Cc{c}(I:Nat->Env->List Deferred->Ro->Own->Prop){m}(h₀:I m e ds Y Z)(round:∀m e ds Y Z,I m e ds Y Z->WpP C V b n c (Zo (fun e' ds' Y' Z'=>∃m',m'<m/\I m' e' ds' Y' Z') Q) e ds Y Z):WpP C V b n (.loop c) Q e ds Y Z:=by
 intro tm k cs ht;refine Eh (fr':=Fr b tm ds (.code c :: .inLoop c::k)) (cs':=cs) (fun W=>by simp[Conc.G,stepG,stepG.exec,Fr]) ?_;induction m using Nat.strongRecOn generalizing tm e ds Y Z with
 | _ m ih =>
  refine(round m e ds Y Z h₀ tm (.inLoop c::k) cs ht).bind ?_;rintro _ _ Y' Z' (⟨rfl,ex,tm',e',ds',g,a,d,f,rfl⟩|hp);rotate_left
  ·exact .stop (.inr hp)
  cases ex with
  | normal =>
   cases f;obtain⟨m',hlt,hI⟩:=d;exact Eh (fr':=Fr b tm' ds' (.code c :: .inLoop c::k)) (fun W=>by simp[Conc.G,stepG,stepG.exec,Fr]) (ih m' hlt hI tm' a)
  | exit id=>exact .stop (.inl ⟨rfl,.exit id,tm',e',ds',g,a,d,He (by simp) (fun _=>rfl) f,rfl⟩)
  | ret=>exact .stop (.inl ⟨rfl,.ret,tm',e',ds',g,a,d,He (by simp) (fun _=>rfl) f,rfl⟩)
end rules
def CallsH(C:Ctx)(f:FuncId)(args:Array Value)(Y:Ro)(Z:Own)(R:Value->Ro->Own->Prop):Prop :=
 ∀c cs,GoesH C (fun fr cs' Y' Z'=>∃v,fr=Frame.finish c v/\cs'=cs/\R v Y' Z') (Frame.enter C.P f args .normal) (c::cs) Y Z
def RoundH(C:Ctx)(l:Nat)(f:FuncId)(tmps:Array Value)(assign body:Code)(Y:Ro)(Z:Own)(R:Value->Ro->Own->Prop):Prop :=
 ∀c cs,GoesH C (fun fr cs' Y' Z'=>∃v,fr=Frame.finish c v/\cs'=cs/\R v Y' Z') (Frame.round l f tmps assign body .normal) (c::cs) Y Z
theorem CallsH.mono{C f args Y Z R R'}(h:CallsH C f args Y Z R)(hr:∀v Y' Z',R v Y' Z'->R' v Y' Z'):CallsH C f args Y Z R' :=
 fun c cs=>(h c cs).mono fun _ _ _ _ ⟨v,a,b,d⟩=>⟨v,a,b,hr _ _ _ d⟩
theorem RoundH.mono{C l f tmps assign body Y Z R R'}(h:RoundH C l f tmps assign body Y Z R)(hr:∀v Y' Z',R v Y' Z'->R' v Y' Z'):RoundH C l f tmps assign body Y Z R' :=
 fun c cs=>(h c cs).mono fun _ _ _ _ ⟨v,a,b,d⟩=>⟨v,a,b,hr _ _ _ d⟩
def NextH(C:Ctx)(K:Value->List Deferred->Ro->Own->Prop)(rd:Option Nat)(ds:List Deferred)(Y:Ro)(nx:Next)(Z:Own):Prop :=
 match nx with
 | .value v=>K v ds Y Z
 | .skip=>K undef ds Y Z
 | .defer d=>rd=none/\K undef (d::ds) Y Z
 | .enter f args=>CallsH C f args Y Z (fun v Y' Z'=>K v ds Y' Z')
 | .round l f tmps assign body=>RoundH C l f tmps assign body Y Z (fun v Y' Z'=>K v ds Y' Z')
 | _=>False
theorem NextH.mono{C K K' rd ds Y nx Z}(h:NextH C K rd ds Y nx Z)(hk:∀v ds Y Z,K v ds Y Z->K' v ds Y Z):NextH C K' rd ds Y nx Z:=by cases nx<;>simp only[NextH]at h ⊢<;>first|exact hk _ _ _ _ h|exact⟨h.1,hk _ _ _ _ h.2⟩|exact h.mono fun _ _ _ h=>hk _ _ _ _ h
def Ht(ops:Array Oper)(e:Env)(j:Nat):Option Bool :=
 match (ops[j]?).bind (·.dst) with
 | some d=>match e d with
  | .bool b=>some b
  | _=>none
 | none=>none
def Bz(ops:Array Oper)(o:Oper)(e:Env):Bool :=
 match o.guard with
 | none=>true
 | some (j,want)=>Ht ops e j==some want
def Fu(n:Nat)(ops:Array Oper):Bool:=ops.all fun o=>match o.dst with|some d=>decide (d<n)|none=>true
theorem Uj{n ops}(h:Fu n ops=true){i:Nat}{o}(ho:ops[i]?=some o){d}(hd:o.dst=some d):d<n:=by have:=Array.all_eq_true_iff_forall_mem.1 h o (Array.mem_of_getElem? ho);simpa[hd]using this
def OpH(C:Ctx)(b:FB)(ops:Array Oper)(i:Nat)(K:Env->List Deferred->Ro->Own->Prop)(e:Env)(ds:List Deferred)(Y:Ro)(Z:Own):Prop :=
 match ops[i]? with
 | none=>False
 | some o=>if Bz ops o e=true then wpS C.P Y (execOp (Af e) o) Z (NextH C (fun v=>K (Ja e o.dst v)) b.round ds Y) else K (Ja e o.dst undef) ds Y Z
theorem OpH.mono{C b ops i K K' e ds Y Z}(h:OpH C b ops i K e ds Y Z)(hk:∀e ds Y Z,K e ds Y Z->K' e ds Y Z):OpH C b ops i K' e ds Y Z:=by
 unfold OpH at *;split at h
 ·exact h.elim
 ·rename_i o ho;split
  ·rename_i hw;rw[if_pos hw]at h;exact Eu (fun nx Z' h=>h.mono fun v ds Y Z h=>hk _ _ _ _ h) _ _ h
  ·rename_i hw;rw[if_neg hw]at h;exact hk _ _ _ _ h
def Va(C:Ctx)(V:Ql)(b:FB)(n:Nat)(ops:Array Oper)(todo:List Nat)(Q:Env->List Deferred->Ro->Own->Prop)(e:Env)(ds:List Deferred)(Y:Ro)(Z:Own):Prop :=
 ∀tm k cs,EnvOf n tm e->GoesH C (fun fr cs' Y' Z'=>(cs'=cs/\∃tm' e' ds',EnvOf n tm' e'/\Q e' ds' Y' Z'/\fr=Fr b tm' ds' k)∨PanS V b cs fr cs' Y' Z') (Fr b tm ds (.inRegion ops todo::k)) cs Y Z
abbrev Lq(C:Ctx)(b:FB)(n:Nat)(ops:Array Oper)(todo:List Nat)(Q:Env->List Deferred->Ro->Own->Prop)(e:Env)(ds:List Deferred)(Y:Ro)(Z:Own):Prop:=Va C NoV b n ops todo Q e ds Y Z
section ops
variable{C:Ctx}{V:Ql}{b:FB}{n:Nat}{ops:Array Oper}{Q:Env->List Deferred->Ro->Own->Prop}{e:Env}{ds:List Deferred}{Y:Ro}{Z:Own}
theorem Xh(h:Q e ds Y Z):Va C V b n ops [] Q e ds Y Z:=fun tm k cs ht =>
 Eh (fr':=Fr b tm ds k) (cs':=cs) (fun W=>by simp[Conc.G,stepG,stepG.exec,Fr]) (.stop (.inl ⟨rfl,tm,e,ds,ht,h,rfl⟩))
theorem Ij{tm}(hs:Fu n ops=true)(ht:EnvOf n tm e)(o:Oper):Region.wanted o (yielded ops tm)=Bz ops o e:=by
 unfold Region.wanted Bz;cases o.guard with
 | none=>rfl
 | some jw =>
  obtain⟨j,a⟩:=jw;have:yielded ops tm j=Ht ops e j:=by
   unfold yielded Ht;cases hd:(ops[j]?).bind (·.dst) with
   | none=>rfl
   | some d =>
    obtain⟨oj,hoj,hdj⟩:=Option.bind_eq_some_iff.1 hd;have hlt:=Uj hs hoj hdj;have:tm[d]?=some (e d):=by
     rw[<-ht.2 d,Bas];rw[Blx (by rw[ht.1];exact hlt)];rfl
    simp only[Bmz,this];cases e d<;>rfl
  simp only[this]
theorem Ju{i rest tm k o}(ho:ops[i]?=some o)(v:Value):
  (Fr b tm ds (.inRegion ops (i::rest)::k)).finish v=Fr b (match o.dst with|some d=>tm.setIfInBounds d v|none=>tm) ds (.inRegion ops rest::k):=by simp only[Frame.finish,Fr,ho,Bmz];cases o.dst<;>rfl
theorem Jj{tm}(hs:Fu n ops=true)(ht:EnvOf n tm e){i:Nat}{o}(ho:ops[i]?=some o)(v:Value):
  EnvOf n (match o.dst with|some d=>tm.setIfInBounds d v|none=>tm) (Ja e o.dst v):=by
 cases hd:o.dst with
 | none=>exact ht
 | some d=>exact ht.put (Uj hs ho hd) v
theorem Np{tm i rest k cs o}(ho:ops[i]?=some o)(hw:Region.wanted o (yielded ops tm)=true)(hd:∀c,o.op = .defer c->b.round=none)(W:World):
  stepG C.P C.main (Conc.G (Fr b tm ds (.inRegion ops (i::rest)::k)) cs) W=stepG.apply C.P true (Fr b tm ds (.inRegion ops (i::rest)::k)) cs none (execOp (Fr b tm ds (.inRegion ops (i::rest)::k)).eval o) W:=by
 have a:(Fr b tm ds (.inRegion ops (i::rest)::k)).oper?=some o:=by simp[Frame.oper?,Fr,ho]
 simp only[Conc.G,stepG,Fr,stepG.exec];simp only[Fr]at a;simp only[ho,Aoy,hw,Amz,if_true,stepG.oper,a];split
 ·rename_i l c h2 h3;exact absurd (hd c h3) (by rw[h2];simp)
 ·rfl
theorem Abu{tm i rest k cs o}(ho:ops[i]?=some o)(hw:Region.wanted o (yielded ops tm)=false)(W:World):
  stepG C.P C.main (Conc.G (Fr b tm ds (.inRegion ops (i::rest)::k)) cs) W = .go (Conc.G ((Fr b tm ds (.inRegion ops (i::rest)::k)).finish undef) cs) W #[]:=by simp[Conc.G,stepG,Fr,stepG.exec,ho,hw]
end ops
end
section
section
variable{C:Ctx}{V:Ql}{b:FB}{n:Nat}{ops:Array Oper}{Q:Env->List Deferred->Ro->Own->Prop}{e:Env}{ds:List Deferred}{Y:Ro}{Z:Own}
def Ss(P:Program)(fr:Frame)(cs:List Frame):Next->Frame->List Frame->Prop
 | .value v,fr',cs'=>fr'=fr.finish v/\cs'=cs
 | .skip,fr',cs'=>fr'=fr.finish undef/\cs'=cs
 | .defer d,fr',cs'=>fr'=Frame.finish {fr with defers:=d::fr.defers} undef/\cs'=cs
 | .enter f args,fr',cs'=>fr'=Frame.enter P f args .normal/\cs'=fr::cs
 | .round l f tmps assign body,fr',cs'=>fr'=Frame.round l f tmps assign body .normal/\cs'=fr::cs
 | _,_,_=>False
theorem Sx{P fr cs s W W' nx es}(hk:fr.kind ≠ .early)(hf:∀d r s k,fr.todo ≠ .call d true r s::k)(hr:s.runT P W #[]=(.ok nx W',es))(hn:∃fr' cs',Ss P fr cs nx fr' cs'):
    ∃fr' cs' es',stepG.apply P true fr cs none s W = .go (Conc.G fr' cs') W' es'/\Ss P fr cs nx fr' cs'/\∀e∈es',Bfo es e:=by
  have hk':(fr.kind==CallKind.early)=false:=by cases h:fr.kind<;>simp_all<;>rfl
  have a:(match fr.todo with | .call _ true _ _::_=>CallKind.wrapped|_=>CallKind.normal)=CallKind.normal:=by
    split
    · rename_i h;exact absurd h (hf _ _ _ _)
    · rfl
  obtain⟨fr',cs',h⟩:=hn;cases nx<;>simp only[Ss]at h <;>
    (try (obtain⟨rfl, rfl⟩ := h
          refine⟨_,_,seen P fr.fn es,?_,⟨rfl,rfl⟩,fun e he=>Lh he⟩;simp[stepG.apply,-Sem.runT_eq,hr,hk',a,GStep.after,Conc.G]))
theorem Uc{i rest}(hs:Fu n ops=true)(hk:b.kind ≠ .early)(h:OpH C b ops i (Va C V b n ops rest Q) e ds Y Z):Va C V b n ops (i::rest) Q e ds Y Z:=by
 intro tm k cs ht;unfold OpH at h;cases ho:ops[i]? with
 | none=>simp only[ho]at h
 | some o =>
  simp only[ho]at h;have hev:=ht.eval b ds (.inRegion ops (i::rest)::k);split at h
  ·rename_i hw;refine .step (fun fr' cs' Z'=>∃nx,NextH C (fun v=>Va C V b n ops rest Q (Ja e o.dst v)) b.round ds Y nx Z'/\Ss C.P (Fr b tm ds (.inRegion ops (i::rest)::k)) cs nx fr' cs') (fun W w=>?_) ?_
   ·obtain⟨nx,Z',W',es,j,a,m,p⟩:=Rr _ Z _ W #[] h w;have hd:∀c,o.op = .defer c->b.round=none:=by
     intro c hc;have hx:∃d,nx = .defer d:=by
      have u:execOp (Af e) o=(resolve (Af e) c o.type).bind fun d=>pure (Next.defer d):=by
       unfold execOp;rw[hc];rfl
      rw[u,Sem.runT_bind']at j;split at j
      ·rename_i a' w' es' _;have:(Result.ok (Next.defer a') w',es')=(Result.ok nx W',es):=j;simp only[Prod.mk.injEq,Result.ok.injEq]at this;exact⟨a',this.1.1.symm⟩
      ·simp at j
     obtain⟨d,rfl⟩:=hx;exact a.1
    have hnx:∃fr' cs',Ss C.P (Fr b tm ds (.inRegion ops (i::rest)::k)) cs nx fr' cs':=by
     cases nx<;>simp only[NextH]at a<;>exact⟨_,_,rfl,rfl⟩
    obtain⟨fr',cs',es',q,g,t⟩:=Sx (s:=execOp (Af e) o) (by exact hk) (by simp[Fr]) j hnx;refine⟨fr',cs',W',es',Z',?_,m,fun ev he=>Atg p (t ev he),nx,a,g⟩;rw[Np ho (by rw[Ij hs ht];exact hw) hd,hev];exact q
   ·rintro fr' cs' Z' ⟨nx,a,g⟩;cases nx<;>simp only[NextH]at a
    case value v =>
     obtain⟨rfl,rfl⟩:=g;rw[Ju ho];exact a _ k _ (Jj hs ht ho v)
    case skip =>
     obtain⟨rfl,rfl⟩:=g;rw[Ju ho];exact a _ k _ (Jj hs ht ho undef)
    case defer d =>
     obtain⟨rfl,rfl⟩:=g;have:Frame.finish {Fr b tm ds (.inRegion ops (i::rest)::k) with defers:=d::(Fr b tm ds (.inRegion ops (i::rest)::k)).defers} undef=(Fr b tm (d::ds) (.inRegion ops (i::rest)::k)).finish undef:=rfl;rw[this,Ju ho];exact a.2 _ k _ (Jj hs ht ho undef)
    case enter f args =>
     obtain⟨rfl,rfl⟩:=g;refine(a _ cs).bind ?_;rintro _ _ Y' Z'' ⟨v,rfl,rfl,hv⟩;rw[Ju ho];exact hv _ k _ (Jj hs ht ho v)
    case round l f tmps assign body =>
     obtain⟨rfl,rfl⟩:=g;refine(a _ cs).bind ?_;rintro _ _ Y' Z'' ⟨v,rfl,rfl,hv⟩;rw[Ju ho];exact hv _ k _ (Jj hs ht ho v)
  ·rename_i hw;refine Eh (fun W=>Abu ho (by rw[Ij hs ht];simpa using hw) W) ?_;rw[Ju ho];exact h _ k _ (Jj hs ht ho undef)
theorem Wp{id Q}(hs:Fu n ops=true)(hk:b.kind ≠ .early)(h:Va C V b n ops (List.range ops.size) (fun e ds Y Z=>Q .normal e ds Y Z) e ds Y Z):WpP C V b n (.region id ops false) Q e ds Y Z:=by
 intro tm k cs ht;refine Eh (fr':=Fr b tm ds (.inRegion ops (List.range ops.size)::k)) (cs':=cs) (fun W=>by simp[Conc.G,stepG,stepG.exec,Fr]) ?_;refine(h tm k cs ht).mono ?_;rintro _ _ Y' Z' (⟨rfl,tm',e',ds',a,c,rfl⟩|hp)
 ·exact .inl ⟨rfl,.normal,tm',e',ds',k,a,c,rfl,rfl⟩
 ·exact .inr hp
def Pg(ops:Array Oper)(pz:List Nat)(j:Nat):Bool :=
 match ops[j]? with
 | some o=>pz.all fun i=>o.after.any fun e=>Region.binds .any e&&e.on==i
 | none=>false
theorem Ghost.same{Y Z}:Ghost Y Z Y Z:=⟨fun _ h=>h,fun _ o h=>⟨o,h⟩,fun _ h=>.inl h,fun _ _=>Iff.rfl,fun _ h=>h,fun _ h=>h,fun _ _ _ h=>h,fun _ _ _ _ h=>h⟩
def El(C:Ctx)(b:FB)(ops:Array Oper)(Q:Env->List Deferred->Ro->Own->Prop)(pz:List Nat)(S:Ro->Own->Prop):Nat->Array Bool->Env->List Deferred->Ro->Own->Prop
 | 0,listed,e,ds,Y,Z=>Region.ready .any ops listed=[]/\Q e ds Y Z
 | fuel+1,listed,e,ds,Y,Z=>(∀W,¬Sat Y Z W)∨∃Y8 Z8,Ghost Y Z Y8 Z8/\(S Y Z->S Y8 Z8)/\(Region.ready .any ops listed=[]->Q e ds Y8 Z8) /\
  ∀i∈Region.ready .any ops listed,OpH C b ops i (fun e' ds' Y' Z'=>(Pg ops pz i=false->S Y' Z')/\El C b ops Q pz S fuel (listed.setIfInBounds i true) e' ds' Y' Z') e ds Y8 Z8
theorem Rc{S fr cs}(h:∀W,¬Sat Y Z W):GoesH C S fr cs Y Z :=
 .step (fun _ _ _=>False) (fun W hs=>absurd hs (h W)) (fun _ _ _ h=>h.elim)
theorem Aas{pz S}(hs:Fu n ops=true)(hk:b.kind ≠ .early):∀(fuel t:Nat) (listed:Array Bool) (e:Env) (ds:List Deferred) (Y:Ro) (Z:Own),El C b ops Q pz S fuel listed e ds Y Z ->
  Va C V b n ops (Region.linearise.go .any ops fuel t listed []) Q e ds Y Z:=by
 intro fuel;induction fuel with
 | zero=>intro t listed e ds Y Z h;simpa[Region.linearise.go]using Xh h.2
 | succ fuel ih =>
  intro t listed e ds Y Z h;rcases h with h|⟨Y8,Z8,hg,_,h₀,h₁⟩
  ·exact fun tm k cs ht=>Rc h
  refine fun tm k cs ht=>.ghost hg ?_;revert tm k cs
  change Va C V b n ops (Region.linearise.go .any ops (fuel+1) t listed []) Q e ds Y8 Z8
  simp only[Region.linearise.go]
  change Va C V b n ops (match (Region.ready .any ops listed)[t%(Region.ready .any ops listed).length]? with
   | some i=>Region.linearise.go .any ops fuel (t/(Region.ready .any ops listed).length) (listed.setIfInBounds i true) [i]
   | none=>[].reverse) Q e ds Y8 Z8
  cases hi:(Region.ready .any ops listed)[t%(Region.ready .any ops listed).length]? with
  | none =>
   have a:Region.ready .any ops listed=[]:=by
    cases hr:Region.ready .any ops listed with
    | nil=>rfl
    | cons x xs =>
     rw[hr]at hi;have hlt:t%(x::xs).length<(x::xs).length:=Aqu _ (by simp);simp at hi;simp at hlt;omega
   simpa using Xh (h₀ a)
  | some i =>
   simp only[];rw[linearise_go_acc,List.reverse_singleton,Bmh];exact Uc hs hk (OpH.mono (h₁ i (lZ6 hi)) fun e' ds' Y' Z' h=>ih _ _ e' ds' Y' Z' h.2)
theorem Aar{pz S fuel listed Y' Z'}(hg:Ghost Y Z Y' Z')(hS:S Y Z->S Y' Z')(h:El C b ops Q pz S (fuel+1) listed e ds Y' Z'):El C b ops Q pz S (fuel+1) listed e ds Y Z:=by
 rcases h with h|⟨Y8,Z8,hg1,h1,h2⟩
 ·exact .inl fun W hs=>h W (hg.sat W hs)
 ·refine .inr ⟨Y8,Z8,⟨fun W hs=>hg1.sat W (hg.sat W hs),fun b o hb=>let ⟨o',ho'⟩:=hg1.objs b o hb;hg.objs b o' ho',fun b hb=>(hg1.dom b hb).elim (hg.dom b) fun⟨o,ho⟩=>.inr (hg.objs b o ho),fun c vs=>(hg1.ends c vs).trans (hg.ends c vs),
   fun b hb=>hg.keys b (hg1.keys b hb),fun c hc=>hg.chans c (hg1.chans c hc),fun c k Rs hc=>hg.crowds c k Rs (hg1.crowds c k Rs hc),fun c k Rs hn hc=>hg1.crowdsKept c k Rs hn (hg.crowdsKept c k Rs hn hc)⟩,fun hs=>h1 (hS hs),h2⟩
def YieldsH(P:Program)(ops:Array Oper)(S:Ro->Own->Prop)(o:Oper)(v:Value)(e:Env):Prop :=
 (Bz ops o e=true/\∀Y Z,S Y Z->wpS P Y (execOp (Af e) o) Z (fun nx Z'=>nx = .value v/\Z'=Z)) ∨
 (Bz ops o e=false/\v=undef)
theorem Aer{e dst v x}(h:∀d,dst=some d->x ≠ .tmp d):Af (Ja e dst v) x=Af e x:=by
 cases dst with
 | none=>rfl
 | some d =>
  cases x with
  | tmp t =>
   have hne:t≠d:=fun h'=>h d rfl (h' ▸ rfl);simp[Af,Ja,upd,hne]
  | _=>rfl
theorem Ru(o:Oper)(hs:∀cs b,o.op ≠ .select cs b)(e:Env)(dst:Option Tmp)(v:Value)(h:∀d,dst=some d->d∉o.looksAt ops) :
  execOp (Af (Ja e dst v)) o=execOp (Af e) o :=
 execOp_congr o hs fun x hx=>Aer fun d hd hxd=>h d hd (by
  subst hxd;exact Iz _ (List.mem_filterMap.2 ⟨.tmp d,by simpa using hx,rfl⟩))
theorem Sd(o:Oper)(e:Env)(dst:Option Tmp)(v:Value)(h:∀d,dst=some d->d∉o.looksAt ops):Bz ops o (Ja e dst v)=Bz ops o e:=by
 cases dst with
 | none=>rfl
 | some d =>
  unfold Bz;cases hg:o.guard with
  | none=>rfl
  | some gw =>
   obtain⟨g,a⟩:=gw;have hy:Ht ops (Ja e (some d) v) g=Ht ops e g:=by
    unfold Ht;cases ht:(ops[g]?).bind (·.dst) with
    | none=>rfl
    | some t =>
     have hne:t≠d:=fun h'=>h d rfl (by subst h';simp[Oper.looksAt,hg,ht]);simp[Ja,upd,hne]
   simp only[hy]
theorem Vx(e:Env){x y}(v u:Value)(h:∀d,x=some d->y≠some d):Ja (Ja e x v) y u=Ja (Ja e y u) x v:=by
 cases x with
 | none=>rfl
 | some d =>
  cases y with
  | none=>rfl
  | some d' =>
   have hne:d≠d':=fun he=>h d rfl (he ▸ rfl);funext i;simp only[Ja,upd];by_cases h1:i=d'<;>by_cases h2:i=d<;>simp_all
theorem Akg{S j oi oj v}(hj:ops[j]?=some oj)(hap:oi.apart ops oj=true)(hsi:∀cs b,oi.op ≠ .select cs b)(hsj:∀cs b,oj.op ≠ .select cs b){K}(hy:YieldsH C.P ops S oi v e)(h:OpH C b ops j K (Ja e oi.dst v) ds Y Z):
  OpH C b ops j (fun e' ds' Y' Z'=>YieldsH C.P ops S oi v e'/\K (Ja e' oi.dst v) ds' Y' Z') e ds Y Z:=by
 obtain⟨a,c,d⟩:=Oper.apart_spec hap;have f:∀u,YieldsH C.P ops S oi v (Ja e oj.dst u):=fun u=>by
  unfold YieldsH at *;rw[Ru oi hsi e oj.dst u d,Sd oi e oj.dst u d];exact hy
 unfold OpH at *;simp only[hj]at *;rw[Sd oj e oi.dst v a]at h;split
 ·rename_i hw;rw[if_pos hw,Ru oj hsj e oi.dst v a]at h;refine Eu (fun nx Z' hn=>hn.mono fun u ds Y Z hh=>⟨f u,?_⟩) _ _ h;rw[<-Vx e v u c];exact hh
 ·rename_i hw;rw[if_neg hw]at h;exact⟨f _,by rw[<-Vx e v undef c];exact h⟩
theorem YieldsH.opH{S i o v}(hi:ops[i]?=some o)(hy:YieldsH C.P ops S o v e)(hS:S Y Z){K}(h:K (Ja e o.dst v) ds Y Z):OpH C b ops i K e ds Y Z:=by
 unfold OpH;simp only[hi];rcases hy with⟨hw,hv⟩|⟨hw,rfl⟩
 ·rw[if_pos hw];exact Eu (by rintro nx Z' ⟨rfl,rfl⟩;exact h) _ _ (hv Y Z hS)
 ·rw[if_neg (by simp[hw])];exact h
theorem Aaq{pz S i oi v}(hi:ops[i]?=some oi)(hp:i∈pz)(hsel:∀(j:Nat) (o:Oper) cs b,ops[j]?=some o->o.op ≠ .select cs b):
  ∀(fuel:Nat) (listed:Array Bool) (e:Env) (ds:List Deferred) (Y:Ro) (Z:Own),
   (∀j oj,ops[j]?=some oj->j≠i->listed.getD j true=false->(∀e∈oj.after,Region.binds .any e=true->e.on≠i)->oi.apart ops oj=true) ->
   i∈Region.ready .any ops listed->YieldsH C.P ops S oi v e->S Y Z ->
   El C b ops Q pz S fuel (listed.setIfInBounds i true) (Ja e oi.dst v) ds Y Z->El C b ops Q pz S (fuel+1) listed e ds Y Z:=by
 intro fuel;induction fuel with
 | zero =>
  intro listed e ds Y Z _ hr hy hS H;refine .inr ⟨Y,Z,.same,id,fun h=>(by rw[h]at hr;cases hr),fun j hj=>?_⟩;by_cases hji:j=i
  ·subst hji;exact hy.opH hi hS ⟨fun _=>hS,H⟩
  ·have:=ready_mono hj hji;rw[H.1]at this;cases this
 | succ fuel ih =>
  intro listed e ds Y Z f hr hy hS H;rcases H with H|⟨Y8,Z8,hg,hSS,H0,H2⟩
  ·exact .inl H
  have hS9:=hSS hS;refine .inr ⟨Y8,Z8,hg,hSS,fun h=>(by rw[h]at hr;cases hr),fun j hj=>?_⟩;by_cases hji:j=i
  ·subst hji;exact hy.opH hi hS9 ⟨fun _=>hS9,.inr ⟨Y8,Z8,.same,id,H0,H2⟩⟩
  ·have a:=H2 j (ready_mono hj hji);obtain⟨g,oj,hoj,q⟩:=mem_ready.1 hj;have n:∀e∈oj.after,Region.binds .any e=true->e.on≠i:=fun e he hb heq=>by
    have a:=q e he hb;have d:=(mem_ready.1 hr).1;rw[heq]at a;rcases Tk i listed.size with h'|h'
    ·simp[h']at d a;rw[d]at a;cases a
    ·simp[Bhf h']at a
   have m:Pg ops pz j=false:=by
    cases hl:Pg ops pz j with
    | false=>rfl
    | true =>
     simp only[Pg,hoj,Te]at hl;obtain⟨e,he,hb⟩:=Array.any_eq_true'.1 (hl i hp);simp only[Pc,beq_iff_eq]at hb;exact absurd hb.2 (n e he hb.1)
   have p:=Akg hoj (f j oj hoj hji g n) (fun cs b=>hsel i oi cs b hi) (fun cs b=>hsel j oj cs b hoj) hy a;have t:∀k ok,ops[k]?=some ok->k≠i->(listed.setIfInBounds j true).getD k true=false ->
     (∀e∈ok.after,Region.binds .any e=true->e.on≠i)->oi.apart ops ok=true:=fun k ok hk hki hun hno=>by
    refine f k ok hk hki ?_ hno;by_cases hjk:j=k
    ·subst hjk;exact g
    ·rw[getD_set_ne true hjk]at hun;exact hun
   refine OpH.mono p fun e' ds' Y' Z' c=>⟨fun _=>c.2.1 m,ih (listed.setIfInBounds j true) e' ds' Y' Z' t (ready_mono hr (Ne.symm hji)) c.1 (c.2.1 m) ?_⟩;rw[Array.setIfInBounds_comm _ _ hji];exact c.2.2
theorem Vm{pz S i oi v fuel listed}(hi:ops[i]?=some oi)(hp:pz.contains i=true)(hs:Region.noSelect ops=true)(hf:Region.free .any ops listed i=true)(hr:(Region.ready .any ops listed).contains i=true)(hy:YieldsH C.P ops S oi v e)(hS:S Y Z)(h:El C b ops Q pz S fuel (listed.setIfInBounds i true) (Ja e oi.dst v) ds Y Z):El C b ops Q pz S (fuel+1) listed e ds Y Z :=
 Aaq hi (by simpa using hp) (Region.noSelect_spec hs) fuel listed e ds Y Z (Region.free_spec hi hf) (by simpa using hr) hy hS h
theorem Mz{pz S rs fuel listed}(hr:Region.ready .any ops listed=rs)(hne:rs≠[])(h:∀i∈rs,OpH C b ops i (fun e' ds' Y' Z'=>(Pg ops pz i=false->S Y' Z')/\El C b ops Q pz S fuel (listed.setIfInBounds i true) e' ds' Y' Z') e ds Y Z):El C b ops Q pz S (fuel+1) listed e ds Y Z :=
 .inr ⟨Y,Z,.same,id,fun a=>absurd (hr ▸ a) hne,hr ▸ h⟩
theorem Aeb{pz:List Nat}{S:Ro->Own->Prop}{listed:Array Bool}(hr:Region.ready .any ops listed=[])(h:Q e ds Y Z):∀fuel,El C b ops Q pz S fuel listed e ds Y Z
 | 0=>⟨hr,h⟩
 | _+1=>.inr ⟨Y,Z,.same,id,fun _=>h,by rw[hr];simp⟩
theorem Vk{id Q}(pz:List Nat)(S:Ro->Own->Prop)(hm:C.P.follows .mixedOrders=true)(hs:Fu n ops=true)(hk:b.kind ≠ .early)(h:El C b ops (fun e ds Y Z=>Q .normal e ds Y Z) pz S ops.size (Array.replicate ops.size false) e ds Y Z):WpP C V b n (.region id ops true) Q e ds Y Z:=by
 intro tm k cs ht;refine .step (fun fr' cs' Z'=>∃t,fr'=Fr b tm ds (.inRegion ops (Region.linearise .any ops t)::k)/\cs'=cs/\Z'=Z) (fun W a=>?_) ?_
 ·refine⟨_,cs,{W with drawn:=W.drawn+1},#[],Z,?_,?_,by simp,W.tape W.drawn (.order b.fn id),rfl,rfl,rfl⟩
  ·simp[Conc.G,stepG,stepG.exec,Fr,choose,Sem.run,Question.forced,Question.cut,Region.schedule,hm]
  ·have:=Trans.refl a;exact⟨⟨a.ro,a.own,a.nd,a.dj⟩,this.size,this.keys,this.kept,this.fresh,this.frame,this.ends,this.chans,this.chansKept,this.crowds,this.crowdsKept,rfl,rfl,rfl⟩
 ·rintro _ _ _ ⟨t,rfl,rfl,rfl⟩;refine(Aas (V:=V) hs hk ops.size t _ e ds Y _ h tm k _ ht).mono ?_;rintro _ _ Y' Z' (⟨rfl,tm',e',ds',c,d,rfl⟩|hp)
  ·exact .inl ⟨rfl,.normal,tm',e',ds',k,c,d,rfl,rfl⟩
  ·exact .inr hp
end
end
section
theorem Ghost.perm{Y Z Z'}(h:Z.Perm Z'):Ghost Y Z Y Z' :=
  ⟨fun W hs => ⟨hs.ro, fun p hp => hs.own p (h.mem_iff.2 hp), (h.map Prod.fst).nodup_iff.1 hs.nd, fun b hb => hs.dj b ((h.map Prod.fst).mem_iff.2 hb)⟩,
   fun b o hb=>⟨o,h.mem_iff.2 hb⟩,fun _ h=>.inl h,fun _ _=>h.mem_iff.symm,fun b hb=>(h.map Prod.fst).mem_iff.2 hb,fun c hc=>h.mem_iff.2 hc,fun c k Rs hc=>h.mem_iff.2 hc,fun c k Rs _ hc=>h.mem_iff.1 hc⟩
theorem Ghost.drop{Y Z b o}:Ghost Y ((b,.obj o)::Z) Y Z :=
  ⟨fun W hs => ⟨hs.ro, fun p hp => hs.own p (lZ0 _ hp), (Tb.1 hs.nd).2, fun b hb => hs.dj b (lZ0 _ hb)⟩,
   fun b o hb=>⟨o,lZ0 _ hb⟩,fun _ h=>.inl h,fun _ _=>by simp,fun b hb=>lZ0 _ hb,fun c hc=>lZ0 _ hc,fun c k Rs hc=>lZ0 _ hc,fun c k Rs _ hc=>(lZ8.1 hc).elim (fun e=>by cases e) id⟩
theorem Ghost.dropC{Y:Ro}{Z:Own}{b n:Nat}:Ghost Y ((b,.crowd n [])::Z) Y Z :=
  ⟨fun W hs => ⟨hs.ro, fun p hp => hs.own p (lZ0 _ hp), (Tb.1 hs.nd).2, fun b hb => hs.dj b (lZ0 _ hb)⟩,
   fun b o hb=>⟨o,lZ0 _ hb⟩,fun _ h=>.inl h,fun _ _=>by simp,fun b hb=>lZ0 _ hb,fun c hc=>lZ0 _ hc,fun c k Rs hc=>lZ0 _ hc,
   fun c k Rs hn hc=>(lZ8.1 hc).elim (fun e=>by injection e with _ e;injection e with _ e;exact absurd e hn) id⟩
def Ro.add(Y:Ro)(b:Nat)(o:Obj):Ro:=fun k=>if k=b then some o else Y k
theorem Ghost.trans{Y Y' Y'' Z Z' Z''}(h:Ghost Y Z Y' Z')(h':Ghost Y' Z' Y'' Z''):Ghost Y Z Y'' Z'' :=
  ⟨fun W hs => h'.sat W (h.sat W hs), fun b o hb => let ⟨o', ho'⟩ := h'.objs b o hb;h.objs b o' ho',
   fun b hb=>(h'.dom b hb).elim (h.dom b) fun⟨o,ho⟩=>.inr (h.objs b o ho),fun c vs=>(h'.ends c vs).trans (h.ends c vs),fun b hb=>h.keys b (h'.keys b hb),fun c hc=>h.chans c (h'.chans c hc),fun c k Rs hc=>h.crowds c k Rs (h'.crowds c k Rs hc),fun c k Rs hn hc=>h'.crowdsKept c k Rs hn (h.crowdsKept c k Rs hn hc)⟩
theorem Ghost.refl{Y Z}:Ghost Y Z Y Z:=.perm (.refl _)
def Ro.le(Y Y':Ro):Prop:=∀b o,Y b=some o->Y' b=some o
theorem Ro.le.refl{Y}:Ro.le Y Y:=fun _ _ h=>h
theorem Ro.le.trans{Y Y' Y''}(h:Ro.le Y Y')(h':Ro.le Y' Y''):Ro.le Y Y'':=fun b o hb=>h' b o (h b o hb)
theorem Ghost.forget{Y Y' Z}(h:Ro.le Y' Y):Ghost Y Z Y' Z :=
  ⟨fun W hs=>⟨fun b o hb=>hs.ro b o (h b o hb),hs.own,hs.nd,fun b hb=>by
      cases hr:Y' b with
      | none=>rfl
      | some o => have := hs.dj b hb;rw[h b o hr]at this;cases this⟩,
   fun b o hb => ⟨o, hb⟩, fun b hb => by
      obtain⟨o,ho⟩:=Bat.1 hb;exact .inl (by rw[h b o ho];rfl),fun _ _=>Iff.rfl,fun _ h=>h,fun _ h=>h,fun _ _ _ h=>h,fun _ _ _ _ h=>h⟩
theorem Ghost.freeze{Y Z b o}(hb:Y b=none):Ghost Y ((b,.obj o)::Z) (Y.add b o) Z:=by
 refine⟨fun W hs=>?_,fun k ok hk=>⟨ok,lZ0 _ hk⟩,fun k hk=>?_,fun _ _=>by simp,fun k hk=>lZ0 _ hk,fun k hk=>lZ0 _ hk,fun c k Rs hc=>lZ0 _ hc,fun c k Rs _ hc=>(lZ8.1 hc).elim (fun e=>by cases e) id⟩
 ·have hnd:=Tb.1 hs.nd;refine⟨fun k ok hk=>?_,fun p hp=>hs.own p (lZ0 _ hp),hnd.2,fun k hk=>?_⟩
  ·unfold Ro.add at hk;split at hk
   ·rename_i e;subst e;cases hk;exact hs.own _ mC
   ·exact hs.ro k ok hk
  ·unfold Ro.add;rw[if_neg (fun (e:k=b)=>hnd.1 (by rw[e]at hk;exact hk))];exact hs.dj k (lZ0 _ hk)
 ·unfold Ro.add at hk;split at hk
  ·rename_i e;subst e;exact .inr ⟨o,Vb ..⟩
  ·exact .inl hk
theorem Rv{C S fr cs Y Z b o}(h:∀Y',Ro.le Y Y'->Y' b=some o->GoesH C S fr cs Y' Z):GoesH C S fr cs Y ((b,.obj o)::Z):=by
 by_cases hb:Y b=none
 ·exact .ghost (.freeze hb) (h _ (fun x ox hx=>by unfold Ro.add;rw[if_neg (fun e=>by rw[e,hb]at hx;cases hx)];exact hx) (by simp[Ro.add]))
 ·exact Rc fun W hs=>absurd (hs.dj b mC) hb
section
variable{C:Ctx}{V:Ql}{b:FB}{n:Nat}{Q:Hu}{e:Env}{ds:List Deferred}{Y Y':Ro}{Z Z':Own}
theorem Wo{c k o}(h:∀Y',Ro.le Y Y'->Y' k=some o->WpP C V b n c Q e ds Y' Z):WpP C V b n c Q e ds Y ((k,.obj o)::Z) :=
 fun tm kk cs ht=>Rv fun Y' a d=>h Y' a d tm kk cs ht
theorem Abn{ops todo Q k o}(h:∀Y',Ro.le Y Y'->Y' k=some o->Va C V b n ops todo Q e ds Y' Z):Va C V b n ops todo Q e ds Y ((k,.obj o)::Z) :=
 fun tm kk cs ht=>Rv fun Y' a c=>h Y' a c tm kk cs ht
theorem Afg{ops todo Q}(hg:Ghost Y Z Y' Z')(h:Va C V b n ops todo Q e ds Y' Z'):Va C V b n ops todo Q e ds Y Z :=
 fun tm k cs ht=>.ghost hg (h tm k cs ht)
def Hp(fn:Func)(e:Env):Sem Value:=do
 let vs <-fn.results.mapM fun
  | .tmp t=>pure (e t)
  | .cell a t=>do loadVar t (<-asAddr (e a))
 pure (if h:vs.size=1 then vs[0] else .tuple vs)
theorem Abq{fn tm}(h:EnvOf n tm e):results fn tm=Hp fn e:=by unfold results Hp;congr 1;congr 1;funext r;cases r<;>simp only[h.2]
def Aki(C:Ctx)(fn:Func)(R:Value->Ro->Own->Prop)(e:Env)(Y:Ro):List Deferred->Own->Prop
 | [],Z=>wpS C.P Y (Hp fn e) Z (fun v Z'=>R v Y Z')
 | d::ds,Z=>∃r i,d.target = .collected r/\Z[i]?=some (r,.obj (.deferred (some [])))/\Aki C fn R e Y ds (Z.set i (r,.obj (.deferred none)))
theorem Ajr{P r i Z Q}(hi:Z[i]?=some (r,.obj (.deferred (some []))))(h:Q [] (Z.set i (r,.obj (.deferred none)))):wpS P Y (Instr.takeDeferred r) Z Q:=by show wpS P Y ((getObj r).bind _) Z Q;rw[Ad];exact⟨_,.inr (lZ6 hi),rfl,rfl,i,_,hi,rfl,h⟩
theorem Ahz{S fn R tm todo c cs}(hf:C.P.funcs[b.fn]?=some fn)(hk:b.kind = .normal)(ht:EnvOf n tm e)(h:Aki C fn R e Y ds Z)(hS:∀v Y' Z',R v Y' Z'->GoesH C S (Frame.finish c v) cs Y' Z'):GoesH C S {Fr b tm ds todo with mode:=.returning} (c::cs) Y Z:=by
 induction ds generalizing Z with
 | nil =>
  refine Lw (f:=fun v=>(Frame.finish c v,cs)) (s:=Hp fn e) (Q:=fun v Z'=>R v Y Z') (fun W v W' es hr=>?_) h fun v Z' hv=>hS v Y Z' hv;rw[<-Abq ht]at hr;exact⟨seen C.P b.fn es,by simp[Conc.G,stepG,Fr,unwind,hf,-Sem.runT_eq,hr,doReturn,hk,GStep.after],fun e he=>Lh he⟩
 | cons d ds ih =>
  obtain⟨r,i,hd,hi,h⟩:=h;obtain⟨tgt,a⟩:=d;simp only at hd;subst hd;refine Lw (f:=fun (l:List Deferred)=>({Fr b tm (l++ds) todo with mode:=.returning},c::cs)) (s:=Instr.takeDeferred r) (Q:=fun l Z'=>l=[]/\Aki C fn R e Y ds Z') (fun W l W' es hr=>?_) (Ajr hi ⟨rfl,h⟩) ?_
  ·exact⟨seen C.P b.fn es,by simp[Conc.G,stepG,Fr,unwind,-Sem.runT_eq,hr,GStep.after],fun e he=>Lh he⟩
  ·rintro l Z' ⟨rfl,h⟩;exact ih h
def Pn(args:List Value):Env:=fun i=>args.getD i undef
theorem Tn{args}(h:args.length<=n):EnvOf n (args.toArray++Array.replicate (n-args.toArray.size) undef) (Pn args):=by
 refine⟨by simp;omega,fun i=>?_⟩;unfold Pn;rw[Bas,Oz,Array.getElem?_append];simp only[Aiy,Jw];split
 ·rfl
 ·rename_i hlt;rw[Sr (by omega),Array.getElem?_replicate];split<;>rfl
theorem Oy{f fn c args R}(hf:C.P.funcs[f]?=some fn)(hc:fn.body=some c)(hn:fn.ntmps=n)(ha:args.length<=n)(h:WpC C ⟨f,.normal,none⟩ n c (fun ex e ds Y' Z'=>(∀id,ex ≠ .exit id)/\Aki C fn R e Y' ds Z') (Pn args) [] Y Z):CallsH C f args.toArray Y Z R:=by
 intro c' cs;have g:Frame.enter C.P f args.toArray .normal=Fr ⟨f,.normal,none⟩ (args.toArray++Array.replicate (n-args.toArray.size) undef) [] [.code c]:=by
  simp[Frame.enter,hf,hc,hn,Fr]
 rw[g];refine(h.stops _ [] (c'::cs) (Tn ha)).bind ?_;rintro _ _ Y' Z' ⟨rfl,ex,tm',e',ds',a,i,⟨j,k⟩,d,rfl⟩;have fin:∀a,GoesH C (fun fr cs' Y' Z'=>∃v,fr=Frame.finish c' v/\cs'=cs/\R v Y' Z') {Fr ⟨f,.normal,none⟩ tm' ds' a with mode:=.returning} (c'::cs) Y' Z' :=
  fun a=>Ahz (b:=⟨f,.normal,none⟩) hf rfl i k fun v Y'' Z'' hv=>.stop ⟨v,rfl,rfl,hv⟩
 cases ex with
 | normal =>
  cases d;exact Eh (fr':={Fr ⟨f,.normal,none⟩ tm' ds' [] with mode:=.returning}) (cs':=c'::cs) (fun W=>by simp[Conc.G,stepG,stepG.exec,Fr]) (fin _)
 | exit id=>exact absurd rfl (j id)
 | ret =>
  obtain⟨pre,rfl⟩:=d;exact Eh (fr':={Fr ⟨f,.normal,none⟩ tm' ds' (.code .ret::(pre++[])) with mode:=.returning}) (cs':=c'::cs) (fun W=>by simp[Conc.G,stepG,stepG.exec,Fr]) (fin _)
def Pf:Ex->Option Code
 | .normal=>none
 | .exit id=>some (.exit id)
 | .ret=>some .ret
theorem Xs{P l i r Z Q j}(hi:Z[i]?=some (l,.obj (.loop r)))(h:Q (.bool j.isNone) (Z.set i (l,.obj (.loop {r with state:=if j.isNone then .ready else .done,pending:=j})))):wpS P Y (Instr.endRound l j) Z Q:=by show wpS P Y ((Instr.getLoop l).bind _) Z Q;rw[Ad];show wpS P Y ((getObj l).bind _) Z _;rw[Ad];exact⟨_,.inr (lZ6 hi),rfl,rfl,i,_,hi,rfl,h⟩
theorem Ut{P l i r Z Q}(hi:Z[i]?=some (l,.obj (.loop r)))(hr:r.state = .ready)(h:Q () (Z.set i (l,.obj (.loop {r with state:=.busy})))):wpS P Y (Instr.beginRound l) Z Q:=by show wpS P Y ((Instr.getLoop l).bind _) Z Q;rw[Ad];show wpS P Y ((getObj l).bind _) Z _;rw[Ad];refine⟨_,.inr (lZ6 hi),rfl,?_⟩;show wpS P Y ((setObj l _).bind _) Z _;rw[Ad];refine⟨rfl,i,_,hi,rfl,?_⟩;simp only[hr];exact h
theorem Abr{l f tm assign body R}(ht:EnvOf n tm e)(h:WpC C ⟨f,.normal,some l⟩ n assign (fun ex e1 ds1 Y1 Z1=>ex = .normal/\ds1=[]/\∃i r,Z1[i]?=some (l,.obj (.loop r))/\r.state = .ready /\
   WpC C ⟨f,.normal,some l⟩ n body (fun ex _ _ Y2 Z2=>∃i2 r2,Z2[i2]?=some (l,.obj (.loop r2)) /\
    R (.bool (Pf ex).isNone) Y2 (Z2.set i2 (l,.obj (.loop {r2 with state:=if (Pf ex).isNone then .ready else .done,pending:=Pf ex})))) e1 [] Y1 (Z1.set i (l,.obj (.loop {r with state:=.busy})))) e [] Y Z):
  RoundH C l f tm assign body Y Z R:=by
 intro c' cs;have e1:Frame.round l f tm assign body .normal=Fr ⟨f,.normal,some l⟩ tm [] [.code assign,.beginRound,.code body]:=rfl;rw[e1];refine(h.stops tm [.beginRound,.code body] (c'::cs) ht).bind ?_;rintro _ _ Y1 Z1 ⟨rfl,ex,c,e1,ds1,k,j,⟨rfl,rfl,i,r,hi,hr,hb⟩,b,rfl⟩;cases b;refine Lw (f:=fun (_:Unit)=>(Fr ⟨f,.normal,some l⟩ c [] [.code body],c'::cs)) (s:=Instr.beginRound l) (Q:=fun _ Z'=>Z'=Z1.set i (l,.obj (.loop {r with state:=.busy}))) (fun W u W' es a=>?_) (Ut hi hr rfl) ?_
 ·refine⟨seen C.P f es,?_,fun e he=>Lh he⟩;have g:(do (some l).elim (stuck "beginRound: no round") Instr.beginRound;pure Next.skip:Sem Next).runT C.P W #[]=(.ok Next.skip W',es):=by
   show ((Instr.beginRound l).bind fun _=>Sem.pure Next.skip).runT C.P W #[]=_;rw[Sem.runT_bind',a];rfl
  simp only[Conc.G,stepG,stepG.exec,Fr,stepG.apply,if_true,g,GStep.after];simp only[Frame.finish];rfl
 rintro u Z' rfl;refine(hb.stops c [] (c'::cs) j).bind ?_;rintro _ _ Y2 Z2 ⟨rfl,ex,t,p,m,k,q,⟨i2,r2,d,hR⟩,b,rfl⟩;refine Lw (f:=fun v=>(Frame.finish c' v,cs)) (s:=Instr.endRound l (Pf ex)) (Q:=fun v Z'=>R v Y2 Z') (fun W v W' es a=>?_) (Xs d hR) fun v Z' hv=>.stop ⟨v,rfl,rfl,hv⟩;refine⟨seen C.P f es,?_,fun e he=>Lh he⟩;cases ex with
 | normal =>
  cases b;simp only[Pf]at a;simp[Conc.G,stepG,stepG.exec,Fr,-Sem.runT_eq,a,doReturn,GStep.after]
 | exit id =>
  obtain⟨pre,hp,rfl⟩:=b;have hno:exitTo id (pre++[])=none:=by rw[Mj hp];rfl
  simp only[Pf]at a;simp only[Ui]at hno;simp[Conc.G,stepG,stepG.exec,Fr,-Sem.runT_eq,a,hno,doReturn,GStep.after]
 | ret =>
  obtain⟨pre,rfl⟩:=b;simp only[Pf]at a;simp[Conc.G,stepG,stepG.exec,Fr,-Sem.runT_eq,a,doReturn,GStep.after]
end
abbrev Cfq:=@Ghost.forget
abbrev Cfr:=@Ghost.perm
abbrev Cfs:=@Ro.le.refl
abbrev Cft:=@Ro.le.trans
end
section
def Ee(C:Ctx)(V:Ql)(b:FB)(n:Nat)(l₀ rest:List Oper)(Q:Env->List Deferred->Ro->Own->Prop)(e:Env)(ds:List Deferred)(Y:Ro)(Z:Own):Prop :=
 ∀pre,l₀=pre++rest->Fu n l₀.toArray=true->b.kind ≠ .early->Va C V b n l₀.toArray (List.range' pre.length rest.length) Q e ds Y Z
abbrev Ey(C:Ctx)(b:FB)(n:Nat)(l₀ rest:List Oper)(Q:Env->List Deferred->Ro->Own->Prop)(e:Env)(ds:List Deferred)(Y:Ro)(Z:Own):Prop:=Ee C NoV b n l₀ rest Q e ds Y Z
section
variable{C:Ctx}{V:Ql}{b:FB}{n:Nat}{l₀ rest:List Oper}{Q:Env->List Deferred->Ro->Own->Prop}{e:Env}{ds:List Deferred}{Y:Ro}{Z:Own}
def Nm(n:Nat):List Oper->Bool
 | []=>true
 | o::l=>(match o.dst with|some d=>Nat.ble (d+1) n|none=>true)&&Nm n l
theorem Ih{n}:∀{l:List Oper},Nm n l=true->Fu n l.toArray=true:=by
 intro l h;unfold Fu;rw[Bmv,Te];induction l with
 | nil=>simp
 | cons o l ih =>
  simp only[Nm,Pc]at h;intro x hx;rcases lZ8.1 hx with rfl|hx
  ·cases hd:x.dst with
   | none=>rfl
   | some d=>have:=h.1;rw[hd]at this;exact Qx (lZ7 this)
  ·exact ih h.2 x hx
theorem Ag{id Q}(hs:Nm n l₀=true)(hk:b.kind = .normal)(h:Ee C V b n l₀ l₀ (fun e ds Y Z=>Q .normal e ds Y Z) e ds Y Z):WpP C V b n (.region id l₀.toArray false) Q e ds Y Z:=by
 have hk':b.kind ≠ .early:=by rw[hk];simp
 refine Wp (Ih hs) hk' ?_;have:=h [] rfl (Ih hs) hk';simpa[Awn]using this
theorem qB{id Q}(h:Ee C V b n l₀ l₀ (fun e ds Y Z=>Q .normal e ds Y Z) e ds Y Z)(hs:Nm n l₀=true:=by exact rfl)(hk:b.kind = .normal:=by exact rfl):WpP C V b n (.region id l₀.toArray false) Q e ds Y Z:=Ag hs hk h
theorem Ac(h:Q e ds Y Z):Ee C V b n l₀ [] Q e ds Y Z:=fun _ _ _ _=>Xh h
theorem Apt{o}(h:(if Bz l₀.toArray o e=true then wpS C.P Y (execOp (Af e) o) Z (NextH C (fun v=>Ee C V b n l₀ rest Q (Ja e o.dst v)) b.round ds Y) else Ee C V b n l₀ rest Q (Ja e o.dst undef) ds Y Z)):
  Ee C V b n l₀ (o::rest) Q e ds Y Z:=by
 intro pre a hs hk;have ho:l₀.toArray[pre.length]?=some o:=by subst a;simp
 rw[Gb,Agl];have c:∀e ds Y Z,Ee C V b n l₀ rest Q e ds Y Z->Va C V b n l₀.toArray (List.range' (pre.length+1) rest.length) Q e ds Y Z:=fun e ds Y Z h'=>by
  have:=h' (pre++[o]) (by rw[a];simp) hs hk;simpa using this
 refine Uc hs hk ?_;unfold OpH;simp only[ho];split
 ·rename_i hw;rw[if_pos hw]at h;exact Eu (fun nx Z' hn=>hn.mono fun v ds Y Z hh=>c _ _ _ _ hh) _ _ h
 ·rename_i hw;rw[if_neg hw]at h;exact c _ _ _ _ h
theorem Ap{o}(hw:Bz l₀.toArray o e=false)(h:Ee C V b n l₀ rest Q (Ja e o.dst undef) ds Y Z):Ee C V b n l₀ (o::rest) Q e ds Y Z :=
 Apt (by rw[if_neg (by simp[hw])];exact h)
theorem Add{o}(hw:Bz l₀.toArray o e=true)(h:wpS C.P Y (execOp (Af e) o) Z (NextH C (fun v=>Ee C V b n l₀ rest Q (Ja e o.dst v)) b.round ds Y)):Ee C V b n l₀ (o::rest) Q e ds Y Z :=
 Apt (by rw[if_pos hw];exact h)
theorem Bj{Y' Z'}(hg:Ghost Y Z Y' Z')(h:Ee C V b n l₀ rest Q e ds Y' Z'):Ee C V b n l₀ rest Q e ds Y Z:=fun pre a c d=>Afg hg (h pre a c d)
theorem Tu{k o}(h:∀Y',Ro.le Y Y'->Y' k=some o->Ee C V b n l₀ rest Q e ds Y' Z):Ee C V b n l₀ rest Q e ds Y ((k,.obj o)::Z) :=
 fun pre a c d=>Abn fun Y' f g=>h Y' f g pre a c d
theorem Ar{j w x d o}(hg:o.guard=some (j,w))(hd:(l₀.toArray[j]?).bind (·.dst)=some d)(he:e d = .bool x)(hx:x=w):Bz l₀.toArray o e=true:=by subst hx;unfold Bz Ht;simp only[hg,hd,he];simp
theorem Bl{j w x d o}(hg:o.guard=some (j,w))(hd:(l₀.toArray[j]?).bind (·.dst)=some d)(he:e d = .bool x)(hx:x = !w):Bz l₀.toArray o e=false:=by subst hx;unfold Bz Ht;simp only[hg,hd,he];cases w<;>rfl
def gV(l:List Oper)(o:Oper)(e:Env):Option (Bool×Bool):=match o.guard with
 | some (j,w)=>match (l.toArray[j]?).bind (·.dst) with
  | some d=>match e d with
   | .bool x=>some (x,w)
   | _=>none
  | none=>none
 | none=>none
theorem Bvm{l o e x w}(h:gV l o e=some (x,w)):∃j d,o.guard=some (j,w)/\(l.toArray[j]?).bind (·.dst)=some d/\e d = .bool x:=by
 unfold gV at h;split at h
 ·split at h
  ·split at h
   ·cases h;exact⟨_,_,by assumption,by assumption,by assumption⟩
   ·cases h
  ·cases h
 ·cases h
theorem gN{l o e x w}(h:gV l o e=some (x,w))(hx:x = !w):Bz l.toArray o e=false:=let ⟨_,_,h1,h2,h3⟩:=Bvm h;Bl h1 h2 h3 hx
theorem gY{l o e x w}(h:gV l o e=some (x,w))(hx:x=w):Bz l.toArray o e=true:=let ⟨_,_,h1,h2,h3⟩:=Bvm h;Ar h1 h2 h3 hx
theorem qF{l o e x w}(hx:x=w)(h:gV l o e=some (x,w):=by exact rfl):Bz l.toArray o e=true:=gY h hx
theorem Jf{j w d o}(hg:o.guard=some (j,w))(hd:(l₀.toArray[j]?).bind (·.dst)=some d)(he:e d=undef):Bz l₀.toArray o e=false:=by unfold Bz Ht;simp only[hg,hd,he,undef];rfl
def Yld(P:Program)(Y:Ro)(e:Env)(o:Op)(ty:TypeId)(v:Value):Prop :=
 ∀Y' Z d pos af g,(∀b o,Y b=some o->Y' b=some o)->wpS P Y' (execOp (Af e) ⟨d,o,ty,pos,af,g⟩) Z (fun nx Z'=>nx = .value v/\Z'=Z)
theorem Aa{d op ty pos af g v}(hw:Bz l₀.toArray ⟨some d,op,ty,pos,af,g⟩ e=true)(hy:Yld C.P Y e op ty v)(h:Ee C V b n l₀ rest Q (upd e d v) ds Y Z):
  Ee C V b n l₀ (⟨some d,op,ty,pos,af,g⟩::rest) Q e ds Y Z :=
 Add hw (Eu (by rintro nx Z' ⟨rfl,rfl⟩;exact h) _ _ (hy Y Z _ _ _ _ fun _ _ h=>h))
theorem Ak{F:Value->Prop}{d op ty pos af g}(hw:Bz l₀.toArray ⟨some d,op,ty,pos,af,g⟩ e=true)(hy:∃v,F v/\Yld C.P Y e op ty v)(h:∀v,F v->Ee C V b n l₀ rest Q (upd e d v) ds Y Z):
  Ee C V b n l₀ (⟨some d,op,ty,pos,af,g⟩::rest) Q e ds Y Z:=let ⟨v,h1,h2⟩:=hy;Aa hw h2 (h v h1)
theorem Ae{d op ty pos af g}(hw:Bz l₀.toArray ⟨some d,op,ty,pos,af,g⟩ e=true)(h:wpS C.P Y (execOp (Af e) ⟨some d,op,ty,pos,af,g⟩) Z (NextH C (fun v=>Ee C V b n l₀ rest Q (upd e d v)) b.round ds Y)):Ee C V b n l₀ (⟨some d,op,ty,pos,af,g⟩::rest) Q e ds Y Z:=Add hw h
theorem Cx{op ty pos af g}(hw:Bz l₀.toArray ⟨none,op,ty,pos,af,g⟩ e=true)(h:wpS C.P Y (execOp (Af e) ⟨none,op,ty,pos,af,g⟩) Z (NextH C (fun _=>Ee C V b n l₀ rest Q e) b.round ds Y)):Ee C V b n l₀ (⟨none,op,ty,pos,af,g⟩::rest) Q e ds Y Z:=Add hw h
end
section
variable{P:Program}{Y:Ro}{e:Env}{ty t t':TypeId}{x y:Operand}{v:Value}
theorem Mt{s op}(hs:∀d pos af g,execOp (Af e) ⟨d,op,ty,pos,af,g⟩=s.bind fun v=>Sem.pure (Next.value v))(h:∀Y' Z,(∀b o,Y b=some o->Y' b=some o)->wpS P Y' s Z (fun w Z'=>w=v/\Z'=Z)):Yld P Y e op ty v:=fun Y' Z d pos af g hle=>by
 rw[hs,Ad];exact Eu (by rintro w Z' ⟨rfl,rfl⟩;exact⟨rfl,rfl⟩) _ _ (h Y' Z hle)
theorem Ah(hx:Af e x=v):Yld P Y e (.move x) ty v:=fun Y' Z d pos af g _=>by subst hx;exact⟨rfl,rfl⟩
theorem Cp(hx:Af e x=v):Yld P Y e (.assign x) ty v:=fun Y' Z d pos af g _=>by subst hx;exact⟨rfl,rfl⟩
theorem Bt{c k}(hc:Af e c = .bool k)(ht:k=true)(hx:Af e x=v):Yld P Y e (.pick c x y) ty v:=fun Y' Z d pos af g _=>by
 show wpS P Y' (do pure (Next.value (if <-asBool (Af e c) then Af e x else Af e y)):Sem Next) Z _;rw[hc];subst hx ht;exact⟨rfl,rfl⟩
theorem Bn{c k}(hc:Af e c = .bool k)(ht:k=false)(hy:Af e y=v):Yld P Y e (.pick c x y) ty v:=fun Y' Z d pos af g _=>by
 show wpS P Y' (do pure (Next.value (if <-asBool (Af e c) then Af e x else Af e y)):Sem Next) Z _;rw[hc];subst hy ht;exact⟨rfl,rfl⟩
theorem Bk{i vs}(hx:Af e x = .tuple vs)(hi:vs[i]?=some v):Yld P Y e (.extract x i) ty v :=
 Mt (s:=Instr.extract (Af e x) i) (fun _ _ _ _=>rfl) fun Y' Z _=>by rw[hx];simp only[Instr.extract,hi];exact⟨rfl,rfl⟩
theorem Dd{i vs}(v:Value)(hx:Af e x = .tuple vs:=by exact rfl)(hi:vs[i]?=some v:=by exact rfl):Yld P Y e (.extract x i) ty v:=Bk hx hi
theorem Iy{k}(hx:Af e x = .bool k):Yld P Y e (.unOp .not t x) ty (.bool (!k)) :=
 Mt (s:=Op.unary .not (Af e x)) (fun _ _ _ _=>rfl) fun Y' Z _=>by rw[hx];exact⟨rfl,rfl⟩
theorem Dh{op k k' p q}:eqGuard op t x y (.int k p) (.int k' q)=pure ():=by cases op<;>rfl
theorem Sc{op p q}:eqGuard op t x y (.string p) (.string q)=pure ():=by cases op<;>rfl
theorem La{op p q}(hx:Af e x=p)(hy:Af e y=q)(hg:eqGuard op t x y p q=pure ())(h:binOp op t p q=pure v):Yld P Y e (.binOp op t x y t') ty v :=
 Mt (s:=(do eqGuard op t x y (Af e x) (Af e y);binOp op t (Af e x) (Af e y))) (fun _ _ _ _=>rfl) fun Y' Z _=>by
  rw[hx,hy,hg,h];exact⟨rfl,rfl⟩
section
variable{k:IntKind}{p q:Int}
theorem Da(hx:Af e x = .int k p)(hy:Af e y = .int k q):Yld P Y e (.binOp .lss t x y t') ty (.bool (decide (p<q))):=La hx hy Dh (by simp[binOp];rfl)
theorem Uz(hx:Af e x = .int k p)(hy:Af e y = .int k q):Yld P Y e (.binOp .leq t x y t') ty (.bool (decide (p<=q))):=La hx hy Dh (by simp[binOp];rfl)
theorem Gl(hx:Af e x = .int k p)(hy:Af e y = .int k q):Yld P Y e (.binOp .gtr t x y t') ty (.bool (decide (p>q))):=La hx hy Dh (by simp only[binOp];rw[if_neg (by simp)];rfl)
theorem Uy(hx:Af e x = .int k p)(hy:Af e y = .int k q):Yld P Y e (.binOp .geq t x y t') ty (.bool (decide (p>=q))):=La hx hy Dh (by simp only[binOp];rw[if_neg (by simp)];rfl)
theorem Ek(hx:Af e x = .int k p)(hy:Af e y = .int k q):Yld P Y e (.binOp .eql t x y t') ty (.bool (p==q)):=La hx hy Dh (by simp only[binOp];rw[if_neg (by simp)];rfl)
theorem Dg(hx:Af e x = .int k p)(hy:Af e y = .int k q):Yld P Y e (.binOp .neq t x y t') ty (.bool (p != q)):=La hx hy Dh (by simp only[binOp];rw[if_neg (by simp)];rfl)
theorem Br{z}(hx:Af e x = .int k p)(hy:Af e y = .int k q)(hz:k.wrap (p+q)=z):Yld P Y e (.binOp .add t x y t') ty (.int k z):=La hx hy Dh (by subst hz;simp only[binOp];rw[if_neg (by simp)];rfl)
theorem Ou{z}(hx:Af e x = .int k p)(hy:Af e y = .int k q)(hz:k.wrap (p-q)=z):Yld P Y e (.binOp .sub t x y t') ty (.int k z):=La hx hy Dh (by subst hz;simp only[binOp];rw[if_neg (by simp)];rfl)
theorem Wq{z}(hx:Af e x = .int k p)(hy:Af e y = .int k q)(hz:k.wrap (p*q)=z):Yld P Y e (.binOp .mul t x y t') ty (.int k z):=La hx hy Dh (by subst hz;simp only[binOp];rw[if_neg (by simp)];rfl)
end
end
section
variable{C:Ctx}{V:Ql}{b:FB}{n:Nat}{l₀:List Oper}{Q:Env->List Deferred->Ro->Own->Prop}{e:Env}{ds:List Deferred}{Y Y9:Ro}{Z:Own}{pz:List Nat}{fuel:Nat}{listed:Array Bool}
def leS(Y9:Ro):Ro->Own->Prop:=fun Y' _=>Ro.le Y9 Y'
def Dl(l:List Oper)(li:List Bool):List Nat:=(List.range l.length).filter fun i =>
 !li.getD i true&&(match l[i]? with|some o=>o.after.toList.all fun e=>!Region.binds .any e||li.getD e.on false|none=>false)
def Xf(l:List Oper)(o:Oper):List Tmp :=
  (o.op.operands.toList.filterMap fun | .tmp t => some t|_ => none)++(match o.guard with
   | some (g,_)=>((l[g]?).bind (·.dst)).toList
   | none=>[])
def Aat(l:List Oper)(x y:Oper):Bool :=
 (match x.dst with|some d=>!(Xf l y).contains d&&y.dst != some d|none=>true)&&(match y.dst with|some d=>!(Xf l x).contains d|none=>true)
def Ahv(l:List Oper)(li:List Bool)(i:Nat):Bool :=
 match l[i]? with
 | none=>false
 | some oi=>(List.range l.length).all fun j=>j==i||li.getD j true||match l[j]? with
   | some oj=>oj.after.toList.any (fun e=>Region.binds .any e&&e.on==i)||Aat l oi oj
   | none=>true
def Apw(l:List Oper):Bool:=l.all fun o=>match o.op with | .select ..=>false|_=>true
def Py(l:List Oper)(li:List Bool)(pz:List Nat)(i:Nat):Bool:=pz.contains i&&Apw l&&Ahv l li i&&(Dl l li).contains i
theorem Hh(l:List Oper)(li:List Bool):Region.ready .any l.toArray li.toArray=Dl l li:=by
 unfold Region.ready Dl;simp only[Aiy,Jw];congr 1;funext i;have a:∀k d,li.toArray.getD k d=li.getD k d:=fun k d=>by simp[Bas,Oz]
 rw[a];cases l[i]? with
 | none=>rfl
 | some o =>
  simp only[Aoy,Amz];rw[<-Array.all_toList];simp only[a]
theorem Ahw{l li i}(h:Ahv l li i=true):Region.free .any l.toArray li.toArray i=true:=by
 unfold Region.free;unfold Ahv at h;simp only[Aiy,Jw];have a:∀k d,li.toArray.getD k d=li.getD k d:=fun k d=>by simp[Bas,Oz]
 have b:∀o,Oper.looksAt l.toArray o=Xf l o:=fun o=>by
  unfold Oper.looksAt Xf;simp only[Jw];rfl
 have c:∀x y,Oper.apart l.toArray x y=Aat l x y:=fun x y=>by unfold Oper.apart Aat;simp only[b];rfl
 revert h;cases l[i]? with
 | none=>exact id
 | some oi =>
  simp only[a,c,<-Array.any_toList];exact id
theorem Alr{l}(h:Apw l=true):Region.noSelect l.toArray=true:=by unfold Region.noSelect;rw[Bmv];exact h
theorem Dc{id Q}(pz:List Nat)(hm:C.P.follows .mixedOrders=true)(hs:Nm n l₀=true)(hk:b.kind = .normal)(h:El C b l₀.toArray (fun e ds Y Z=>Q .normal e ds Y Z) pz (leS Y) l₀.length (List.replicate l₀.length false).toArray e ds Y Z):WpP C V b n (.region id l₀.toArray true) Q e ds Y Z :=
 Vk pz (leS Y) hm (Ih hs) (by rw[hk];simp) (by simpa using h)
theorem Ais{id Q}(h:El C b l₀.toArray (fun e ds Y Z=>Q .normal e ds Y Z) (List.range l₀.length) (leS Y) l₀.length (List.replicate l₀.length false).toArray e ds Y Z)(hm:C.P.follows .mixedOrders=true:=by kernel_rfl)(hs:Nm n l₀=true:=by rfl)(hk:b.kind = .normal:=by rfl):WpC C b n (.region id l₀.toArray true) Q e ds Y Z:=Dc (List.range l₀.length) hm hs hk h
theorem Ec{li}(hr:Dl l₀ li=[])(h:Q e ds Y Z):El C b l₀.toArray Q pz (leS Y9) fuel li.toArray e ds Y Z:=Aeb (by rw[Hh];exact hr) h fuel
section
variable{d i:Nat}{op:Op}{ty:TypeId}{pos:String}{af:Array Edge}{g:Option (Nat×Bool)}{v:Value}{li:List Bool}
theorem Mo{li li':List Bool}{i}(h:li.set i true=li'):li.toArray.setIfInBounds i true=li'.toArray:=by subst h;simp
theorem Wg{pz}(h:Py l₀ li pz i=true):pz.contains i=true/\Region.noSelect l₀.toArray=true/\Region.free .any l₀.toArray li.toArray i=true/\(Region.ready .any l₀.toArray li.toArray).contains i=true:=by unfold Py at h;simp only[Pc]at h;exact⟨h.1.1.1,Alr h.1.1.2,Ahw h.1.2,by rw[Hh];exact h.2⟩
theorem Bd(li':List Bool)(hli:li.set i true=li')(ht:Py l₀ li pz i=true)(hi:l₀[i]?=some ⟨some d,op,ty,pos,af,g⟩)
  (hS:Ro.le Y9 Y) (hw:Bz l₀.toArray ⟨some d,op,ty,pos,af,g⟩ e=true) (hy:Yld C.P Y9 e op ty v) (h:El C b l₀.toArray Q pz (leS Y9) fuel li'.toArray (upd e d v) ds Y Z) :
  El C b l₀.toArray Q pz (leS Y9) (fuel+1) li.toArray e ds Y Z:=by obtain⟨a,c,f,j⟩:=Wg ht;refine Vm (by rw[Jw];exact hi) a c f j (.inl ⟨hw,fun Y' Z' hS'=>hy Y' Z' _ _ _ _ hS'⟩) hS ?_;rw[Mo hli];exact h
theorem Tz  (i:Nat) (li':List Bool) (hi:l₀[i]?=some ⟨some d,op,ty,pos,af,g⟩) (hS:Ro.le Y9 Y) (hw:Bz l₀.toArray ⟨some d,op,ty,pos,af,g⟩ e=true) (hy:Yld C.P Y9 e op ty v) (h:El C b l₀.toArray Q pz (leS Y9) fuel li'.toArray (upd e d v) ds Y Z) (hli:li.set i true=li':=by rfl) (ht:Py l₀ li pz i=true:=by kernel_rfl) :
  El C b l₀.toArray Q pz (leS Y9) (fuel+1) li.toArray e ds Y Z:=Bd (i:=i) li' hli ht hi hS hw hy h
theorem Gh  (i:Nat) (li':List Bool) (hi:l₀[i]?=some ⟨some d,op,ty,pos,af,g⟩) (hy:Yld C.P Y9 e op ty v) (h:El C b l₀.toArray Q pz (leS Y9) fuel li'.toArray (upd e d v) ds Y Z) (hli:li.set i true=li':=by rfl) (ht:Py l₀ li pz i=true:=by kernel_rfl) (hS:Ro.le Y9 Y:=by exact Cfs) (hw:Bz l₀.toArray ⟨some d,op,ty,pos,af,g⟩ e=true:=by rfl) :
  El C b l₀.toArray Q pz (leS Y9) (fuel+1) li.toArray e ds Y Z:=Bd (i:=i) li' hli ht hi hS hw hy h
theorem Cd{F:Value->Prop}(li':List Bool)(hli:li.set i true=li')(ht:Py l₀ li pz i=true)(hi:l₀[i]?=some ⟨some d,op,ty,pos,af,g⟩)
  (hS:Ro.le Y9 Y) (hw:Bz l₀.toArray ⟨some d,op,ty,pos,af,g⟩ e=true) (hy:∃v,F v/\Yld C.P Y9 e op ty v) (h:∀v,F v->El C b l₀.toArray Q pz (leS Y9) fuel li'.toArray (upd e d v) ds Y Z) :
  El C b l₀.toArray Q pz (leS Y9) (fuel+1) li.toArray e ds Y Z:=let ⟨v,h1,h2⟩:=hy;Bd li' hli ht hi hS hw h2 (h v h1)
theorem Mm{F:Value->Prop}(i:Nat)(li':List Bool)(hi:l₀[i]?=some ⟨some d,op,ty,pos,af,g⟩)(hS:Ro.le Y9 Y)(hw:Bz l₀.toArray ⟨some d,op,ty,pos,af,g⟩ e=true)(hy:∃v,F v/\Yld C.P Y9 e op ty v)(h:∀v,F v->El C b l₀.toArray Q pz (leS Y9) fuel li'.toArray (upd e d v) ds Y Z)(hli:li.set i true=li':=by rfl)(ht:Py l₀ li pz i=true:=by kernel_rfl) :
  El C b l₀.toArray Q pz (leS Y9) (fuel+1) li.toArray e ds Y Z:=Cd (i:=i) li' hli ht hi hS hw hy h
theorem Hd{F:Value->Prop}(i:Nat)(li':List Bool)(hi:l₀[i]?=some ⟨some d,op,ty,pos,af,g⟩)(hy:∃v,F v/\Yld C.P Y9 e op ty v)(h:∀v,F v->El C b l₀.toArray Q pz (leS Y9) fuel li'.toArray (upd e d v) ds Y Z)(hli:li.set i true=li':=by rfl)(ht:Py l₀ li pz i=true:=by kernel_rfl)(hS:Ro.le Y9 Y:=by exact Cfs)(hw:Bz l₀.toArray ⟨some d,op,ty,pos,af,g⟩ e=true:=by rfl) :
  El C b l₀.toArray Q pz (leS Y9) (fuel+1) li.toArray e ds Y Z:=Cd (i:=i) li' hli ht hi hS hw hy h
theorem Sw(li':List Bool)(hli:li.set i true=li')(ht:Py l₀ li pz i=true)(hi:l₀[i]?=some ⟨some d,op,ty,pos,af,g⟩)
  (hS:Ro.le Y9 Y) (hw:Bz l₀.toArray ⟨some d,op,ty,pos,af,g⟩ e=false) (h:El C b l₀.toArray Q pz (leS Y9) fuel li'.toArray (upd e d undef) ds Y Z) :
  El C b l₀.toArray Q pz (leS Y9) (fuel+1) li.toArray e ds Y Z:=by obtain⟨a,c,f,j⟩:=Wg ht;refine Vm (by rw[Jw];exact hi) a c f j (.inr ⟨hw,rfl⟩) hS ?_;rw[Mo hli];exact h
theorem Jg  (i:Nat) (li':List Bool) (hi:l₀[i]?=some ⟨some d,op,ty,pos,af,g⟩) (hS:Ro.le Y9 Y) (hw:Bz l₀.toArray ⟨some d,op,ty,pos,af,g⟩ e=false) (h:El C b l₀.toArray Q pz (leS Y9) fuel li'.toArray (upd e d undef) ds Y Z) (hli:li.set i true=li':=by rfl) (ht:Py l₀ li pz i=true:=by kernel_rfl) :
  El C b l₀.toArray Q pz (leS Y9) (fuel+1) li.toArray e ds Y Z:=Sw (i:=i) li' hli ht hi hS hw h
theorem Ej{Y' Z'}(hg:Ghost Y Z Y' Z')(hS:Ro.le Y9 Y->Ro.le Y9 Y')(h:El C b l₀.toArray Q pz (leS Y9) (fuel+1) li.toArray e ds Y' Z'):El C b l₀.toArray Q pz (leS Y9) (fuel+1) li.toArray e ds Y Z:=Aar hg hS h
theorem Agi{k o}(h:∀Y',Ro.le Y Y'->Y' k=some o->El C b l₀.toArray Q pz (leS Y9) (fuel+1) li.toArray e ds Y' Z):El C b l₀.toArray Q pz (leS Y9) (fuel+1) li.toArray e ds Y ((k,.obj o)::Z):=by
 by_cases hb:Y k=none
 ·have hle:Ro.le Y (Y.add k o):=fun x ox hx=>by
   unfold Ro.add;rw[if_neg (fun e=>by rw[e,hb]at hx;cases hx)];exact hx
  exact Ej (.freeze hb) (fun a=>a.trans hle) (h _ hle (by simp[Ro.add]))
 ·exact .inl fun W hs=>absurd (hs.dj k mC) hb
theorem Dj(li':List Bool)(hli:li.set i true=li')(hr:Dl l₀ li=[i])(hi:l₀[i]?=some ⟨some d,op,ty,pos,af,g⟩)(hw:Bz l₀.toArray ⟨some d,op,ty,pos,af,g⟩ e=true)
  (h:wpS C.P Y (execOp (Af e) ⟨some d,op,ty,pos,af,g⟩) Z (NextH C (fun v ds' Y' Z'=>Ro.le Y9 Y'/\El C b l₀.toArray Q pz (leS Y9) fuel li'.toArray (upd e d v) ds' Y' Z') b.round ds Y)) :
  El C b l₀.toArray Q pz (leS Y9) (fuel+1) li.toArray e ds Y Z:=by refine Mz ((Hh _ _).trans hr) (by simp) fun j hj=>?_;rw[Nh]at hj;subst hj;unfold OpH;simp only[Jw,hi,Mo hli];rw[if_pos hw];exact Eu (fun nx Z' hn=>hn.mono fun v ds Y Z hh=>⟨fun _=>hh.1,hh.2⟩) _ _ h
theorem Aza  (i:Nat) (li':List Bool) (hi:l₀[i]?=some ⟨some d,op,ty,pos,af,g⟩) (hw:Bz l₀.toArray ⟨some d,op,ty,pos,af,g⟩ e=true) (h:wpS C.P Y (execOp (Af e) ⟨some d,op,ty,pos,af,g⟩) Z (NextH C (fun v ds' Y' Z'=>Ro.le Y9 Y'/\El C b l₀.toArray Q pz (leS Y9) fuel li'.toArray (upd e d v) ds' Y' Z') b.round ds Y)) (hli:li.set i true=li':=by rfl) (hr:Dl l₀ li=[i]:=by kernel_rfl) :
  El C b l₀.toArray Q pz (leS Y9) (fuel+1) li.toArray e ds Y Z:=Dj (i:=i) li' hli hr hi hw h
theorem Qp  (i:Nat) (li':List Bool) (hi:l₀[i]?=some ⟨some d,op,ty,pos,af,g⟩) (h:wpS C.P Y (execOp (Af e) ⟨some d,op,ty,pos,af,g⟩) Z (NextH C (fun v ds' Y' Z'=>Ro.le Y9 Y'/\El C b l₀.toArray Q pz (leS Y9) fuel li'.toArray (upd e d v) ds' Y' Z') b.round ds Y)) (hli:li.set i true=li':=by rfl) (hr:Dl l₀ li=[i]:=by kernel_rfl) (hw:Bz l₀.toArray ⟨some d,op,ty,pos,af,g⟩ e=true:=by rfl) :
  El C b l₀.toArray Q pz (leS Y9) (fuel+1) li.toArray e ds Y Z:=Dj (i:=i) li' hli hr hi hw h
theorem Fg(li':List Bool)(hli:li.set i true=li')(hr:Dl l₀ li=[i])(hi:l₀[i]?=some ⟨none,op,ty,pos,af,g⟩)(hw:Bz l₀.toArray ⟨none,op,ty,pos,af,g⟩ e=true)
  (h:wpS C.P Y (execOp (Af e) ⟨none,op,ty,pos,af,g⟩) Z (NextH C (fun _ ds' Y' Z'=>Ro.le Y9 Y'/\El C b l₀.toArray Q pz (leS Y9) fuel li'.toArray e ds' Y' Z') b.round ds Y)) :
  El C b l₀.toArray Q pz (leS Y9) (fuel+1) li.toArray e ds Y Z:=by refine Mz ((Hh _ _).trans hr) (by simp) fun j hj=>?_;rw[Nh]at hj;subst hj;unfold OpH;simp only[Jw,hi,Mo hli];rw[if_pos hw];exact Eu (fun nx Z' hn=>hn.mono fun v ds Y Z hh=>⟨fun _=>hh.1,hh.2⟩) _ _ h
theorem Aac  (i:Nat) (li':List Bool) (hi:l₀[i]?=some ⟨none,op,ty,pos,af,g⟩) (h:wpS C.P Y (execOp (Af e) ⟨none,op,ty,pos,af,g⟩) Z (NextH C (fun _ ds' Y' Z'=>Ro.le Y9 Y'/\El C b l₀.toArray Q pz (leS Y9) fuel li'.toArray e ds' Y' Z') b.round ds Y)) (hli:li.set i true=li':=by rfl) (hr:Dl l₀ li=[i]:=by kernel_rfl) (hw:Bz l₀.toArray ⟨none,op,ty,pos,af,g⟩ e=true:=by rfl) :
  El C b l₀.toArray Q pz (leS Y9) (fuel+1) li.toArray e ds Y Z:=Fg (i:=i) li' hli hr hi hw h
theorem Bg(li':List Bool)(hli:li.set i true=li')(hr:Dl l₀ li=[i])(hi:l₀[i]?=some ⟨some d,op,ty,pos,af,g⟩)(hS:Ro.le Y9 Y)(hw:Bz l₀.toArray ⟨some d,op,ty,pos,af,g⟩ e=true)(hy:Yld C.P Y e op ty v)
  (h:El C b l₀.toArray Q pz (leS Y9) fuel li'.toArray (upd e d v) ds Y Z):El C b l₀.toArray Q pz (leS Y9) (fuel+1) li.toArray e ds Y Z :=
 Dj li' hli hr hi hw (Eu (by rintro nx Z' ⟨rfl,rfl⟩;exact⟨hS,h⟩) _ _ (hy Y Z _ _ _ _ fun _ _ h=>h))
theorem Td  (i:Nat) (li':List Bool) (hi:l₀[i]?=some ⟨some d,op,ty,pos,af,g⟩) (hS:Ro.le Y9 Y) (hw:Bz l₀.toArray ⟨some d,op,ty,pos,af,g⟩ e=true) (hy:Yld C.P Y e op ty v) (h:El C b l₀.toArray Q pz (leS Y9) fuel li'.toArray (upd e d v) ds Y Z) (hli:li.set i true=li':=by rfl) (hr:Dl l₀ li=[i]:=by kernel_rfl):El C b l₀.toArray Q pz (leS Y9) (fuel+1) li.toArray e ds Y Z:=Bg (i:=i) li' hli hr hi hS hw hy h
theorem Fd  (i:Nat) (li':List Bool) (hi:l₀[i]?=some ⟨some d,op,ty,pos,af,g⟩) (hy:Yld C.P Y e op ty v) (h:El C b l₀.toArray Q pz (leS Y9) fuel li'.toArray (upd e d v) ds Y Z) (hli:li.set i true=li':=by rfl) (hr:Dl l₀ li=[i]:=by kernel_rfl) (hS:Ro.le Y9 Y:=by exact Cfs) (hw:Bz l₀.toArray ⟨some d,op,ty,pos,af,g⟩ e=true:=by rfl):El C b l₀.toArray Q pz (leS Y9) (fuel+1) li.toArray e ds Y Z:=Bg (i:=i) li' hli hr hi hS hw hy h
theorem Hk{F:Value->Prop}(li':List Bool)(hli:li.set i true=li')(hr:Dl l₀ li=[i])(hi:l₀[i]?=some ⟨some d,op,ty,pos,af,g⟩)(hS:Ro.le Y9 Y)(hw:Bz l₀.toArray ⟨some d,op,ty,pos,af,g⟩ e=true)(hy:∃v,F v/\Yld C.P Y e op ty v)
  (h:∀v,F v->El C b l₀.toArray Q pz (leS Y9) fuel li'.toArray (upd e d v) ds Y Z):El C b l₀.toArray Q pz (leS Y9) (fuel+1) li.toArray e ds Y Z:=let ⟨v,h1,h2⟩:=hy;Bg li' hli hr hi hS hw h2 (h v h1)
theorem Akp{F:Value->Prop}(i:Nat)(li':List Bool)(hi:l₀[i]?=some ⟨some d,op,ty,pos,af,g⟩)(hS:Ro.le Y9 Y)(hw:Bz l₀.toArray ⟨some d,op,ty,pos,af,g⟩ e=true)(hy:∃v,F v/\Yld C.P Y e op ty v)(h:∀v,F v->El C b l₀.toArray Q pz (leS Y9) fuel li'.toArray (upd e d v) ds Y Z)(hli:li.set i true=li':=by rfl)(hr:Dl l₀ li=[i]:=by kernel_rfl):El C b l₀.toArray Q pz (leS Y9) (fuel+1) li.toArray e ds Y Z:=Hk (i:=i) li' hli hr hi hS hw hy h
theorem Jp{F:Value->Prop}(i:Nat)(li':List Bool)(hi:l₀[i]?=some ⟨some d,op,ty,pos,af,g⟩)(hy:∃v,F v/\Yld C.P Y e op ty v)(h:∀v,F v->El C b l₀.toArray Q pz (leS Y9) fuel li'.toArray (upd e d v) ds Y Z)(hli:li.set i true=li':=by rfl)(hr:Dl l₀ li=[i]:=by kernel_rfl)(hS:Ro.le Y9 Y:=by exact Cfs)(hw:Bz l₀.toArray ⟨some d,op,ty,pos,af,g⟩ e=true:=by rfl):El C b l₀.toArray Q pz (leS Y9) (fuel+1) li.toArray e ds Y Z:=Hk (i:=i) li' hli hr hi hS hw hy h
theorem Wv(li':List Bool)(hli:li.set i true=li')(hr:Dl l₀ li=[i])(hi:l₀[i]?=some ⟨some d,op,ty,pos,af,g⟩)(hS:Ro.le Y9 Y)(hw:Bz l₀.toArray ⟨some d,op,ty,pos,af,g⟩ e=false)
  (h:El C b l₀.toArray Q pz (leS Y9) fuel li'.toArray (upd e d undef) ds Y Z):El C b l₀.toArray Q pz (leS Y9) (fuel+1) li.toArray e ds Y Z:=by refine Mz ((Hh _ _).trans hr) (by simp) fun j hj=>?_;rw[Nh]at hj;subst hj;unfold OpH;simp only[Jw,hi,Mo hli];rw[if_neg (by simp[hw])];exact⟨fun _=>hS,h⟩
theorem Ty  (i:Nat) (li':List Bool) (hi:l₀[i]?=some ⟨some d,op,ty,pos,af,g⟩) (hS:Ro.le Y9 Y) (hw:Bz l₀.toArray ⟨some d,op,ty,pos,af,g⟩ e=false) (h:El C b l₀.toArray Q pz (leS Y9) fuel li'.toArray (upd e d undef) ds Y Z) (hli:li.set i true=li':=by rfl) (hr:Dl l₀ li=[i]:=by kernel_rfl):El C b l₀.toArray Q pz (leS Y9) (fuel+1) li.toArray e ds Y Z:=Wv (i:=i) li' hli hr hi hS hw h
theorem Acq{d' j op' ty' pos' af' g'}(li' li'':List Bool)(hli:li.set i true=li')(hlj:li.set j true=li'')(hr:Dl l₀ li=[i,j])(hi:l₀[i]?=some ⟨some d,op,ty,pos,af,g⟩)(hj:l₀[j]?=some ⟨some d',op',ty',pos',af',g'⟩)(hw:Bz l₀.toArray ⟨some d,op,ty,pos,af,g⟩ e=true)(hw':Bz l₀.toArray ⟨some d',op',ty',pos',af',g'⟩ e=true)(h:wpS C.P Y (execOp (Af e) ⟨some d,op,ty,pos,af,g⟩) Z (NextH C (fun v ds' Y' Z'=>Ro.le Y9 Y'/\El C b l₀.toArray Q pz (leS Y9) fuel li'.toArray (upd e d v) ds' Y' Z') b.round ds Y))(h':wpS C.P Y (execOp (Af e) ⟨some d',op',ty',pos',af',g'⟩) Z (NextH C (fun v ds' Y' Z'=>Ro.le Y9 Y'/\El C b l₀.toArray Q pz (leS Y9) fuel li''.toArray (upd e d' v) ds' Y' Z') b.round ds Y)):
  El C b l₀.toArray Q pz (leS Y9) (fuel+1) li.toArray e ds Y Z:=by
 refine Mz ((Hh _ _).trans hr) (by simp) fun m hm=>?_;simp only[lZ8,Xp,or_false]at hm;rcases hm with rfl|rfl
 ·unfold OpH;simp only[Jw,hi,Mo hli];rw[if_pos hw];exact Eu (fun nx Z' hn=>hn.mono fun v ds Y Z hh=>⟨fun _=>hh.1,hh.2⟩) _ _ h
 ·unfold OpH;simp only[Jw,hj,Mo hlj];rw[if_pos hw'];exact Eu (fun nx Z' hn=>hn.mono fun v ds Y Z hh=>⟨fun _=>hh.1,hh.2⟩) _ _ h'
theorem Akk(t:Bool)(h1:t=true->El C b l₀.toArray Q pz (leS Y9) fuel li.toArray e ds Y Z)(h0:t=false->El C b l₀.toArray Q pz (leS Y9) fuel li.toArray e ds Y Z):El C b l₀.toArray Q pz (leS Y9) fuel li.toArray e ds Y Z:=by
 cases t
 ·exact h0 rfl
 ·exact h1 rfl
end
end
theorem l_M{C V b n l₀ rest Q e ds Y Z d x ty pos af g}(v:Value)(hw:Bz l₀.toArray ⟨some d,.move x,ty,pos,af,g⟩ e=true)(hx:Af e x=v)(h:Ee C V b n l₀ rest Q (upd e d v) ds Y Z):Ee C V b n l₀ (⟨some d,.move x,ty,pos,af,g⟩::rest) Q e ds Y Z:=Aa hw (Ah hx) h
theorem w_q{C V b n l₀ y id Q e ds Y Z}(hs:Nm n l₀=true)(hk:b.kind = .normal)(h:∀K:Env->List Deferred->Ro->Own->Prop,(∀e ds Y Z,WpP C V b n y Q e ds Y Z->K e ds Y Z)->Ee C V b n l₀ l₀ (fun e ds Y Z=>Zo K Q .normal e ds Y Z) e ds Y Z):WpP C V b n (.seq (.region id l₀.toArray false) y) Q e ds Y Z:=Ai fun K k=>Ag hs hk (h K k)
theorem qA{C V b n l₀ y id Q e ds Y Z}(h:∀K:Env->List Deferred->Ro->Own->Prop,(∀e ds Y Z,WpP C V b n y Q e ds Y Z->K e ds Y Z)->Ee C V b n l₀ l₀ (fun e ds Y Z=>Zo K Q .normal e ds Y Z) e ds Y Z)(hs:Nm n l₀=true:=by exact rfl)(hk:b.kind = .normal:=by exact rfl):WpP C V b n (.seq (.region id l₀.toArray false) y) Q e ds Y Z:=w_q hs hk h
theorem l_k{C V b n l₀ e ds Y}{Z:Own}{K W:Env->List Deferred->Ro->Own->Prop}(hk:∀e ds Y Z,W e ds Y Z->K e ds Y Z)(h:W e ds Y Z):Ee C V b n l₀ [] K e ds Y Z:=Ac (hk _ _ _ _ h)
theorem Asa{C V b n l₀ e ds Y Z K x y Q}(hk:∀e ds Y Z,WpP C V b n (.seq x y) Q e ds Y Z->K e ds Y Z)(h:∀K':Env->List Deferred->Ro->Own->Prop,(∀e ds Y Z,WpP C V b n y Q e ds Y Z->K' e ds Y Z)->WpP C V b n x (Zo K' Q) e ds Y Z):Ee C V b n l₀ [] K e ds Y Z:=Ac (hk _ _ _ _ (Ai h))
theorem Arx{C V b n l₀ l₁ e ds Y Z K y id Q}(hs:Nm n l₁=true)(hb:b.kind = .normal)(hk:∀e ds Y Z,WpP C V b n (.seq (.region id l₁.toArray false) y) Q e ds Y Z->K e ds Y Z)(h:∀K':Env->List Deferred->Ro->Own->Prop,(∀e ds Y Z,WpP C V b n y Q e ds Y Z->K' e ds Y Z)->Ee C V b n l₁ l₁ (fun e ds Y Z=>Zo K' Q .normal e ds Y Z) e ds Y Z):Ee C V b n l₀ [] K e ds Y Z:=Ac (hk _ _ _ _ (w_q hs hb h))
theorem qC{C V b n l₀ l₁ e ds Y Z K y id Q}(hk:∀e ds Y Z,WpP C V b n (.seq (.region id l₁.toArray false) y) Q e ds Y Z->K e ds Y Z)(h:∀K':Env->List Deferred->Ro->Own->Prop,(∀e ds Y Z,WpP C V b n y Q e ds Y Z->K' e ds Y Z)->Ee C V b n l₁ l₁ (fun e ds Y Z=>Zo K' Q .normal e ds Y Z) e ds Y Z)(hs:Nm n l₁=true:=by exact rfl)(hb:b.kind = .normal:=by exact rfl):Ee C V b n l₀ [] K e ds Y Z:=Arx hs hb hk h
theorem Asb{C V b n l₁ e ds Y Z x y id Q}(hs:Nm n l₁=true)(hb:b.kind = .normal)(h:∀K K':Env->List Deferred->Ro->Own->Prop,(∀e ds Y Z,WpP C V b n y Q e ds Y Z->K e ds Y Z)->(∀e ds Y Z,WpP C V b n x (Zo K Q) e ds Y Z->K' e ds Y Z)->Ee C V b n l₁ l₁ (fun e ds Y Z=>Zo K' (Zo K Q) .normal e ds Y Z) e ds Y Z):WpP C V b n (.seq (.seq (.region id l₁.toArray false) x) y) Q e ds Y Z:=Ai fun K k=>w_q hs hb fun K' k'=>h K K' k k'
theorem qD{C V b n l₁ e ds Y Z x y id Q}(h:∀K K':Env->List Deferred->Ro->Own->Prop,(∀e ds Y Z,WpP C V b n y Q e ds Y Z->K e ds Y Z)->(∀e ds Y Z,WpP C V b n x (Zo K Q) e ds Y Z->K' e ds Y Z)->Ee C V b n l₁ l₁ (fun e ds Y Z=>Zo K' (Zo K Q) .normal e ds Y Z) e ds Y Z)(hs:Nm n l₁=true:=by exact rfl)(hb:b.kind = .normal:=by exact rfl):WpP C V b n (.seq (.seq (.region id l₁.toArray false) x) y) Q e ds Y Z:=Asb hs hb h
theorem Ary{C V b n l₀ l₁ e ds Y Z K₀ x y id Q}(hs:Nm n l₁=true)(hb:b.kind = .normal)(hk:∀e ds Y Z,WpP C V b n (.seq (.seq (.region id l₁.toArray false) x) y) Q e ds Y Z->K₀ e ds Y Z)(h:∀K K':Env->List Deferred->Ro->Own->Prop,(∀e ds Y Z,WpP C V b n y Q e ds Y Z->K e ds Y Z)->(∀e ds Y Z,WpP C V b n x (Zo K Q) e ds Y Z->K' e ds Y Z)->Ee C V b n l₁ l₁ (fun e ds Y Z=>Zo K' (Zo K Q) .normal e ds Y Z) e ds Y Z):Ee C V b n l₀ [] K₀ e ds Y Z:=Ac (hk _ _ _ _ (Asb hs hb h))
theorem qE{C V b n l₀ l₁ e ds Y Z K₀ x y id Q}(hk:∀e ds Y Z,WpP C V b n (.seq (.seq (.region id l₁.toArray false) x) y) Q e ds Y Z->K₀ e ds Y Z)(h:∀K K':Env->List Deferred->Ro->Own->Prop,(∀e ds Y Z,WpP C V b n y Q e ds Y Z->K e ds Y Z)->(∀e ds Y Z,WpP C V b n x (Zo K Q) e ds Y Z->K' e ds Y Z)->Ee C V b n l₁ l₁ (fun e ds Y Z=>Zo K' (Zo K Q) .normal e ds Y Z) e ds Y Z)(hs:Nm n l₁=true:=by exact rfl)(hb:b.kind = .normal:=by exact rfl):Ee C V b n l₀ [] K₀ e ds Y Z:=Ary hs hb hk h
theorem l_v{C V b n l₀ rest Q e ds Y Z d op ty pos af v}(hy:Yld C.P Y e op ty v)(h:Ee C V b n l₀ rest Q (upd e d v) ds Y Z):Ee C V b n l₀ (⟨some d,op,ty,pos,af,none⟩::rest) Q e ds Y Z:=Aa rfl hy h
theorem Arw{C:Ctx}{V:Ql}{b:FB}{n:Nat}{l₀ rest:List Oper}{Q:Env->List Deferred->Ro->Own->Prop}{e:Env}{ds:List Deferred}{Y:Ro}{Z:Own}{F:Value->Prop}{d:Nat}{op:Op}{ty:TypeId}{pos:String}{af:Array Edge}(hy:∃v,F v/\Yld C.P Y e op ty v)(h:∀v,F v->Ee C V b n l₀ rest Q (upd e d v) ds Y Z):Ee C V b n l₀ (⟨some d,op,ty,pos,af,none⟩::rest) Q e ds Y Z:=Ak rfl hy h
theorem Arv{C V b n l₀ rest Q e ds Y Z d op ty pos af}(h:wpS C.P Y (execOp (Af e) ⟨some d,op,ty,pos,af,none⟩) Z (NextH C (fun v=>Ee C V b n l₀ rest Q (upd e d v)) b.round ds Y)):Ee C V b n l₀ (⟨some d,op,ty,pos,af,none⟩::rest) Q e ds Y Z:=Ae rfl h
theorem Av{C V b n l₀ rest Q e ds Y Z d x ty pos af}(v:Value)(h:Ee C V b n l₀ rest Q (upd e d v) ds Y Z)(hx:Af e x=v:=by rfl):Ee C V b n l₀ (⟨some d,.move x,ty,pos,af,none⟩::rest) Q e ds Y Z:=Aa rfl (Ah hx) h
theorem Au{C V b n l₀ rest Q e ds Y Z d x ty pos af}(v:Value)(h:Ee C V b n l₀ rest Q (upd e d v) ds Y Z)(hx:Af e x=v:=by rfl):Ee C V b n l₀ (⟨some d,.assign x,ty,pos,af,none⟩::rest) Q e ds Y Z:=Aa rfl (Cp hx) h
abbrev rP(Y:Ro)(Z:Own)(v:Value):Value->Ro->Own->Prop:=fun w Y' Z'=>Y'=Y/\Z'=Z/\w=v
theorem eT{a c}(b:Value)(h:b=c)(h0:a=b:=by rfl):a=c:=h0.trans h
abbrev oC(c:Array Value)(t:TypeId):Res:=Res.obj (Obj.cells c t (0,0))
theorem Arz{x y:Nat×Res}{R:Own}:(x::y::R).Perm (y::x::R):=List.Perm.swap ..
theorem Asc{x:Nat×Res}{g R:Own}:(x::(g++R)).Perm (g++(x::R)):=Bna [x] g R
theorem Asd{x:Nat×Res}{g R:Own}:(g++(x::R)).Perm (x::(g++R)):=Bna g [x] R
theorem Ase{g h R:Own}:(g++(h++R)).Perm (h++(g++R)):=Bna g h R
theorem p_c{x:Nat×Res}{A B:Own}(h:A.Perm B):(x::A).Perm (x::B):=h.cons x
theorem p_a{g A B:Own}(h:A.Perm B):(g++A).Perm (g++B):=h.append_left g
theorem kk{K W:Env->List Deferred->Ro->Own->Prop}(hk:∀e ds Y Z,W e ds Y Z->K e ds Y Z){e ds Y Z}(h:W e ds Y Z):K e ds Y Z:=hk _ _ _ _ h
theorem rT{Y:Ro}{Z:Own}{w u}(v:Value)(h:v=u)(h0:w=v:=by exact rfl):Y=Y/\Z=Z/\w=u:=⟨rfl,rfl,h0.trans h⟩
theorem Lz{x y:Nat×Res}{A B:Own}(h:A.Perm (y::B)):(x::A).Perm (y::x::B):=(p_c h).trans Arz
theorem Bbk{x:Nat×Res}{g A B:Own}(h:A.Perm (g++B)):(x::A).Perm (g++(x::B)):=(p_c h).trans Asc
theorem Axx{x}{g A B:Own}(h:A.Perm (x::B)):(g++A).Perm (x::(g++B)):=(p_a h).trans Asd
theorem Gm{g k A B:Own}(h:A.Perm (k++B)):(g++A).Perm (k++(g++B)):=(p_a h).trans Ase
end
section
class Dat (α:Type) where
 k:Nat
 agg:Bool
 rep:Ro->List Value->α->Prop
 mono:∀{Y Y':Ro} {cs:List Value} {x:α},Ro.le Y Y'->rep Y cs x->rep Y' cs x
 len:∀{Y:Ro} {cs:List Value} {x:α},rep Y cs x->cs.length=k
 sgl:∀{Y:Ro} {cs:List Value} {x:α},rep Y cs x->∀c∈cs,single c=true
 one:agg=false->k=1
def Vu(agg:Bool)(cs:List Value):Value:=if agg then .agg cs.toArray else cs.headD undef
def Val{α:Type}[Dat α](Y:Ro)(v:Value)(x:α):Prop:=∃cs,Dat.rep Y cs x/\v=Vu (Dat.agg α) cs
def At{α:Type}[Dat α](Y:Ro)(p:Value)(x:α):Prop :=
 ∃b off c t fz cs rest,p = .pointer (some ⟨b,off,none⟩)/\Y b=some (.cells c t fz)/\Dat.rep Y cs x/\c.toList.drop off=cs++rest
section
variable{α:Type}[Dat α]{Y Y':Ro}
theorem Val.mono(h:Ro.le Y Y'){v}{x:α}:Val Y v x->Val Y' v x:=fun⟨cs,a,b⟩=>⟨cs,Dat.mono h a,b⟩
theorem At.mono(h:Ro.le Y Y'){p}{x:α}:At Y p x->At Y' p x:=fun⟨b,off,c,t,fz,cs,rest,a,d,e,f⟩=>⟨b,off,c,t,fz,cs,rest,a,h _ _ d,Dat.mono h e,f⟩
theorem Yw{cs}(hs:∀c∈cs,single c=true)(h1:Dat.agg α=false->cs.length=1):(Vu (Dat.agg α) cs).cells=cs.toArray:=by
 unfold Vu;cases ha:Dat.agg α with
 | true=>rfl
 | false =>
  have:=h1 ha
  match cs,this with
  | [c],_ =>
   have hc:=hs c (Nh.2 rfl);cases c<;>first|rfl|(simp[single]at hc)
theorem Val.cells{v}{x:α}(h:Val Y v x):∃cs,Dat.rep Y cs x/\v=Vu (Dat.agg α) cs/\v.cells=cs.toArray:=by obtain⟨cs,a,b⟩:=h;refine⟨cs,a,b,?_⟩;rw[b];exact Yw (Dat.sgl a) fun ha=>by rw[Dat.len a,Dat.one ha]
end
def SliceV{α:Type}[Dat α](Y:Ro)(v:Value)(xs:List α):Prop :=
 ∃a len cap,v = .slice a len cap/\xs.length=len/\len<2^60/\len<=cap/\∀i x,xs[i]?=some x->∃b off,a=some ⟨b,off,none⟩/\At Y (.pointer (some ⟨b,off+i*Dat.k α,none⟩)) x
theorem SliceV.mono{α}[Dat α]{Y Y'}(h:Ro.le Y Y'){v}{xs:List α}:SliceV Y v xs->SliceV Y' v xs:=fun⟨a,len,cap,c,d,e,hc,f⟩ =>
 ⟨a,len,cap,c,d,e,hc,fun i x hx=>let ⟨b,off,h5,h6⟩:=f i x hx;⟨b,off,h5,h6.mono h⟩⟩
instance{α:Type}[Dat α]:Dat (List α) where
 k:=1
 agg:=false
 rep Y cs xs:=∃v,cs=[v]/\SliceV Y v xs
 mono h:=fun⟨v,h1,h2⟩=>⟨v,h1,h2.mono h⟩
 len:=fun⟨v,h1,_⟩=>by rw[h1];rfl
 sgl:=fun⟨v,h1,a,len,cap,h2,_⟩ c hc=>by
  rw[h1,Nh]at hc;rw[hc,h2];rfl
 one _:=rfl
theorem Cs{α}[Dat α]{Y v}{xs:List α}:Val Y v xs↔SliceV Y v xs :=
 ⟨fun⟨cs,⟨w,a,b⟩,c⟩=>by rw[c,a];exact b,fun h=>⟨[v],⟨v,rfl,h⟩,rfl⟩⟩
def I64(x:Int):Prop:=-9223372036854775808<=x/\x<9223372036854775808
theorem iC(z:Int)(h1:-9223372036854775808<=z:=by omega)(h2:z<9223372036854775808:=by omega):I64 z:=⟨h1,h2⟩
instance:Dat Int where
 k:=1
 agg:=false
 rep _ cs x:=cs=[.int .i64 x]/\I64 x
 mono _ h:=h
 len h:=by rw[h.1];rfl
 sgl h:=by rw[h.1];simp[single]
 one _:=rfl
instance:Dat ByteArray where
 k:=1
 agg:=false
 rep _ cs x:=cs=[.string x]/\x.size<2^60
 mono _ h:=h
 len h:=by rw[h.1];rfl
 sgl h:=by rw[h.1];simp[single]
 one _:=rfl
theorem Cv{Y v x}:Val Y v x↔v = .int .i64 x/\I64 x :=
 ⟨fun⟨cs,a,b⟩=>by rw[b,a.1];exact⟨rfl,a.2⟩,fun h=>⟨[v],⟨by rw[h.1],h.2⟩,rfl⟩⟩
theorem Jk{Y v x}:Val Y v x↔v = .string x/\x.size<2^60 :=
 ⟨fun⟨cs,a,b⟩=>by rw[b,a.1];exact⟨rfl,a.2⟩,fun h=>⟨[v],⟨by rw[h.1],h.2⟩,rfl⟩⟩
theorem At.rng{Y p x}(h:At Y p x):I64 x:=let ⟨_,_,_,_,_,_,_,_,_,h3,_⟩:=h;h3.2
theorem At.slen{Y p}{x:ByteArray}(h:At Y p x):x.size<2^60:=let ⟨_,_,_,_,_,_,_,_,_,h3,_⟩:=h;h3.2
theorem Val.len{α}[Dat α]{Y v}{xs:List α}(h:Val Y v xs):xs.length<2^60:=by obtain⟨a,len,cap,_,b,c,_,_⟩:=Cs.1 h;omega
def Qv:TypeDesc->Bool
 | .struct _ | .array _ _=>true
 | _=>false
structure GoTy(P:Program)(t:TypeId)(α:Type)[Dat α]:Prop where
 und:∃d,P.underlying t=some d/\Qv d=Dat.agg α
 info:∃i,P.info? t=some i/\i.size=Dat.k α
section
variable{P:Program}{Y:Ro}{Z:Own}{t:TypeId}
theorem Gj{i}(h:P.info? t=some i){Q}(hq:Q i Z):wpS P Y (typeInfo t) Z Q:=by show wpS P Y (program.bind _) Z Q;rw[Ad];show wpS P Y (match P.info? t with|some i=>pure i|none=>stuck _) Z Q;rw[h];exact hq
theorem Az{d}(h:P.underlying t=some d){Q}(hq:Q d Z):wpS P Y (underlying t) Z Q:=by show wpS P Y (program.bind _) Z Q;rw[Ad];show wpS P Y (match P.underlying t with|some d=>pure d|none=>stuck _) Z Q;rw[h];exact hq
theorem Dx{n}(h:∃i,P.info? t=some i/\i.size=n){Q}(hq:Q n Z):wpS P Y (sizeOf t) Z Q:=by obtain⟨i,a,b⟩:=h;show wpS P Y ((typeInfo t).bind _) Z Q;rw[Ad];exact Gj a (by rw[b];exact hq)
theorem Hi{a}(h:∃d,P.underlying t=some d/\Qv d=a){Q}(hq:Q a Z):wpS P Y (isAgg t) Z Q:=by obtain⟨d,b,c⟩:=h;show wpS P Y ((underlying t).bind _) Z Q;rw[Ad];refine Az b ?_;subst c;cases d<;>exact hq
theorem Ld(bl off i:Nat):(⟨bl,off,none⟩:Addr).add i=⟨bl,off+i,none⟩:=by
 unfold Addr.add;split
 ·rename_i h;subst h;rfl
 ·rfl
theorem Agj(a:Addr)(h:a.spot=none)(i:Nat):a.add i=⟨a.block,a.off+i,none⟩:=by obtain⟨bl,off,sp⟩:=a;cases h;exact Ld bl off i
theorem Ff{a o}(hs:a.spot=none)(ho:Has Y Z a.block o){Q}:∀(cs:List Value) (i:Nat) (acc:Array Value),
  (∀j v,cs[j]?=some v->Gy o (a.off+i+j)=some v)->Q (acc++cs.toArray) Z->wpS P Y (loadCellsFrom a i cs.length acc) Z Q:=by
 intro cs;induction cs with
 | nil=>intro i acc _ h;exact(show Q acc Z by simpa using h)
 | cons v cs ih =>
  intro i acc h hq;show wpS P Y ((load (a.add i)).bind _) Z Q;rw[Ad,Agj a hs];refine⟨rfl,rfl,o,v,ho,?_,?_⟩
  ·have:=h 0 v rfl;simpa using this
  ·refine ih (i+1) (acc.push v) (fun j w hw=>?_) (by simpa using hq);have:=h (j+1) w (by simpa using hw);rw[show a.off+(i+1)+j=a.off+i+(j+1) by omega];exact this
theorem Aaa{α}[Dat α](hT:GoTy P t α){a c t' fz cs rest}(hs:a.spot=none)(ho:Has Y Z a.block (.cells c t' fz))(hl:cs.length=Dat.k α)(hc:c.toList.drop a.off=cs++rest){Q}(hq:Q (Vu (Dat.agg α) cs) Z):wpS P Y (loadVar t a) Z Q:=by
 have b:∀j v,cs[j]?=some v->c[a.off+j]?=some v:=fun j v hj=>by
  have:(c.toList.drop a.off)[j]?=some v:=by rw[hc,Aiv];exact hj;exact(lZ1.1 hj).1
  rw[Att]at this;simpa using this
 show wpS P Y ((isAgg t).bind _) Z Q;rw[Ad];refine Hi hT.und ?_;cases ha:Dat.agg α with
 | true =>
  show wpS P Y ((sizeOf t).bind fun n=>(loadCells a n).bind _) Z Q;rw[Ad];refine Dx hT.info ?_;rw[Ad,<-hl];refine Ff hs ho cs 0 #[] (fun j v hj=>?_) ?_
  ·simpa[Gy]using b j v hj
  ·rw[ha]at hq;have hq':Q (.agg cs.toArray) Z:=by simpa[Vu]using hq
   have d:(#[]:Array Value)++cs.toArray=cs.toArray:=by simp
   rw[d];exact hq'
 | false =>
  have e:=Dat.one ha;rw[e]at hl
  match cs,hl with
  | [v],_ =>
   refine⟨rfl,hs,_,v,ho,?_,?_⟩
   ·simpa[Gy]using b 0 v rfl
   ·rw[ha]at hq;exact hq
end
section
variable{C:Ctx}{b:FB}{n:Nat}{l₀ rest:List Oper}{Q:Env->List Deferred->Ro->Own->Prop}{e:Env}{ds:List Deferred}{Y:Ro}{Z:Own}
variable{d:Nat}{ty:TypeId}{pos:String}{af:Array Edge}{g:Option (Nat×Bool)}{x y:Operand}{v p:Value}{t:TypeId}
theorem Ax{P α}[Dat α]{a:α}(hT:GoTy P t α)(hx:Af e x=p)(hp:At Y p a):∃v,Val Y v a/\Yld P Y e (.load t x) ty v:=by obtain⟨bl,off,c,t',fz,cs,rs,d,f,b,g⟩:=hp;refine⟨_,⟨cs,b,rfl⟩,Mt (s:=Instr.loadAt t (Af e x)) (fun _ _ _ _=>rfl) fun Y' Z hle=>?_⟩;rw[hx,d];exact Aaa hT rfl (.inl (hle _ _ f)) (Dat.len b) g ⟨rfl,rfl⟩
theorem Bc{P a}(hT:GoTy P t Int)(hx:Af e x=p)(hp:At Y p a):Yld P Y e (.load t x) ty (.int .i64 a):=by obtain⟨v,c,b⟩:=Ax (ty:=ty) hT hx hp;rw[(Cv.1 c).1]at b;exact b
theorem Pk{P a}(hT:GoTy P t ByteArray)(hx:Af e x=p)(hp:At Y p a):Yld P Y e (.load t x) ty (.string a):=by obtain⟨v,c,b⟩:=Ax (ty:=ty) hT hx hp;rw[(Jk.1 c).1]at b;exact b
theorem Mc{P bi}{args:List Operand}{tys vs}{s:Array Bool->Sem Value}(hv:args.map (Af e)=vs)(hb:∀cs,builtin bi tys ty cs vs.toArray=(s cs).bind fun v=>Sem.pure (Next.value v))(h:∀Y' Z cs,(∀b o,Y b=some o->Y' b=some o)->wpS P Y' (s cs) Z (fun w Z'=>w=v/\Z'=Z)):Yld P Y e (.call ⟨.builtin bi,args.toArray,tys⟩) ty v:=by
 have a:args.toArray.map (Af e)=vs.toArray:=by rw[<-hv];simp
 refine Mt (s:=s (args.toArray.map fun | .const _=>true|_=>false)) (fun d pos af g=>?_) fun Y' Z hle=>h Y' Z _ hle;rw[<-hb,<-a];rfl
theorem Ci{P α}[Dat α]{xs:List α}{el}(hT:P.underlying t=some (.slice el))(hx:Af e x=v)(hv:Val Y v xs):Yld P Y e (.call ⟨.builtin .len,#[x],#[t]⟩) ty (.int .i64 (xs.length:Int)):=by obtain⟨a,len,cap,b,c,d,_,f⟩:=Cs.1 hv;refine Mc (args:=[x]) (vs:=[v]) (s:=fun _=>Builtin.len_ #[t] ty #[v]) (by simp[hx]) (fun _=>rfl) fun Y' Z cs _=>?_;show wpS P Y' ((underlying t).bind _) Z _;rw[Ad];refine Az hT ?_;rw[b,<-c];exact⟨rfl,rfl⟩
theorem Afz{P s}(hT:P.underlying t=some .string)(hx:Af e x = .string s):Yld P Y e (.call ⟨.builtin .len,#[x],#[t]⟩) ty (.int .i64 (s.size:Int)):=by refine Mc (args:=[x]) (vs:=[.string s]) (s:=fun _=>Builtin.len_ #[t] ty #[.string s]) (by simp[hx]) (fun _=>rfl) fun Y' Z cs _=>?_;show wpS P Y' ((underlying t).bind _) Z _;rw[Ad];refine Az hT ?_;exact⟨rfl,rfl⟩
theorem Ch{P α}[Dat α]{xs:List α}{el k q a}(i:Nat)(hT:P.underlying t=some (.slice el))(hE:GoTy P el α)(hx:Af e x=v)(hv:Val Y v xs)(hy:Af e y = .int k q)(hq:q=(i:Int))(ha:xs[i]?=some a):∃p,At Y p a/\Yld P Y e (.indexAddr t x y) ty p:=by
 obtain⟨h,len,cap,c,j,m,_,d⟩:=Cs.1 hv;obtain⟨bl,off,f,g⟩:=d i a ha;have hi:i<xs.length:=(lZ1.1 ha).1;refine⟨_,g,Mt (s:=Instr.indexAt t (Af e x) (Af e y)) (fun _ _ _ _=>rfl) fun Y' Z _=>?_⟩;rw[hx,hy,c,f,hq];show wpS P Y' ((underlying t).bind _) Z _;rw[Ad];refine Az hT ?_;show wpS P Y' ((underlying t).bind _) Z _;rw[Ad];refine Az hT ?_;simp only[];rw[if_pos ⟨by omega,by omega⟩];show wpS P Y' ((sizeOf el).bind _) Z _;rw[Ad];refine Dx hE.info ?_;have b:((i:Int).toNat*Dat.k α)=i*Dat.k α:=by simp
 rw[b,Ld];exact⟨rfl,rfl⟩
theorem Bpv{α}[Dat α]{xs:List α}{a len cap h}(hv:Val Y (.slice a len cap) xs)(hh:h<=len):Val Y (.slice (if cap=0 then a else a.map (·.add (0*Dat.k α))) (h-0) (cap-0)) (xs.take h):=by
 obtain⟨a',j,d,b,e,f,g,c⟩:=Cs.1 hv;cases b;refine Cs.2 ⟨a,h,cap,?_,by simp;omega,by omega,by omega,fun i x hx=>?_⟩
 ·congr 1;split
  ·rfl
  ·cases a with
   | none=>rfl
   | some ad=>simp[Addr.add]
 ·rw[Bmq]at hx;split at hx
  ·exact c i x hx
  ·cases hx
theorem Uu{P α}[Dat α]{xs:List α}{el k q}(h:Nat)(hT:P.underlying t=some (.slice el))(hE:GoTy P el α)(hx:Af e x=v)(hv:Val Y v xs)(hy:Af e y = .int k q)(hq:q=(h:Int))(hh:h<=xs.length):
  ∃w,Val Y w (xs.take h)/\Yld P Y e (.slice t x none (some y) none) ty w:=by
 obtain⟨a,len,cap,b,c,d,f,g⟩:=Cs.1 hv;subst b;refine⟨_,Bpv hv (by omega),Mt (s:=Instr.sliceAt t (Af e x) none (some (Af e y)) none) (fun _ _ _ _=>rfl) fun Y' Z _=>?_⟩;rw[hx,hy,hq];show wpS P Y' ((underlying t).bind _) Z _;rw[Ad];refine Az hT ?_;show wpS P Y' ((underlying t).bind _) Z _;rw[Ad];refine Az hT ?_;simp only[];show wpS P Y' ((Instr.sliceBounds true len cap none (some (.int k h)) none).bind _) Z _;have hb:Instr.sliceBounds true len cap none (some (.int k (h:Int))) none=pure (0,h,cap):=by
  show (do let m <-pure cap;let hh <-Instr.sliceBound (.int k (h:Int)) m _;let l <-pure 0;pure (l,hh,m):Sem _)=_
  have:Instr.sliceBound (.int k (h:Int)) cap .sliceAcap=pure h:=by
   show (if 0<=(h:Int)/\(h:Int)<=cap then pure (h:Int).toNat else _)=_;rw[if_pos (by omega)];simp
  show (Instr.sliceBound (.int k (h:Int)) cap .sliceAcap).bind _=_;rw[this];rfl
 rw[hb];show wpS P Y' ((sizeOf el).bind _) Z _;rw[Ad];exact Dx hE.info ⟨rfl,rfl⟩
structure Fld(α β:Type)[Dat α][Dat β](off:Nat)(get:α->β):Prop where
 at_:∀Y cs x,Dat.rep (α:=α) Y cs x->∃pre cs' post,cs=pre++(cs'++post)/\pre.length=off/\Dat.rep (α:=β) Y cs' (get x)
theorem At.fld{α β}[Dat α][Dat β]{off0 get}(hf:Fld α β off0 get){bl off x}(h:At Y (.pointer (some ⟨bl,off,none⟩)) x):At Y (.pointer (some ⟨bl,off+off0,none⟩)) (get x):=by obtain⟨bl',k,c,t',fz,cs,rs,a,b,d,e⟩:=h;cases a;obtain⟨pre,cs',j,f,g,i⟩:=hf.at_ _ _ _ d;refine⟨bl,off+off0,c,t',fz,cs',j++rs,rfl,b,i,?_⟩;rw[<-Aoz,e,f,<-g,lZ9,Bdu,lZ9]
theorem Ay{P α β}[Dat α][Dat β]{off0 i get a fs f}(hf:Fld α β off0 get)(hT:P.underlying t=some (.struct fs))(hi:fs[i]?=some f)(ho:f.offset=off0)(hF:GoTy P f.type β)(hk:Dat.k β≠0)(hx:Af e x=p)(hp:At Y p a):∃p,At Y p (get a)/\Yld P Y e (.fieldAddr t x i) ty p:=by have d:=hp;obtain⟨bl,off,c,t',fz,cs,rs,b,g,h,j⟩:=hp;refine⟨_,At.fld hf (bl:=bl) (off:=off) (by rw[<-b];exact d),Mt (s:=Instr.fieldAt t (Af e x) i) (fun _ _ _ _=>rfl) fun Y' Z _=>?_⟩;rw[hx,b];show wpS P Y' ((underlying t).bind _) Z _;rw[Ad];refine Az hT ?_;simp only[hi];show wpS P Y' ((fieldPlace ⟨bl,off,none⟩ f).bind _) Z _;rw[Ad];show wpS P Y' ((sizeOf f.type).bind _) Z _;rw[Ad];refine Dx hF.info ?_;rw[if_neg hk,ho,Ld];exact⟨rfl,rfl⟩
theorem Ba{P α β}[Dat α][Dat β]{off0 i get a fs f}(hf:Fld α β off0 get)(hT:P.underlying t=some (.struct fs))(hi:fs[i]?=some f)(hF:GoTy P f.type β)(hp:At Y p a)(hx:Af e x=p:=by exact rfl)(ho:f.offset=off0:=by exact rfl)(hk:Dat.k β≠0:=by decide):∃p,At Y p (get a)/\Yld P Y e (.fieldAddr t x i) ty p:=Ay hf hT hi ho hF hk hx hp
theorem Mr{P f fn args K}(hf:P.funcs[f]?=some fn)(hn:(fn.name == "runtime.NumGoroutine")=false)(hb:fn.body.isNone=false)(h:K (.enter f args) Z):
  wpS P Y (callFunc f args) Z K:=by show wpS P Y (program.bind _) Z K;rw[Ad];show wpS P Y (match P.funcs[f]? with|none=>_|some fn=>_) Z K;rw[hf];simp only[hn,hb];exact h
end
end
section
instance{α β:Type}[Dat α][Dat β]:Dat (α×β) where
 k:=Dat.k α+Dat.k β
 agg:=true
 rep Y cs x:=∃c1 c2,cs=c1++c2/\Dat.rep Y c1 x.1/\Dat.rep Y c2 x.2
 mono h:=fun⟨c1,c2,h1,h2,h3⟩=>⟨c1,c2,h1,Dat.mono h h2,Dat.mono h h3⟩
 len:=fun⟨c1,c2,h1,h2,h3⟩=>by rw[h1,lZ4,Dat.len h2,Dat.len h3]
 sgl:=fun⟨c1,c2,h1,h2,h3⟩ c hc=>by
  rw[h1,Gv]at hc;exact hc.elim (Dat.sgl h2 c) (Dat.sgl h3 c)
 one h:=by cases h
abbrev Dat.iso{α β:Type}[Dat β](f:α->β):Dat α where
 k:=Dat.k β
 agg:=true
 rep Y cs x:=Dat.rep Y cs (f x)
 mono h h':=Dat.mono h h'
 len h:=Dat.len h
 sgl h:=Dat.sgl h
 one h:=by cases h
theorem Fld.self{α}[Dat α]:Fld α α 0 id:=⟨fun _ cs _ h=>⟨[],cs,[],by simp,rfl,h⟩⟩
theorem Fld.fst{α β}[Dat α][Dat β]:Fld (α×β) α 0 Prod.fst:=⟨fun _ _ _ ⟨a,b,c,d,_⟩=>⟨[],a,b,by simp[c],rfl,d⟩⟩
theorem Fld.snd{α β γ}[Dat α][Dat β][Dat γ]{off get}(h:Fld β γ off get):Fld (α×β) γ (Dat.k α+off) (fun x=>get x.2) :=
 ⟨fun Y cs x ⟨a,b,c,d,e⟩=>by
  obtain⟨pre,cs',j,f,g,i⟩:=h.at_ Y b x.2 e;exact⟨a++pre,cs',j,by simp[c,f],by rw[lZ4,Dat.len d,g],i⟩⟩
def Fw(P:Program)(t:TypeId)(z:Value):Prop:=∃i,P.info? t=some i/\i.zero=some z
theorem Ab{P t i}(h:∀w,Sem.run P (typeInfo t) w = .ok i w):P.info? t=some i:=by
 have b:=h default;cases hi:P.info? t with
 | none =>
  have a:Sem.run P (typeInfo t) default=Sem.run P (match P.info? t with|some i=>pure i|none=>stuck "no such type") default:=rfl;rw[hi]at a;rw[a]at b;cases b
 | some j =>
  have a:Sem.run P (typeInfo t) default=Sem.run P (match P.info? t with|some i=>pure i|none=>stuck "no such type") default:=rfl;rw[hi]at a;rw[a]at b;have c:(Result.ok j default:Result TypeInfo) = .ok i default:=b;cases c;rfl
structure Span where
 low:Int
 high:Int
deriving DecidableEq
instance:Dat Span:=.iso fun x=>(x.low,x.high)
theorem Span.f_low:Fld Span Int 0 Span.low:=⟨fun Y cs x=>(Fld.fst:Fld ((Int)×(Int)) Int 0 _).at_ Y cs (x.low,x.high)⟩
theorem Span.f_high:Fld Span Int 1 Span.high:=⟨fun Y cs x=>((.snd Fld.self):Fld ((Int)×(Int)) Int 1 _).at_ Y cs (x.low,x.high)⟩
structure FField where
 name:ByteArray
 house:Int
 grows:Span
 marks:List Span
deriving DecidableEq
structure Sale where
 grams:Int
 sellers:List Int
deriving DecidableEq
structure Market where
 houses:List ByteArray
 marks:List ByteArray
 fields:List FField
 sales:List Sale
deriving DecidableEq
structure FTest where
 name:ByteArray
 sees:List Int
 errs:Bool
deriving DecidableEq
structure Lab where
 kinds:List ByteArray
 most:Int
 tests:List FTest
deriving DecidableEq
theorem Mx:GoTy Tryz.prog 57 Span:=⟨⟨_,Tryz.underlying57,rfl⟩,⟨_,Ab Tryz.typeInfo57,rfl⟩⟩
theorem ty3:GoTy Tryz.prog 3 (Int):=⟨⟨_,Tryz.underlying3,rfl⟩,⟨_,Ab Tryz.typeInfo3,rfl⟩⟩
theorem ty9:GoTy Tryz.prog 9 (ByteArray):=⟨⟨_,Tryz.underlying9,rfl⟩,⟨_,Ab Tryz.typeInfo9,rfl⟩⟩
theorem Hw:GoTy Tryz.prog 22 (List ByteArray):=⟨⟨_,Tryz.underlying22,rfl⟩,⟨_,Ab Tryz.typeInfo22,rfl⟩⟩
theorem Vh:GoTy Tryz.prog 30 (List Int):=⟨⟨_,Tryz.underlying30,rfl⟩,⟨_,Ab Tryz.typeInfo30,rfl⟩⟩
theorem zr3:Fw Tryz.prog 3 (z0):=⟨_,Ab Tryz.typeInfo3,rfl⟩
theorem zr4:Fw Tryz.prog 4 (.bool false):=⟨_,Ab Tryz.typeInfo4,rfl⟩
theorem zr9:Fw Tryz.prog 9 (.string (ByteArray.mk #[])):=⟨_,Ab Tryz.typeInfo9,rfl⟩
theorem Cdk:Fw Tryz.prog 22 (nS):=⟨_,Ab Tryz.typeInfo22,rfl⟩
theorem Ccb:Fw Tryz.prog 30 (nS):=⟨_,Ab Tryz.typeInfo30,rfl⟩
theorem Cdl:Fw Tryz.prog 27 (z0):=⟨_,Ab Tryz.typeInfo27,rfl⟩
def Arm:List Value:=[z0,z0]
theorem Aak:Fw Tryz.prog 57 (.agg #[z0,z0]):=⟨_,Ab Tryz.typeInfo57,rfl⟩
theorem Aai:Fw Tryz.prog 108 (.int .u64 0):=⟨_,Ab Tryz.typeInfo108,rfl⟩
theorem zr5:Fw Tryz.prog 5 (.int .u8 0):=⟨_,Ab Tryz.typeInfo5,rfl⟩
abbrev Cdm:=@Tryz.underlying25
abbrev Cdn:=@Tryz.underlying9
abbrev Cdo:=@Tryz.underlying30
abbrev Cdp:=@Tryz.underlying23
abbrev Cdq:=@Tryz.underlying22
abbrev Cdr:=@Tryz.underlying36
abbrev Cds:=@Tryz.underlying38
abbrev Cdt:=@Tryz.underlying34
abbrev Cdu:=@Tryz.underlying136
abbrev Cdv:=@Tryz.underlying190
abbrev Cdw:=@Tryz.underlying46
abbrev Cdx:=@Tryz.underlying122
abbrev Cdy:=@Tryz.underlying5
abbrev Cdz:=@Tryz.underlying124
abbrev Cea:=@Tryz.func58
abbrev Ceb:=@Tryz.underlying188
abbrev Cec:=@Tryz.underlying3
abbrev Ced:=@Tryz.typeInfo190
abbrev Cee:=@Tryz.underlying121
abbrev Cef:=@Tryz.underlying185
abbrev Ceg:=@Tryz.underlying192
abbrev Ceh:=@Tryz.typeInfo122
abbrev Cei:=@Tryz.underlying134
abbrev Cej:=@Tryz.underlying199
abbrev Cek:=@Tryz.underlying53
abbrev Cem:=@Tryz.typeInfo27
abbrev Cen:=@Tryz.underlying57
abbrev Ceo:=@Tryz.underlying133
abbrev Cep:=@Tryz.underlying184
abbrev Ceq:=@Tryz.underlying186
abbrev Cer:=@Tryz.typeInfo3
abbrev Ces:=@Tryz.typeInfo121
abbrev Cet:=@Tryz.func69
abbrev Ceu:=@Tryz.func70
abbrev Cev:=@Tryz.typeInfo9
abbrev Cew:=@Tryz.underlying43
abbrev Cex:=@Tryz.typeInfo124
abbrev Cey:=@Tryz.typeInfo199
abbrev Cez:=@Tryz.typeInfo30
abbrev Cfa:=@Tryz.typeInfo5
abbrev Cfb:=@Tryz.func17
abbrev Cfc:=@Tryz.func34
abbrev Cfd:=@Tryz.func36
abbrev Cfe:=@Tryz.func45
abbrev Cff:=@Tryz.func49
abbrev Cfg:=@Tryz.underlying200
abbrev Cfh:=@Tryz.typeInfo57
abbrev Cfi:=@Tryz.func35
abbrev Cfj:=@Tryz.func37
abbrev Cfk:=@Tryz.func46
abbrev Cfl:=@Tryz.func50
abbrev Cfm:=@Tryz.func55
abbrev Cfn:=@Tryz.func74
abbrev Cfo:=@Tryz.func83
abbrev Cfp:=@Tryz.func84
end
section
noncomputable abbrev CX(mn:Bool)(X:Frame->List Frame->Ro->Own->Cy->Prop):Ctx:=⟨Tryz.prog,mn,X⟩
def Abp:List Nat->Env->Value
 | [r],e=>e r
 | rs,e=>.tuple (rs.map e).toArray
theorem Lm{P Y Z fn rs e Q}(hr:fn.results=(rs.map ResultVar.tmp).toArray)(h:Q (Abp rs e) Z):wpS P Y (Hp fn e) Z Q:=by
 have key:∀(g:ResultVar->Sem Value),(∀t,g (.tmp t)=pure (e t))->∀(l:List Nat) (acc:Array Value),(List.foldlM (m:=Sem) (fun (bs:Array Value) (a:ResultVar)=>Functor.map bs.push (g a)) acc (l.map ResultVar.tmp))=pure (acc++(l.map e).toArray):=by
  intro g hg l;induction l with
  | nil=>intro acc;simp
  | cons r l ih =>
   intro acc;simp only[Ic,Aqk,hg];show (List.foldlM _ (acc.push (e r)) (l.map ResultVar.tmp))=_;rw[ih];simp
 have hvs:Hp fn e=pure (if h:(rs.map e).toArray.size=1 then (rs.map e).toArray[0] else .tuple (rs.map e).toArray):=by
  unfold Hp;rw[hr,Bau,Bmm,key _ (fun t=>rfl)];simp only[Ack];rfl
 rw[hvs];have:(if h:(rs.map e).toArray.size=1 then (rs.map e).toArray[0] else .tuple (rs.map e).toArray)=Abp rs e:=by
  match rs with
  | []=>rfl
  | [r]=>rfl
  | r::r'::rs=>rfl
 rw[this];exact h
theorem Bh{C f fn c n args Y Z R}(rs:List Nat)(hf:C.P.funcs[f]?=some fn)(hc:fn.body=some c)(hn:fn.ntmps=n)(ha:Nat.ble args.length n=true)(hr:fn.results=(rs.map ResultVar.tmp).toArray)(h:∀Q:Hu,(∀e Y' Z',R (Abp rs e) Y' Z'->Q .ret e [] Y' Z')->(∀e Y' Z',R (Abp rs e) Y' Z'->Q .normal e [] Y' Z')->WpC C ⟨f,.normal,none⟩ n c Q (Pn args) [] Y Z):CallsH C f args.toArray Y Z R :=
 Oy hf hc hn (lZ7 ha) (h _ (fun e Y' Z' hR=>⟨fun id h=>(by cases h),Lm (Q:=fun v Z'=>R v Y' Z') hr hR⟩) (fun e Y' Z' hR=>⟨fun id h=>(by cases h),Lm (Q:=fun v Z'=>R v Y' Z') hr hR⟩))
theorem Bu{C f fn c args Y Z R}(n:Nat)(rs:List Nat)(hf:C.P.funcs[f]?=some fn)(hc:fn.body=some c)(h:∀Q:Hu,(∀{e Y' Z'},R (Abp rs e) Y' Z'->Q .ret e [] Y' Z')->(∀{e Y' Z'},R (Abp rs e) Y' Z'->Q .normal e [] Y' Z')->WpC C ⟨f,.normal,none⟩ n c Q (Pn args) [] Y Z)(hn:fn.ntmps=n:=by exact rfl)(ha:Nat.ble args.length n=true:=by exact rfl)(hr:fn.results=(rs.map ResultVar.tmp).toArray:=by exact rfl):CallsH C f args.toArray Y Z R:=Bh rs hf hc hn ha hr fun Q a b=>h Q (fun {_ _ _} x=>a _ _ _ x) (fun {_ _ _} x=>b _ _ _ x)
section
variable{C:Ctx}{b:FB}{n:Nat}{l₀ rest:List Oper}{Q:Env->List Deferred->Ro->Own->Prop}{Q':Hu}{e:Env}{ds:List Deferred}{Y:Ro}{Z:Own}
variable{d:Nat}{ty:TypeId}{pos:String}{af:Array Edge}{g:Option (Nat×Bool)}{x y:Operand}{v p:Value}{t t':TypeId}
theorem Co{V c x y t}(hc:Af e c = .bool t)(ht:t=true)(h:WpP C V b n x Q' e ds Y Z):WpP C V b n (.cond c x y) Q' e ds Y Z :=
 Bp hc (fun _=>h) (fun a=>by rw[ht]at a;cases a)
theorem Cg{V c x y t}(hc:Af e c = .bool t)(ht:t=false)(h:WpP C V b n y Q' e ds Y Z):WpP C V b n (.cond c x y) Q' e ds Y Z :=
 Bp hc (fun d=>by rw[ht]at d;cases d) (fun _=>h)
theorem Cn{V:Ql}(t:Bool)(h1:t=true->Ee C V b n l₀ rest Q e ds Y Z)(h0:t=false->Ee C V b n l₀ rest Q e ds Y Z):Ee C V b n l₀ rest Q e ds Y Z:=by
 cases t
 ·exact h0 rfl
 ·exact h1 rfl
def EvL(e:Env):List Operand->List Value->Prop
 | [],[]=>True
 | x::xs,v::vs=>Af e x=v/\EvL e xs vs
 | _,_=>False
theorem EvL.map{e:Env}:∀{xs:List Operand} {vs:List Value},EvL e xs vs->xs.toArray.map (Af e)=vs.toArray
 | [],[],_=>by simp
 | x::xs,v::vs,⟨h1,h2⟩=>by
  have:=EvL.map h2;simp only[List.map_toArray,Ic]at this ⊢;rw[h1];have a:xs.map (Af e)=vs:=by simpa using congrArg Array.toList this
  rw[a]
 | [],_::_,h=>h.elim
 | _::_,[],h=>h.elim
theorem Cm{K rd dd f fn args tys vs R}(hc:CallsH C f vs.toArray Y Z R)(hf:C.P.funcs[f]?=some fn)(hn:(fn.name == "runtime.NumGoroutine")=false)(hb:fn.body.isNone=false)(hv:EvL e args vs)(h:∀v Y' Z',R v Y' Z'->K v ds Y' Z'):wpS C.P Y (execOp (Af e) ⟨dd,.call ⟨.value (.func f),args.toArray,tys⟩,ty,pos,af,g⟩) Z (NextH C K rd ds Y):=by have hv':=hv.map;show wpS C.P Y (invoke (.fn (.func f) #[]) (#[]++args.toArray.map (Af e))) Z _;show wpS C.P Y (callFunc f ((#[]++args.toArray.map (Af e)) ++ #[])) Z _;rw[Aea,Ack,hv'];exact Mr hf hn hb (hc.mono h)
theorem Bm{K rd dd f fn args tys vs}(hc:CallsH C f vs.toArray Y Z (fun w Y' Z'=>Y'=Y/\Z'=Z/\w=v))(hf:C.P.funcs[f]?=some fn)(hn:(fn.name == "runtime.NumGoroutine")=false)(hb:fn.body.isNone=false)(hv:EvL e args vs)(h:K v ds Y Z):wpS C.P Y (execOp (Af e) ⟨dd,.call ⟨.value (.func f),args.toArray,tys⟩,ty,pos,af,g⟩) Z (NextH C K rd ds Y) :=
 Cm hc hf hn hb hv (by rintro w Y' Z' ⟨rfl,rfl,rfl⟩;exact h)
theorem Cw{K rd dd f fn args tys vs}(hc:CallsH C f vs.toArray Y Z (fun w Y' Z'=>Y'=Y/\Z'=Z/\w=v))(hf:C.P.funcs[f]?=some fn)(h:K v ds Y Z)(hv:EvL e args vs:=by repeat first|exact trivial|refine⟨rfl,?_⟩)(hn:(fn.name == "runtime.NumGoroutine")=false:=by exact rfl)(hb:fn.body.isNone=false:=by exact rfl):wpS C.P Y (execOp (Af e) ⟨dd,.call ⟨.value (.func f),args.toArray,tys⟩,ty,pos,af,g⟩) Z (NextH C K rd ds Y):=Bm hc hf hn hb hv h
theorem Bo{z z'}(h:z=z')(h1:-9223372036854775808<=z')(h2:z'<9223372036854775808):IntKind.i64.wrap z=z':=by subst h;rw[IntKind.wrap_i64];omega
theorem wrE{z z'}(h:z=z':=by first|rfl|omega|(push_cast;rfl))(h1:-9223372036854775808<=z':=by omega)(h2:z'<9223372036854775808:=by omega):IntKind.i64.wrap z=z':=Bo h h1 h2
theorem wrR{z z'}(h:z=z':=by rfl)(h1:-9223372036854775808<=z':=by omega)(h2:z'<9223372036854775808:=by omega):IntKind.i64.wrap z=z':=Bo h h1 h2
theorem Fp{P p q}(z:Int)(hx:Af e x = .int .i64 p:=by exact rfl)(hy:Af e y = .int .i64 q:=by exact rfl)(hz:IntKind.i64.wrap (p+q)=z:=by exact wrE):Yld P Y e (.binOp .add t x y t') ty (.int .i64 z):=Br hx hy hz
theorem Ed{α:Type}{xs:List α}{i}(h:i<xs.length):∃a,xs[i]?=some a:=⟨xs[i],Ps h⟩
section
variable{P:Program}
theorem Ask{k p q z}(hx:Af e x = .int k p)(hy:Af e y = .int k q)(h0:q≠0)(hz:p.tmod q=z):Yld P Y e (.binOp .rem t x y t') ty (.int k z) :=
 La hx hy Dh (by subst hz;simp only[binOp];rw[if_neg (by simp)];unfold Op.intDiv;rw[if_neg h0])
theorem Cca{k p q z}(hx:Af e x = .int k p)(hy:Af e y = .int k q)(h0:q≠0)(hz:k.wrap (p.tdiv q)=z):Yld P Y e (.binOp .quo t x y t') ty (.int k z) :=
 La hx hy Dh (by subst hz;simp only[binOp];rw[if_neg (by simp)];unfold Op.intDiv;rw[if_neg h0])
theorem Lc{k k'}{p q:Nat}(hx:Af e x = .int k p)(hy:Af e y = .int k' q)(hk:k.bits=64)(hp:p<2^64):Yld P Y e (.binOp .shr t x y t') ty (.int k ((p>>>q:Nat):Int)):=La hx hy Dh (by
 have a:binOp .shr t (.int k p) (.int k' q)=Op.shift .shr k p k' q:=by simp[binOp]
 rw[a];unfold Op.shift;rw[if_neg (by omega)];have b:(p:Int).fdiv (2^(min (q:Int).toNat k.bits))=((p>>>q:Nat):Int):=by
  rw[hk];simp only[Yk];have:((2:Int)^(min q 64))=((2^(min q 64):Nat):Int):=by push_cast;rfl
  rw[this,Int.fdiv_eq_ediv_of_nonneg _ (Ats _),<-Int.natCast_ediv,Nat.shiftRight_eq_div_pow];congr 1;rcases Nat.le_total q 64 with h|h
  ·rw[Aox h]
  ·rw[Nat.min_eq_right h,Bdp hp,Bdp (Pa hp (Axa (by omega) h))]
 simp only[b])
theorem Md{k k':IntKind}{p q:Nat}{z:Int}(hx:Af e x = .int k p)(hy:Af e y = .int k' q)(hk:k.bits=64)(hq:q<=64)(hz:k.wrap ((p <<< q:Nat):Int)=z):Yld P Y e (.binOp .shl t x y t') ty (.int k z):=La hx hy Dh (by
 have a:binOp .shl t (.int k p) (.int k' q)=Op.shift .shl k p k' q:=by simp[binOp]
 rw[a];unfold Op.shift;rw[if_neg (by omega)];have b:(p:Int)*2^(min (q:Int).toNat k.bits)=((p <<< q:Nat):Int):=by
  rw[hk,Yk,Aox hq,Nat.shiftLeft_eq];push_cast;rfl
 simp only[b,hz])
end
theorem Agr{p q:Nat}(hp:p<2^63):Op.intBits .and .i64 p q=pure (.int .i64 ((p &&& q:Nat):Int)):=by
 have c:p &&& q<=p:=Anb;simp only[Op.intBits];congr 2;have:(BitVec.ofInt IntKind.i64.bits p &&& BitVec.ofInt IntKind.i64.bits q).toNat=p &&& q:=by
  show (BitVec.ofInt 64 p &&& BitVec.ofInt 64 q).toNat=_;rw[BitVec.toNat_and,BitVec.toNat_ofInt,BitVec.toNat_ofInt];have a:((p:Int)%(2^64:Nat)).toNat=p:=by omega
  have b:((q:Int)%(2^64:Nat)).toNat=q%2^64:=by omega
  rw[a,b,<-Bcx,<-Bdx,Nat.and_comm p q,Bdx,Bcx,Bdq (by omega)]
 rw[this];exact Bo rfl (by omega) (by omega)
section
variable{P:Program}
theorem Qs{p q:Nat}(hx:Af e x = .int .i64 p)(hy:Af e y = .int .i64 q)(hp:p<2^63):Yld P Y e (.binOp .and t x y t') ty (.int .i64 ((p &&& q:Nat):Int)) :=
 La hx hy Dh (by simp only[binOp];rw[if_neg (by simp)];exact Agr hp)
theorem Ain{p q}(hx:Af e x = .string p)(hy:Af e y = .string q):Yld P Y e (.binOp .eql t x y t') ty (.bool (p.toList==q.toList)):=La hx hy Sc (by simp only[binOp];rfl)
theorem Cby{p q}(hx:Af e x = .string p)(hy:Af e y = .string q):Yld P Y e (.binOp .neq t x y t') ty (.bool !(p.toList==q.toList)):=La hx hy Sc (by simp only[binOp];rfl)
theorem Ace{s k q}(i:Nat)(c:UInt8)(hT:P.underlying t=some .string)(hx:Af e x = .string s)(hy:Af e y = .int k q)(hq:q=(i:Int))(hc:s[i]?=some c):Yld P Y e (.index t x y) ty (.int .u8 (c.toNat:Int)) :=
 Mt (s:=Instr.index t (Af e x) (Af e y)) (fun _ _ _ _=>rfl) fun Y' Z _=>by
 rw[hx,hy,hq];show wpS P Y' ((underlying t).bind _) Z _;rw[Ad];refine Az hT ?_;simp only[Yk,hc];rw[if_pos (by omega)];exact⟨rfl,rfl⟩
end
theorem not_t{t}(h:t=true):(!t)=false:=by rw[h];rfl
theorem not_eq_t{t}(h:(!t)=true):t=false:=by cases t;rfl;cases h
theorem Ha{t}(h:(!t)=false):t=true:=by cases t;cases h;rfl
theorem Jr{α:Type}[BEq α][LawfulBEq α]{p q:α}(h:(p==q)=true):p=q:=eq_of_beq h
theorem Jq{α:Type}[BEq α][LawfulBEq α]{p q:α}(h:(p==q)=false):p≠q:=fun e=>by subst e;simp at h
theorem Ls{α:Type}[BEq α][LawfulBEq α]{p q:α}(h:(p != q)=true):p≠q:=fun e=>by subst e;simp at h
theorem Jh{α:Type}[BEq α][LawfulBEq α]{p q:α}(h:(p != q)=false):p=q:=by simpa using h
theorem Alc{s:ByteArray}{i}(h:i<s.size):∃c,s[i]?=some c:=⟨s[i],by simp[h]⟩
def EvS(e:Env):List Nat->List Value->Prop
 | [],[]=>True
 | r::rs,v::vs=>e r=v/\EvS e rs vs
 | _,_=>False
theorem EvS.map{e:Env}:∀{rs:List Nat} {vs:List Value},EvS e rs vs->rs.map e=vs
 | [],[],_=>rfl
 | r::rs,v::vs,⟨h1,h2⟩=>by rw[Ic,h1,EvS.map h2]
 | [],_::_,h=>h.elim
 | _::_,[],h=>h.elim
theorem Mp{e r r' rs v v' vs}(h:EvS e (r::r'::rs) (v::v'::vs)):Abp (r::r'::rs) e = .tuple (v::v'::vs).toArray:=by show Value.tuple (List.map e (r::r'::rs)).toArray=_;rw[EvS.map h]
theorem Ik{P el cs K}(h:∀r,K ⟨r,0,none⟩ ((r,.obj (.cells cs el (0,0)))::Z)):wpS P Y (newRow el cs) Z K:=by show wpS P Y ((newObj _).bind _) Z K;rw[Ad];exact .inl ⟨rfl,fun r=>h r⟩
theorem Gd{K rd s}(h:wpS C.P Y s Z (fun v Z'=>K v ds Y Z')):wpS C.P Y (s.bind fun v=>Sem.pure (Next.value v)) Z (NextH C K rd ds Y):=by rw[Ad];exact h
theorem Nk{K rd dd}(hx:Af e x=v)(h:∀r,K (.pointer (some ⟨r,0,none⟩)) ds Y ((r,.obj (.cells v.cells t (0,0)))::Z)):
  wpS C.P Y (execOp (Af e) ⟨dd,.box t x,ty,pos,af,g⟩) Z (NextH C K rd ds Y):=by show wpS C.P Y ((Instr.box t (Af e x)).bind _) Z _;refine Gd ?_;show wpS C.P Y ((newVar t (Af e x)).bind _) Z _;rw[Ad,hx];exact Ik fun r=>h r
theorem Ago{α}[Dat α]{a:α}{v Y Y' r fz t}(hv:Val Y v a)(hle:Ro.le Y Y')(hr:Y' r=some (.cells v.cells t fz)):At Y' (.pointer (some ⟨r,0,none⟩)) a:=by obtain⟨cs,b,d,c⟩:=hv.cells;exact⟨r,0,_,_,_,cs,[],rfl,hr,Dat.mono hle b,by simp[c]⟩
theorem Bb{V:Ql}{α:Type}[Dat α]{a:α}{v:Value}{r:Nat}{fz:Nat×Nat}{t:TypeId}(hv:Val Y v a)(h:∀Y',Ro.le Y Y'->At Y' (.pointer (some ⟨r,0,none⟩)) a->Ee C V b n l₀ rest Q e ds Y' Z):Ee C V b n l₀ rest Q e ds Y ((r,.obj (.cells v.cells t fz))::Z) :=
 Tu fun Y' hle hr=>h Y' hle (Ago hv hle hr)
theorem Nt{V:Ql}{α:Type}[Dat α]{a:α}{v:Value}{r:Nat}{fz:Nat×Nat}{t:TypeId}{c:Code}(hv:Val Y v a)(h:∀Y',Ro.le Y Y'->At Y' (.pointer (some ⟨r,0,none⟩)) a->WpP C V b n c Q' e ds Y' Z):WpP C V b n c Q' e ds Y ((r,.obj (.cells v.cells t fz))::Z) :=
 Wo fun Y' hle hr=>h Y' hle (Ago hv hle hr)
end
end
section
section
variable{C:Ctx}{b:FB}{n:Nat}{l₀ rest:List Oper}{e:Env}{ds:List Deferred}{Y:Ro}{Z:Own}{K:Value->List Deferred->Ro->Own->Prop}{rd:Option Nat}{dd:Option Tmp}
variable{ty:TypeId}{pos:String}{af:Array Edge}{g:Option (Nat×Bool)}{x y:Operand}{v p:Value}{t t':TypeId}{P:Program}
theorem Ahn{s:Sem Unit}(h:wpS C.P Y s Z (fun _ Z'=>K undef ds Y Z')):wpS C.P Y (s.bind fun _=>Sem.pure Next.skip) Z (NextH C K rd ds Y):=by rw[Ad];exact h
theorem Jz{z}(h:Fw P t z){Q}(hq:Q z Z):wpS P Y (zeroValue t) Z Q:=by obtain⟨i,a,b⟩:=h;show wpS P Y ((typeInfo t).bind _) Z Q;rw[Ad];refine Gj a ?_;rw[b];exact hq
theorem Ct{z}(hz:Fw C.P t z)(h:∀r,K (.pointer (some ⟨r,0,none⟩)) ds Y ((r,.obj (.cells z.cells t (0,0)))::Z)):wpS C.P Y (execOp (Af e) ⟨dd,.alloc t,ty,pos,af,g⟩) Z (NextH C K rd ds Y):=by show wpS C.P Y ((Instr.alloc t true (.tuple #[])).bind _) Z _;refine Gd ?_;show wpS C.P Y ((zeroValue t).bind _) Z _;rw[Ad];refine Jz hz ?_;show wpS C.P Y ((newVar t z).bind _) Z _;rw[Ad];exact Ik fun r=>h r
def over:List Value->Nat->List Value->List Value
 | c,_,[]=>c
 | c,off,v::vs=>over (c.set off v) (off+1) vs
theorem Qk:∀(vs c:List Value) (off:Nat),(over c off vs).length=c.length
 | [],c,off=>rfl
 | v::vs,c,off=>by rw[over,Qk vs];simp
theorem Qe:∀(vs c:List Value) (off:Nat),off+vs.length<=c.length->over c off vs=c.take off++(vs++c.drop (off+vs.length))
 | [],c,off,h=>by simp[over]
 | v::vs,c,off,h=>by
  simp only[Gb]at h;have hlen:off<c.length:=by omega
  rw[over,Qe vs (c.set off v) (off+1) (by rw[Xr];omega)];have a:(c.set off v).take (off+1)=c.take off++[v]:=by
   rw[Ym,List.take_set_of_le (Ib _),Bcz hlen];rfl
  have b:(c.set off v).drop (off+1+vs.length)=c.drop (off+(v::vs).length):=by
   rw[List.drop_set_of_lt (by omega)];congr 1;simp only[Gb];omega
  rw[a,b];simp
theorem Aio{vs c}(h:vs.length=c.length):over c 0 vs=vs:=by rw[Qe vs c 0 (by omega)];simp[h]
theorem fz0(c:Array Value)(t:TypeId)(i:Nat):Lv (.cells c t (0,0)) i=false:=by simp[Lv]
theorem Ns{Q r i}:∀(vs:List Value) (a:Addr) (k:Nat) (c:List Value) (Z:Own),a.block=r->a.spot=none->(∀v∈vs,single v=true)->Z[i]?=some (r,.obj (.cells c.toArray t (0,0)))->a.off+k+vs.length<=c.length ->
  Q () (Z.set i (r,.obj (.cells (over c (a.off+k) vs).toArray t (0,0))))->wpS P Y (storeCells a vs k) Z Q:=by
 intro vs;induction vs with
 | nil =>
  intro a k c Z _ _ _ hi _ hq;have:Z.set i (r,Res.obj (.cells (over c (a.off+k) []).toArray t (0,0)))=Z:=by
   apply Axb;intro j;rw[Vc];split
   ·rename_i e;subst e;split
    ·exact hi.symm
    ·rename_i h;rw[Sr (by omega)]
   ·rfl
  rw[this]at hq;exact hq
 | cons v vs ih =>
  intro a k c Z ha hs hv hi hl hq;simp only[Gb]at hl;show wpS P Y ((store (a.add k) v).bind _) Z Q;rw[Ad,Agj a hs];refine⟨rfl,rfl,hv v mC,i,c.toArray,t,(0,0),by rw[ha];exact hi,by simp;omega,fz0 _ _ _,?_⟩;have hlt:i<Z.length:=by
   rcases Tk i Z.length with h|h
   ·exact h
   ·rw[Sr h]at hi;cases hi
  refine ih a (k+1) (c.set (a.off+k) v) _ ha hs (fun w hw=>hv w (lZ0 _ hw)) ?_ (by rw[Xr];omega) ?_
  ·rw[Vc];simp only[if_true,hlt];rw[ha];simp
  ·rw[Aie];rw[over]at hq;rw[show a.off+(k+1)=a.off+k+1 by omega];exact hq
theorem Li{r off i c vs c' n'}(hz:∃i,C.P.info? t=some i/\i.size=n')(hx:Af e x = .pointer (some ⟨r,off,none⟩))(hy:Af e y=v)(hv:v.cells=vs.toArray)(hn:vs.length=n')(hs:∀w∈vs,single w=true)(hi:Z[i]?=some (r,.obj (.cells c.toArray t' (0,0))))(hl:off+vs.length<=c.length)(hc:over c off vs=c')(h:K undef ds Y (Z.set i (r,.obj (.cells c'.toArray t' (0,0))))):
  wpS C.P Y (execOp (Af e) ⟨dd,.store t x y,ty,pos,af,g⟩) Z (NextH C K rd ds Y):=by
 show wpS C.P Y ((Instr.storeAt t (Af e x) (Af e y)).bind _) Z _;refine Ahn ?_;rw[hx,hy];show wpS C.P Y (storeVar t ⟨r,off,none⟩ v) Z _;show wpS C.P Y ((sizeOf t).bind _) Z _;rw[Ad];refine Dx hz ?_;have hsz:v.cells.size=n':=by rw[hv];simpa using hn
 show wpS C.P Y (if v.cells.size≠n' then _ else storeCells ⟨r,off,none⟩ v.cells.toList) Z _;rw[if_neg (by simpa using hsz),hv];refine Ns vs ⟨r,off,none⟩ 0 c Z rfl rfl hs hi (by simpa using hl) ?_;simp only[Abk,hc];exact h
theorem Dt{r off i:Nat}{c:List Value}{fz}(hT:∃d,C.P.underlying t=some d/\Qv d=false)(hx:Af e x = .pointer (some ⟨r,off,none⟩))(hi:Z[i]?=some (r,.obj (.cells c.toArray t' fz)))(hc:c[off]?=some v)(h:K v ds Y Z):
  wpS C.P Y (execOp (Af e) ⟨dd,.load t x,ty,pos,af,g⟩) Z (NextH C K rd ds Y):=by show wpS C.P Y ((Instr.loadAt t (Af e x)).bind _) Z _;refine Gd ?_;rw[hx];show wpS C.P Y (loadVar t ⟨r,off,none⟩) Z _;show wpS C.P Y ((isAgg t).bind _) Z _;rw[Ad];refine Hi hT ?_;exact⟨rfl,rfl,_,v,.inr (lZ6 hi),by simpa[Gy]using hc,h⟩
theorem Ajt{r off off0 i fs f n'}(hT:P.underlying t=some (.struct fs))(hi:fs[i]?=some f)(ho:f.offset=off0)(hF:∃i,P.info? f.type=some i/\i.size=n')(hk:n'≠0)(hx:Af e x = .pointer (some ⟨r,off,none⟩)){off'}(ho':off+off0=off'):
  Yld P Y e (.fieldAddr t x i) ty (.pointer (some ⟨r,off',none⟩)):=Mt (s:=Instr.fieldAt t (Af e x) i) (fun _ _ _ _=>rfl) fun Y' Z _=>by
 rw[hx];show wpS P Y' ((underlying t).bind _) Z _;rw[Ad];refine Az hT ?_;simp only[hi];show wpS P Y' ((fieldPlace ⟨r,off,none⟩ f).bind _) Z _;rw[Ad];show wpS P Y' ((sizeOf f.type).bind _) Z _;rw[Ad];refine Dx hF ?_;rw[if_neg hk,ho,Ld,ho'];exact⟨rfl,rfl⟩
theorem Aju{r off len k' el k q}(i:Nat)(hT:P.underlying t=some (.array len el))(hE:∃i,P.info? el=some i/\i.size=k')(hx:Af e x = .pointer (some ⟨r,off,none⟩))(hy:Af e y = .int k q)(hq:q=(i:Int))(hi:i<len){off'}(ho:off+i*k'=off'):
  Yld P Y e (.indexAddr t x y) ty (.pointer (some ⟨r,off',none⟩)):=Mt (s:=Instr.indexAt t (Af e x) (Af e y)) (fun _ _ _ _=>rfl) fun Y' Z _=>by
 rw[hx,hy,hq];show wpS P Y' ((underlying t).bind _) Z _;rw[Ad];refine Az hT ?_;show wpS P Y' ((underlying t).bind _) Z _;rw[Ad];refine Az hT ?_;simp only[];rw[if_pos ⟨by omega,by omega⟩];show wpS P Y' ((sizeOf el).bind _) Z _;rw[Ad];refine Dx hE ?_;rw[show (i:Int).toNat=i by simp,Ld,ho];exact⟨rfl,rfl⟩
theorem Ajv{r off len cap k' el k q}(i:Nat)(hT:P.underlying t=some (.slice el))(hE:∃i,P.info? el=some i/\i.size=k')(hx:Af e x = .slice (some ⟨r,off,none⟩) len cap)(hy:Af e y = .int k q)(hq:q=(i:Int))(hi:i<len){off'}(ho:off+i*k'=off'):
  Yld P Y e (.indexAddr t x y) ty (.pointer (some ⟨r,off',none⟩)):=Mt (s:=Instr.indexAt t (Af e x) (Af e y)) (fun _ _ _ _=>rfl) fun Y' Z _=>by
 rw[hx,hy,hq];show wpS P Y' ((underlying t).bind _) Z _;rw[Ad];refine Az hT ?_;show wpS P Y' ((underlying t).bind _) Z _;rw[Ad];refine Az hT ?_;simp only[];rw[if_pos ⟨by omega,by omega⟩];show wpS P Y' ((sizeOf el).bind _) Z _;rw[Ad];refine Dx hE ?_;rw[show (i:Int).toNat=i by simp,Ld,ho];exact⟨rfl,rfl⟩
end
section
variable{C:Ctx}{b:FB}{n:Nat}{l₀ rest:List Oper}{Q:Env->List Deferred->Ro->Own->Prop}{e:Env}{ds:List Deferred}{Y:Ro}{Z:Own}{K:Value->List Deferred->Ro->Own->Prop}{rd:Option Nat}{dd:Option Tmp}
variable{ty:TypeId}{pos:String}{af:Array Edge}{g:Option (Nat×Bool)}{x y:Operand}{v p:Value}{t t':TypeId}
theorem Dv{α}[Dat α]{a:α}{r}{c:List Value}(hT:GoTy C.P t α)(hx:Af e x = .pointer (some ⟨r,0,none⟩))(hy:Af e y=v)(hv:Val Y v a)(hc:c.length=Dat.k α)(h:K undef ds Y ((r,.obj (.cells v.cells t' (0,0)))::Z)):wpS C.P Y (execOp (Af e) ⟨dd,.store t x y,ty,pos,af,g⟩) ((r,.obj (.cells c.toArray t' (0,0)))::Z) (NextH C K rd ds Y):=by obtain⟨cs,b,f,d⟩:=hv.cells;refine Li (i:=0) (off:=0) (vs:=cs) (c:=c) (n':=Dat.k α) hT.info hx hy d (Dat.len b) (Dat.sgl b) rfl (by rw[Dat.len b,hc];omega) (Aio (by rw[Dat.len b,hc])) ?_;rw[d]at h;exact h
end
end
section
def Rows{α:Type}[Dat α](Y:Ro):List Value->List α->Prop
 | cs,[]=>cs=[]
 | cs,x::xs=>∃c1 c2,cs=c1++c2/\Dat.rep Y c1 x/\Rows Y c2 xs
section
variable{α:Type}[Dat α]{Y Y':Ro}
theorem Rows.mono(h:Ro.le Y Y'):∀{xs:List α} {cs:List Value},Rows Y cs xs->Rows Y' cs xs
 | [],_,h'=>h'
 | _::_,_,⟨c1,c2,h1,h2,h3⟩=>⟨c1,c2,h1,Dat.mono h h2,Rows.mono h h3⟩
theorem Rows.len:∀{xs:List α} {cs:List Value},Rows Y cs xs->cs.length=xs.length*Dat.k α
 | [],_,h=>by rw[show _=[] from h];simp
 | x::xs,_,⟨c1,c2,h1,h2,h3⟩=>by
  rw[h1,lZ4,Dat.len h2,Rows.len h3,Gb,Yo,Amw,Aqq]
theorem Rows.sgl:∀{xs:List α} {cs:List Value},Rows Y cs xs->∀c∈cs,single c=true
 | [],_,h,c,hc=>by rw[show _=[] from h]at hc;cases hc
 | x::xs,_,⟨c1,c2,h1,h2,h3⟩,c,hc=>by
  rw[h1,Gv]at hc;exact hc.elim (Dat.sgl h2 c) (Rows.sgl h3 c)
theorem Rows.append:∀{xs ys:List α} {cs cs':List Value},Rows Y cs xs->Rows Y cs' ys->Rows Y (cs++cs') (xs++ys)
 | [],_,_,_,h,h'=>by rw[show _=[] from h];exact h'
 | x::xs,_,_,_,⟨c1,c2,h1,h2,h3⟩,h'=>⟨c1,c2++_,by rw[h1,lZ9],h2,Rows.append h3 h'⟩
theorem Rows.get:∀{xs:List α} {cs:List Value},Rows Y cs xs->∀{i:Nat} {x:α},xs[i]?=some x->∃c post,cs.drop (i*Dat.k α)=c++post/\Dat.rep Y c x
 | [],_,_,i,x,hx=>by simp at hx
 | y::ys,_,⟨c1,c2,h1,h2,h3⟩,i,x,hx=>by
  cases i with
  | zero =>
   simp only[Bhe,Option.some.injEq]at hx;subst hx;exact⟨c1,c2,by simp[h1],h2⟩
  | succ i =>
   obtain⟨c,post,h4,h5⟩:=h3.get (i:=i) (x:=x) (by simpa using hx);refine⟨c,post,?_,h5⟩;rw[h1,Yo,Amw,Aqq,<-Aoz];have:(c1++c2).drop (Dat.k α)=c2:=by rw[<-Dat.len h2,Bdu]
   rw[this];exact h4
theorem Zv{r cap cs rest t fz}{xs:List α}(hr:Y r=some (.cells (cs++rest).toArray t fz))(hc:Rows Y cs xs)(hl:xs.length<2^60)(hcap:xs.length<=cap):Val Y (.slice (some ⟨r,0,none⟩) xs.length cap) xs:=by
 refine Cs.2 ⟨_,_,_,rfl,rfl,hl,hcap,fun i x hx=>⟨r,0,rfl,?_⟩⟩;obtain⟨c,d,a,b⟩:=hc.get hx;have hlt:=(lZ1.1 hx).1;refine⟨r,0+i*Dat.k α,_,_,_,c,d++rest,rfl,hr,b,?_⟩;simp only[Qz,Awq];have hle:i*Dat.k α<=cs.length:=by rw[hc.len];exact Awo _ (by omega)
 rw[Bcy hle,a,lZ9]
theorem Gx:Val Y (.slice none 0 0) ([]:List α):=Cs.2 ⟨none,0,0,rfl,rfl,by omega,Ib _,fun i x hx=>by simp at hx⟩
end
def Aam{α:Type}[Dat α](Y:Ro):List Value->List α->Prop
 | [],[]=>True
 | v::vs,x::xs=>Val Y v x/\Aam Y vs xs
 | _,_=>False
section
variable{C:Ctx}{b:FB}{n:Nat}{l₀ rest:List Oper}{e:Env}{ds:List Deferred}{Y:Ro}{Z:Own}{K:Value->List Deferred->Ro->Own->Prop}{rd:Option Nat}{dd:Option Tmp}
variable{ty:TypeId}{pos:String}{af:Array Edge}{g:Option (Nat×Bool)}{x y:Operand}{v p:Value}{t t':TypeId}{P:Program}
theorem Pd:∀(vs:List Value) (c:List Value) (off k:Nat),(vs.zipIdx k).foldl (fun (cs:Array Value) (p:Value×Nat)=>cs.setIfInBounds (off+p.2) p.1) c.toArray=(over c (off+k) vs).toArray
 | [],c,off,k=>rfl
 | v::vs,c,off,k=>by
  simp only[Bmx,Axd];have:(c.toArray.setIfInBounds (off+k) v)=(c.set (off+k) v).toArray:=by simp
  rw[this,Pd vs _ off (k+1),over];rfl
theorem Vq{α:Type}[Dat α]:∀(vs:List Value) (xs:List α) (i:Nat) (pre suf:List Value),Aam Y vs xs->pre.length=i*Dat.k α->suf.length=xs.length*Dat.k α ->
  ∃cs,Rows Y cs xs/\Instr.fill (fun i=>some (i*Dat.k α,Dat.k α)) (pre++suf).toArray ((vs.zipIdx i).map fun p=>(p.2,p.1))=some (pre++cs).toArray
 | [],[],i,pre,suf,_,_,hs=>by
  refine⟨[],rfl,?_⟩;have:suf=[]:=Bar (by simpa using hs);simp[Instr.fill,this]
 | v::vs,y::ys,i,pre,suf,⟨hv,hvs⟩,hp,hs=>by
  obtain⟨c,b,j,d⟩:=hv.cells;have a:=Dat.len b;simp only[Gb,Yo,Amw]at hs;simp only[Bmx,Ic,Instr.fill];have hsz:v.cells.size=Dat.k α:=by rw[d];simpa using a
  have g:(decide (v.cells.size≠Dat.k α)||decide (i*Dat.k α+v.cells.size>(pre++suf).toArray.size))=false:=by
   simp only[hsz,Awm,decide_eq_false_iff_not];refine⟨by simp,?_⟩;simp only[Aiy,lZ4,hp,hs];omega
  rw[if_neg (by simpa using g)];have m:v.cells.zipIdx.foldl (fun (cs:Array Value) (p:Value×Nat)=>cs.setIfInBounds (i*Dat.k α+p.2) p.1) (pre++suf).toArray=((pre++c)++suf.drop (Dat.k α)).toArray:=by
   rw[d];have:=Pd c (pre++suf) (i*Dat.k α) 0;rw[<-Array.foldl_toList];simp only[Array.toList_zipIdx,Awq];rw[this,Abk,Qe c (pre++suf) (i*Dat.k α) (by rw[lZ4,hp,hs,a];omega)];rw[<-hp,Ams,a,<-Aoz,Bdu,lZ9]
  obtain⟨cs,e,f⟩:=Vq vs ys (i+1) (pre++c) (suf.drop (Dat.k α)) hvs (by rw[lZ4,hp,a,Yo,Amw]) (by rw[Tf,hs];omega);refine⟨c++cs,⟨c,cs,rfl,b,e⟩,?_⟩;rw[<-lZ9,<-f];congr 1
 | [],_::_,_,_,_,h,_,_=>h.elim
 | _::_,[],_,_,_,h,_,_=>h.elim
theorem Bi{α}[Dat α]{xs:List α}{el z}{ps:List (Nat×Operand)}{vs len}(hT:C.P.underlying t=some (.slice el))(hE:GoTy C.P el α)(hz:Fw C.P el z)(hzk:z.cells.size=Dat.k α)(hk:Dat.k α≠0)(hp:ps.map (fun p=>(p.1,Af e p.2))=(vs.zipIdx.map fun p=>(p.2,p.1)))(hv:Aam Y vs xs)(hlen:xs.length=len)(hsm:len*Dat.k α<=2^24)(h:∀r cs,Rows Y cs xs->K (.slice (some ⟨r,0,none⟩) len len) ds Y ((r,.obj (.cells cs.toArray el (0,0)))::Z)):
  wpS C.P Y (execOp (Af e) ⟨dd,.buildSlice t len ps.toArray,ty,pos,af,g⟩) Z (NextH C K rd ds Y):=by
 have c:execOp (Af e) ⟨dd,.buildSlice t len ps.toArray,ty,pos,af,g⟩=(Instr.buildSlice t len (ps.toArray.map fun (p:Nat×Operand)=>(p.1,Af e p.2))).bind fun v=>Sem.pure (Next.value v):=rfl;rw[c];refine Gd ?_;have hps:(ps.toArray.map fun (p:Nat×Operand)=>(p.1,Af e p.2))=(vs.zipIdx.map fun p=>(p.2,p.1)).toArray:=by
  rw[<-hp];simp
 rw[hps];unfold Instr.buildSlice;show wpS C.P Y ((underlying t).bind _) Z _;rw[Ad];refine Az hT ?_;show wpS C.P Y ((sizeOf el).bind _) Z _;rw[Ad];refine Dx hE.info ?_;dsimp only;rw[if_neg (by omega)];have rest:∀(zz:Array Value),∃cs,Rows Y cs xs/\Instr.fill (fun i=>some (i*Dat.k α,Dat.k α)) ((Array.range (len*Dat.k α)).map fun i=>zz[i%zz.size]!) (vs.zipIdx.map fun p=>(p.2,p.1))=some cs.toArray:=fun zz=>by
  obtain⟨cs,a,b⟩:=Vq (Y:=Y) vs xs 0 [] ((List.range (len*Dat.k α)).map fun i=>zz[i%zz.size]!) hv (by simp) (by simp[hlen]);refine⟨cs,a,?_⟩;have d:((Array.range (len*Dat.k α)).map fun i=>zz[i%zz.size]!)=([]++(List.range (len*Dat.k α)).map fun i=>zz[i%zz.size]!).toArray:=by
   apply Array.ext';simp
  rw[d,b];simp
 split
 ·obtain⟨cs,a,b⟩:=rest #[];simp only[pure_bind,b];show wpS C.P Y ((newRow el cs.toArray).bind _) Z _;rw[Ad];exact Ik fun r=>h r cs a
 ·show wpS C.P Y ((zeroValue el).bind _) Z _;rw[Ad];refine Jz hz ?_;obtain⟨cs,a,b⟩:=rest z.cells;simp only[pure_bind,b];show wpS C.P Y ((newRow el cs.toArray).bind _) Z _;rw[Ad];exact Ik fun r=>h r cs a
def Grow{α:Type}[Dat α](Y:Ro)(el:TypeId)(v:Value)(xs:List α)(gr:Own):Prop :=
 (∀p∈gr,∃o,p.2=Res.obj o)/\xs.length<2^60 /\
 ((v = .slice none 0 0/\xs=[])∨∃r cap cs rs gb,v = .slice (some ⟨r,0,none⟩) xs.length cap/\gr=(r,.obj (.cells (cs++rs).toArray el (0,0)))::gb/\Rows Y cs xs/\(cs++rs).length=cap*Dat.k α/\xs.length<=cap)
theorem Grow.mono{α}[Dat α]{Y Y'}(hle:Ro.le Y Y'){el v}{xs:List α}{gr}(h:Grow Y el v xs gr):Grow Y' el v xs gr :=
 ⟨h.1,h.2.1,h.2.2.imp id fun⟨r,cap,cs,rs,gb,a,b,c,d,e⟩=>⟨r,cap,cs,rs,gb,a,b,c.mono hle,d,e⟩⟩
theorem Hm{α}[Dat α]{Y el}:Grow Y el (.slice none 0 0) ([]:List α) []:=⟨fun p hp=>(by cases hp),by simp,.inl ⟨rfl,rfl⟩⟩
theorem Grow.len{α}[Dat α]{Y el v}{xs:List α}{gr}(h:Grow Y el v xs gr):xs.length<2^60:=h.2.1
theorem Uw{α}[Dat α]{Y Z P v}{xs:List α}{Q}(hv:Val Y v xs)(h:∀cs,Rows Y cs xs->Q cs.toArray Z):wpS P Y (Builtin.firstCells (Dat.k α) xs.length v) Z Q:=by
 obtain⟨a,len,cap,B,H,I,_,x⟩:=Cs.1 hv;subst B;cases hx:xs with
 | nil =>
  subst hx;have:=h [] rfl;cases a with
  | none=>exact this
  | some ad =>
   show wpS P Y (loadCells ad (0*Dat.k α)) Z Q;rw[Awx];exact this
 | cons y ys =>
  rw[<-hx];obtain⟨b,off,F,_⟩:=x 0 y (by rw[hx];rfl);subst F;have key:∀(m:Nat),m<=xs.length->∃cs:List Value,Rows Y cs (xs.drop (xs.length-m))/\∀j w,cs[j]?=some w->∃o,Y b=some o/\Gy o (off+(xs.length-m)*Dat.k α+j)=some w:=by
   intro m;induction m with
   | zero=>intro _;exact⟨[],by simp[Rows],fun j w hj=>by simp at hj⟩
   | succ m ih =>
    intro hm;obtain⟨cs,d,e⟩:=ih (by omega);obtain⟨z,hz⟩:=Ed (xs:=xs) (i:=xs.length-(m+1)) (by omega);obtain⟨b',J,f,G,K,c,t',fz,q,rs,g,p,t,C⟩:=x _ z hz;cases f;cases g;refine⟨q++cs,?_,fun j w hj=>?_⟩
    ·have n:xs.drop (xs.length-(m+1))=z::xs.drop (xs.length-m):=by
      rw[Amy (by omega)];congr 1
      ·have:=lZ1.1 hz;exact this.2
      ·congr 1;omega
     rw[n];exact⟨q,cs,rfl,t,d⟩
    ·rw[List.getElem?_append]at hj;have hl:=Dat.len t;split at hj
     ·rename_i hlt;refine⟨_,p,?_⟩;have:(c.toList.drop (off+(xs.length-(m+1))*Dat.k α))[j]?=some w:=by rw[C,Aiv hlt];exact hj
      rw[Att]at this;simpa[Gy]using this
     ·rename_i hge;obtain⟨o,D,E⟩:=e _ w hj;refine⟨o,D,?_⟩;rw[<-E];congr 1;rw[hl]at hge ⊢;have:(xs.length-m)*Dat.k α=(xs.length-(m+1))*Dat.k α+Dat.k α:=by rw[show xs.length-m=(xs.length-(m+1))+1 by omega,Yo,Amw]
      omega
  obtain⟨cs,d,e⟩:=key xs.length (Ib _);simp only[Aww,Apa,Awx,Abk]at d e;show wpS P Y (loadCells ⟨b,off,none⟩ (xs.length*Dat.k α)) Z Q;rw[<-d.len];cases hcs:cs with
  | nil=>have:=h cs d;rw[hcs]at this;exact this
  | cons w ws =>
   rw[<-hcs];obtain⟨o,f,_⟩:=e 0 w (by rw[hcs];rfl);refine Ff (a:=⟨b,off,none⟩) rfl (.inl f) cs 0 #[] (fun j u hj=>?_) ?_
   ·obtain⟨o',g,p⟩:=e j u hj;rw[f]at g;cases g;simpa using p
   ·have n:(#[]:Array Value)++cs.toArray=cs.toArray:=by simp
    rw[n];exact h cs d
theorem Vt:∀(r newLen c:Nat),c<newLen->Builtin.growBy newLen r c<=2*newLen+1000
 | 0,newLen,c,h=>by simp only[Builtin.growBy];omega
 | r+1,newLen,c,h=>by
  simp only[Builtin.growBy];split
  ·omega
  ·by_cases h2:c+(c+768)/4<newLen
   ·exact Vt r newLen _ h2
   ·have:∀k d,newLen<=d->d<=2*newLen+1000->Builtin.growBy newLen k d<=2*newLen+1000:=fun k d b a=>by
     cases k with
     | zero=>simpa[Builtin.growBy]using a
     | succ k=>simp only[Builtin.growBy];rw[if_pos b];exact a
    exact this r _ (by omega) (by omega)
theorem Alk{need cap}(h:cap<need):Builtin.nextslicecap need cap<=2*need+1000:=by
 unfold Builtin.nextslicecap;split
 ·omega
 ·split
  ·omega
  ·exact Vt 4 need cap h
theorem Gc{α}[Dat α]{xs ys:List α}{gr el el' z w ti}(hT:C.P.underlying t=some (.slice el))(hT':C.P.underlying t'=some (.slice el'))(hi:C.P.info? el=some ti)(hik:ti.size=Dat.k α)(hib:ti.bytes<=1000)(hz:ti.zero=some z)(hzk:z.cells.size=Dat.k α)(hx:Af e x=v)(hy:Af e y=w)(hv:Grow Y el v xs gr)(hw:Val Y w ys)(hlen:xs.length+ys.length<2^30)(h:∀v' gr',Grow Y el v' (xs++ys) gr'->K v' ds Y (gr'++Z)):wpS C.P Y (execOp (Af e) ⟨dd,.call ⟨.builtin .append,#[x,y],#[t,t']⟩,ty,pos,af,g⟩) (gr++Z) (NextH C K rd ds Y):=by
 have I:(#[x,y]:Array Operand).map (Af e) = #[v,w]:=by simp[hx,hy]
 show wpS C.P Y (builtin .append #[t,t'] ty ((#[x,y]:Array Operand).map fun | .const _=>true|_=>false) ((#[x,y]:Array Operand).map (Af e))) _ _;rw[I];show wpS C.P Y ((Builtin.append_ #[t,t'] ty #[v,w]).bind fun v=>Sem.pure (Next.value v)) _ _;refine Gd ?_;obtain⟨ya,yl,yc,O,R,_,_,_⟩:=Cs.1 hw;obtain⟨va,vl,vc,hvs⟩:∃va vl vc,v = .slice va vl vc/\vl=xs.length:=by
  rcases hv.2.2 with⟨b,c⟩|⟨r,cap,cs,rs,gb,b,_⟩
  ·exact⟨none,0,0,b,by rw[c];rfl⟩
  ·exact⟨_,_,_,b,rfl⟩
 obtain⟨hvs,hvl⟩:=hvs;subst hvl;have hGo:∀(Q:Value->Own->Prop),(∀v' gr',Grow Y el v' (xs++ys) gr'->Q v' (gr'++Z))->wpS C.P Y (Builtin.append_ #[t,t'] ty #[v,w]) (gr++Z) Q:=by
  intro Q hQ;have m:∀{Q:Array Value->Own->Prop} {Z':Own},(∀cs,Rows Y cs ys->Q cs.toArray Z')->wpS C.P Y (Builtin.firstCells (Dat.k α) ys.length w) Z' Q:=fun hq=>Uw hw hq;rw[O]at m ⊢;rw[hvs];unfold Builtin.append_;show wpS C.P Y ((underlying t).bind _) _ _;rw[Ad];refine Az hT ?_;show wpS C.P Y ((sizeOf el).bind _) _ _;rw[Ad];refine Dx ⟨ti,hi,hik⟩ ?_;show wpS C.P Y ((underlying t').bind _) _ _;rw[Ad];refine Az hT' ?_;rw[<-R]at m ⊢;have M:∀{Q:Array Value->Own->Prop},(∀cs,Rows Y cs xs->Q cs.toArray (gr++Z))->wpS C.P Y (Builtin.firstCells (Dat.k α) xs.length (.slice va xs.length vc)) (gr++Z) Q:=fun {Q} hq=>by
   rcases hv.2.2 with⟨b,c⟩|⟨r,cap,cs,rs,gb,b,c,d,n,H⟩
   ·subst c;rw[hvs]at b;simp only[Nx,Value.slice.injEq]at b;obtain⟨rfl,-,rfl⟩:=b;exact hq [] rfl
   ·rw[hvs]at b;cases b;show wpS C.P Y (loadCells ⟨r,0,none⟩ (xs.length*Dat.k α)) _ _;rw[<-d.len];refine Ff (a:=⟨r,0,none⟩) (o:=.cells (cs++rs).toArray el (0,0)) rfl (.inr (by rw[c];simp)) cs 0 #[] (fun j u hj=>?_) ?_
    ·simp only[Gy,Qz,Jw];rw[Aiv (lZ1.1 hj).1];exact hj
    ·have B:(#[]:Array Value)++cs.toArray=cs.toArray:=by simp
     rw[B];exact hq cs d
  by_cases hn:xs.length+ys.length<=vc
  ·show wpS C.P Y (if xs.length+ys.length<=vc then (Builtin.firstCells (Dat.k α) ys.length (.slice ya ys.length yc)).bind _ else _) _ _;rw[if_pos hn,Ad];refine m fun cs' f=>?_;rcases hv.2.2 with⟨b,c⟩|⟨r,cap,cs,rs,gb,b,c,d,n,H⟩
   ·subst c;rw[hvs]at b;simp only[Nx,Value.slice.injEq]at b;obtain⟨rfl,-,rfl⟩:=b;have T:ys=[]:=Bar (by simpa using hn);subst T;exact hQ _ gr ⟨hv.1,by simp,.inl ⟨rfl,rfl⟩⟩
   ·rw[hvs]at b;cases b;show wpS C.P Y ((storeCells ((⟨r,0,none⟩:Addr).add (xs.length*Dat.k α)) cs'.toArray.toList).bind _) _ _;rw[Ad,Ld,Awq,Qz];have hl:xs.length*Dat.k α+cs'.length<=(cs++rs).length:=by
     rw[n,f.len,<-Yo];exact Awo _ hn
    refine Ns (r:=r) (i:=0) cs' ⟨r,xs.length*Dat.k α,none⟩ 0 (cs++rs) (gr++Z) rfl rfl f.sgl (by rw[c];rfl) (by simpa using hl) ?_;have D:over (cs++rs) (xs.length*Dat.k α+0) cs'=(cs++cs')++(cs++rs).drop (xs.length*Dat.k α+cs'.length):=by
     rw[Abk,Qe _ _ _ hl,<-d.len,Ams,lZ9]
    have E:(gr++Z).set 0 (r,Res.obj (.cells (over (cs++rs) (xs.length*Dat.k α+0) cs').toArray el (0,0)))=((r,Res.obj (.cells ((cs++cs')++(cs++rs).drop (xs.length*Dat.k α+cs'.length)).toArray el (0,0)))::gb)++Z:=by
     rw[c,D];rfl
    simp only[];rw[E];refine hQ _ _ ⟨fun p hp=>?_,by rw[lZ4];omega,.inr ⟨r,vc,cs++cs',_,gb,by rw[lZ4],rfl,d.append f,?_,by rw[lZ4];exact hn⟩⟩
    ·rcases lZ8.1 hp with rfl|hp
     ·exact⟨_,rfl⟩
     ·exact hv.1 p (by rw[c];exact lZ0 _ hp)
    ·rw[lZ4,lZ4,Tf,<-n,d.len];omega
  ·show wpS C.P Y (if xs.length+ys.length<=vc then _ else (typeInfo el).bind _) _ _;rw[if_neg hn,Ad];refine Gj hi ?_;have J:¬(((xs.length+ys.length:Nat):Int)>IntKind.i64.max/\((false=true)∨ti.bytes=0)):=by
    intro⟨b,_⟩;have:IntKind.i64.max=9223372036854775807:=by simp[IntKind.max,IntKind.signed,IntKind.bits]
    omega
   show wpS C.P Y (if ((xs.length+ys.length:Nat):Int)>IntKind.i64.max/\((false=true)∨ti.bytes=0) then _ else (typeInfo el).bind _) _ _;rw[if_neg J,Ad];refine Gj hi ?_;have L:¬(Builtin.nextslicecap (xs.length+ys.length) vc*ti.bytes>2^48):=by
    have b:=Alk (need:=xs.length+ys.length) (cap:=vc) (by omega);have c:Builtin.nextslicecap (xs.length+ys.length) vc*ti.bytes<=(2*(xs.length+ys.length)+1000)*1000:=Anc b hib;omega
   show wpS C.P Y (if Builtin.nextslicecap (xs.length+ys.length) vc*ti.bytes>2^48 then _ else (choose (.appendCap (xs.length+ys.length) vc el)).bind _) _ _;rw[if_neg L,Ad];show (if (Question.appendCap (xs.length+ys.length) vc el).forced then _ else ∀tt,_);rw[if_neg (by simp[Question.forced])];intro tt;have q:xs.length+ys.length<=(Question.appendCap (xs.length+ys.length) vc el).cut tt:=by simp[Question.cut]
   generalize (Question.appendCap (xs.length+ys.length) vc el).cut tt=nc at q;show wpS C.P Y ((typeInfo el).bind _) _ _;rw[Ad];refine Gj hi ?_;show wpS C.P Y ((askRoom (nc*ti.bytes)).bind _) _ _;rw[Ad];have N:∀{Q:Unit->Own->Prop} {Z':Own},Q () Z'->wpS C.P Y (askRoom (nc*ti.bytes)) Z' Q:=fun hq=>by
    unfold askRoom;split
    ·exact⟨rfl,hq⟩
    ·exact hq
   refine N ?_;show wpS C.P Y ((Builtin.firstCells (Dat.k α) xs.length (.slice va xs.length vc)).bind _) _ _;rw[Ad];refine M fun cs hcs=>?_;show wpS C.P Y ((Builtin.firstCells (Dat.k α) ys.length (.slice ya ys.length yc)).bind _) _ _;rw[Ad];refine m fun cs' f=>?_;show wpS C.P Y ((zeroValue el).bind _) _ _;rw[Ad];refine Jz ⟨ti,hi,hz⟩ ?_;show wpS C.P Y ((newRow el (cs.toArray++cs'.toArray++Builtin.zeroCells z.cells (nc-(xs.length+ys.length)))).bind _) _ _;rw[Ad];refine Ik fun r=>?_;have F:(cs.toArray++cs'.toArray++Builtin.zeroCells z.cells (nc-(xs.length+ys.length)))=((cs++cs')++(Builtin.zeroCells z.cells (nc-(xs.length+ys.length))).toList).toArray:=by
    apply Array.ext';simp
   rw[F];refine hQ _ ((r,Res.obj (.cells ((cs++cs')++(Builtin.zeroCells z.cells (nc-(xs.length+ys.length))).toList).toArray el (0,0)))::gr) ⟨fun p hp=>?_,by rw[lZ4];omega,.inr ⟨r,nc,cs++cs',_,gr,by rw[lZ4],rfl,hcs.append f,?_,by rw[lZ4];exact q⟩⟩
   ·rcases lZ8.1 hp with rfl|hp
    ·exact⟨_,rfl⟩
    ·exact hv.1 p hp
   ·have G:(Builtin.zeroCells z.cells (nc-(xs.length+ys.length))).toList.length=(nc-(xs.length+ys.length))*Dat.k α:=by
     simp[Builtin.zeroCells,hzk]
    rw[lZ4,lZ4,hcs.len,f.len,G,<-Yo,<-Yo];congr 1;omega
 exact hGo _ h
theorem Grow.val{α}[Dat α]{Y' el v}{xs:List α}{r cap cs rs}(hl:xs.length<2^60)(h1:v = .slice (some ⟨r,0,none⟩) xs.length cap)(h3:Rows Y' cs xs)(h5:xs.length<=cap)(hr:Y' r=some (.cells (cs++rs).toArray el (0,0))):Val Y' v xs:=by rw[h1];exact Zv hr h3 hl h5
theorem drops{gb Z}(h:∀p∈gb,∃o,p.2=Res.obj o):Ghost Y (gb++Z) Y Z:=by
 induction gb with
 | nil=>exact .refl
 | cons p gb ih =>
  obtain⟨o,ho⟩:=h p mC;obtain⟨r,x⟩:=p;simp only at ho;subst ho;exact Ghost.drop.trans (ih fun q hq=>h q (lZ0 _ hq))
theorem Hc{V:Ql}{α:Type}[Dat α]{bb:FB}{nn:Nat}{Q':Hu}{el:TypeId}{xs:List α}{gr:Own}{c:Code}(hg:Grow Y el v xs gr)(h:∀Y',Ro.le Y Y'->Val Y' v xs->WpP C V bb nn c Q' e ds Y' Z):WpP C V bb nn c Q' e ds Y (gr++Z):=by
 rcases hg.2.2 with⟨a,b⟩|⟨r,cap,cs,rs,gb,a,b,d,g,f⟩
 ·refine Aj (drops hg.1) (h Y .refl ?_);rw[a,b];exact Gx
 ·subst b;show WpP C V bb nn c Q' e ds Y ((r,_)::(gb++Z));refine Wo fun Y' hle hr=>Aj (drops fun p hp=>hg.1 p (lZ0 _ hp)) (h Y' hle (Grow.val hg.2.1 a (d.mono hle) f hr))
theorem Ca{V:Ql}{α:Type}[Dat α]{Q:Env->List Deferred->Ro->Own->Prop}{bb:FB}{nn:Nat}{el:TypeId}{xs:List α}{gr:Own}(hg:Grow Y el v xs gr)(h:∀Y',Ro.le Y Y'->Val Y' v xs->Ee C V bb nn l₀ rest Q e ds Y' Z):Ee C V bb nn l₀ rest Q e ds Y (gr++Z):=by
 rcases hg.2.2 with⟨a,b⟩|⟨r,cap,cs,rs,gb,a,b,c,f,d⟩
 ·refine Bj (drops hg.1) (h Y .refl ?_);rw[a,b];exact Gx
 ·subst b;show Ee C V bb nn l₀ rest Q e ds Y ((r,_)::(gb++Z));refine Tu fun Y' hle hr=>Bj (drops fun p hp=>hg.1 p (lZ0 _ hp)) (h Y' hle (Grow.val hg.2.1 a (c.mono hle) d hr))
theorem Lr{α}[Dat α]{Q bb pz Y9 fuel}{li:List Bool}{el}{xs:List α}{gr}(hg:Grow Y el v xs gr)(h:∀Y',Ro.le Y Y'->Val Y' v xs->El C bb l₀.toArray Q pz (leS Y9) (fuel+1) li.toArray e ds Y' Z):El C bb l₀.toArray Q pz (leS Y9) (fuel+1) li.toArray e ds Y (gr++Z):=by
 rcases hg.2.2 with⟨a,b⟩|⟨r,cap,cs,rs,gb,a,b,c,f,d⟩
 ·refine Ej (drops hg.1) id (h Y .refl ?_);rw[a,b];exact Gx
 ·subst b;show El C bb l₀.toArray Q pz (leS Y9) (fuel+1) li.toArray e ds Y ((r,_)::(gb++Z));refine Agi fun Y' hle hr=>Ej (drops fun p hp=>hg.1 p (lZ0 _ hp)) id (h Y' hle (Grow.val hg.2.1 a (c.mono hle) d hr))
theorem Bs{α}[Dat α]{xs:List α}{r len cs el}(h:Rows Y cs xs)(hl:xs.length=len)(hs:len<2^60):Grow Y el (.slice (some ⟨r,0,none⟩) len len) xs [(r,.obj (.cells cs.toArray el (0,0)))] :=
 ⟨fun p hp=>by rw[Nh]at hp;exact⟨_,by rw[hp]⟩,by omega,.inr ⟨r,len,cs,[],[],by rw[hl],by simp,h,by rw[Ui,h.len,hl],by omega⟩⟩
theorem Adk{e:Env}:∀{os:List Operand} {vs:List Value} (k:Nat),EvL e os vs->((os.zipIdx k).map fun p=>(p.2,p.1)).map (fun p=>(p.1,Af e p.2))=((vs.zipIdx k).map fun p=>(p.2,p.1))
 | [],[],_,_=>rfl
 | o::os,v::vs,k,⟨h1,h2⟩=>by
  have:=Adk (k+1) h2;simp only[Bmx,Ic,Bdz]at this ⊢;rw[h1,this]
 | [],_::_,_,h=>h.elim
 | _::_,[],_,h=>h.elim
theorem Dk{e os vs}(h:EvL e os vs):((os.zipIdx).map fun p=>(p.2,p.1)).map (fun p=>(p.1,Af e p.2))=(vs.zipIdx.map fun p=>(p.2,p.1)):=Adk 0 h
theorem Fy{α}[Dat α]{xs ys:List α}{el gr}(h:xs=ys)(hg:Grow Y el v xs gr):Grow Y el v ys gr:=h ▸ hg
theorem Val.cast{α}[Dat α]{a a':α}(h:a=a')(hv:Val Y v a):Val Y v a':=h ▸ hv
theorem Abz{α}[Dat α]{a:α}{w}(h:w=v)(hv:Val Y v a):Val Y w a:=h ▸ hv
theorem Ajw{α}[Dat α]{xs:List α}{el el' gr}(hT:P.underlying t=some (.slice el'))(hx:Af e x=v)(hv:Grow Y el v xs gr):Yld P Y e (.call ⟨.builtin .len,#[x],#[t]⟩) ty (.int .i64 (xs.length:Int)):=by
 obtain⟨a,cap,b⟩:∃a cap,v = .slice a xs.length cap:=by
  rcases hv.2.2 with⟨b,c⟩|⟨r,cap,cs,rs,gb,b,_⟩
  ·exact⟨none,0,by rw[b,c];rfl⟩
  ·exact⟨_,_,b⟩
 refine Mc (args:=[x]) (vs:=[v]) (s:=fun _=>Builtin.len_ #[t] ty #[v]) (by simp[hx]) (fun _=>rfl) fun Y' Z cs _=>?_;show wpS P Y' ((underlying t).bind _) Z _;rw[Ad];refine Az hT ?_;rw[b];exact⟨rfl,rfl⟩
end
end
section
theorem Aec(a b:ByteArray):(a==b)=(a.toList==b.toList):=by
 rw[ByteArray.toList_eq,ByteArray.toList_eq];cases h:(a==b) with
 | true =>
  have:a.data==b.data:=h;rw[eq_of_beq this];simp
 | false =>
  have:(a.data==b.data)=false:=h
  symm
  rw[Amm];intro c;rw[Amm]at this;exact this (by rw[Bmt.1 (eq_of_beq c)];simp)
def Mu(es:Array MapEntry)(p:ByteArray->Bool):Prop :=
 (∀en∈es.toList,∃k,en.key = .string k/\en.val = .bool true)/\∀k,p k=es.toList.any fun en=>match en.key with | .string k'=>k.toList==k'.toList|_=>false
theorem Rl{es p q}(h:∀k,p k=q k)(hs:Mu es p):Mu es q:=⟨hs.1,fun k=>by rw[<-h k];exact hs.2 k⟩
theorem Uh:Mu #[] (fun _=>false):=⟨fun en h=>(by cases h),fun k=>rfl⟩
section
variable{C:Ctx}{b:FB}{n:Nat}{l₀ rest:List Oper}{e:Env}{ds:List Deferred}{Y:Ro}{Z:Own}{K:Value->List Deferred->Ro->Own->Prop}{rd:Option Nat}{dd:Option Tmp}
variable{ty:TypeId}{pos:String}{af:Array Edge}{g:Option (Nat×Bool)}{x y u:Operand}{v p:Value}{t t':TypeId}{P:Program}
theorem Oh(h:∀r,K (.map (some r)) ds Y ((r,.obj (.map #[] 0))::Z)):wpS C.P Y (execOp (Af e) ⟨dd,.makeMap t none,ty,pos,af,g⟩) Z (NextH C K rd ds Y):=by show wpS C.P Y ((Instr.makeMap t none).bind _) Z _;refine Gd ?_;show wpS C.P Y ((newObj (.map #[] 0)).bind _) Z _;rw[Ad];exact .inl ⟨rfl,fun r=>h r⟩
theorem Pu{k:ByteArray}:∀(es:List MapEntry) (i:Nat),(∀en∈es,∃k,en.key = .string k/\en.val = .bool true) ->
  (Instr.findNow .string (.string k) es i=some none/\(es.any fun en=>match en.key with | .string k'=>k.toList==k'.toList|_=>false)=false) ∨
  (∃j en,Instr.findNow .string (.string k) es i=some (some (i+j,.bool true))/\es[j]?=some en/\(∃k',en.key = .string k'/\k.toList=k'.toList)/\(es.any fun en=>match en.key with | .string k'=>k.toList==k'.toList|_=>false)=true)
 | [],i,_=>.inl ⟨rfl,rfl⟩
 | en::es,i,h=>by
  obtain⟨k',h1,h2⟩:=h en mC;have ih:=Pu (k:=k) es (i+1) fun x hx=>h x (lZ0 _ hx);simp only[Instr.findNow,h1,Instr.sameNow,List.any_cons];rw[Aec];cases hk:(k.toList==k'.toList) with
  | true =>
   refine .inr ⟨0,en,?_,rfl,⟨k',h1,eq_of_beq hk⟩,?_⟩
   ·simp[h2]
   ·simp[hk]
  | false =>
   rcases ih with⟨a,b⟩|⟨j,en',a,b,c,d⟩
   ·exact .inl ⟨by simp[a],by simp[hk,b]⟩
   ·exact .inr ⟨j+1,en',by simp only[a];congr 3;omega,by simpa using b,c,by simp[d]⟩
theorem Qq{P kt k es pr}(hk:P.underlying kt=some .string)(hs:Mu es pr){Q}(h0:pr k=false->Q none Z)(h1:pr k=true->∀j en k',es[j]?=some en->en.key = .string k'->k.toList=k'.toList->Q (some (j,.bool true)) Z):wpS P Y (Instr.findKey kt (.string k) es.toList) Z Q:=by
 show wpS P Y ((underlying kt).bind _) Z Q;rw[Ad];refine Az hk ?_;rcases Pu (k:=k) es.toList 0 hs.1 with⟨a,b⟩|⟨j,en,a,b,⟨k',c,d⟩,e⟩
 ·simp only[a];exact h0 (by rw[hs.2 k];exact b)
 ·simp only[a,Qz];exact h1 (by rw[hs.2 k];exact e) j en k' (by simpa using b) c d
theorem Qo{P kt k em m}(hk:P.underlying kt=some .string){Q}(h:Q () Z):wpS P Y (Instr.checkKey em (m+1) kt (.string k)) Z Q:=by show wpS P Y ((underlying kt).bind _) Z Q;rw[Ad];exact Az hk h
theorem Xq{i r clock:Nat}{kt et k es pr}(hT:C.P.underlying t=some (.map kt et))(hk:C.P.underlying kt=some .string)(hz:Fw C.P et (.bool false))(hs:Mu es pr)(hx:Af e x = .map (some r))(hy:Af e y = .string k)(hi:Z[i]?=some (r,.obj (.map es clock)))(h:K (.bool (pr k)) ds Y Z):wpS C.P Y (execOp (Af e) ⟨dd,.lookup t x y false,ty,pos,af,g⟩) Z (NextH C K rd ds Y):=by
 show wpS C.P Y ((Instr.lookup t (Af e x) (Af e y) false).bind _) Z _;refine Gd ?_;rw[hx,hy];show wpS C.P Y ((underlying t).bind _) Z _;rw[Ad];refine Az hT ?_;show wpS C.P Y ((getObj r).bind _) Z _;rw[Ad];refine⟨_,.inr (lZ6 hi),rfl,?_⟩;show wpS C.P Y ((Instr.checkKey es.isEmpty 10000 kt (.string k)).bind _) Z _;rw[Ad];refine Qo (m:=9999) hk ?_;show wpS C.P Y ((Instr.findKey kt (.string k) es.toList).bind _) Z _;rw[Ad];refine Qq hk hs (fun a=>?_) (fun b j en k' _ _ _=>?_)
 ·show wpS C.P Y ((zeroValue et).bind _) Z _;rw[Ad];refine Jz hz ?_;rw[a]at h;exact h
 ·rw[b]at h;exact h
theorem Afq{i r clock kt et k es pr}(hT:C.P.underlying t=some (.map kt et))(hk:C.P.underlying kt=some .string)(hs:Mu es pr)(hn:pr k=false)(hx:Af e x = .map (some r))(hy:Af e y = .string k)(hu:Af e u = .bool true)(hi:Z[i]?=some (r,.obj (.map es clock)))(h:∀es' clock',Mu es' (fun k'=>k'.toList==k.toList||pr k')->K undef ds Y (Z.set i (r,.obj (.map es' clock')))):wpS C.P Y (execOp (Af e) ⟨dd,.mapUpdate t x y u,ty,pos,af,g⟩) Z (NextH C K rd ds Y):=by
 show wpS C.P Y ((Instr.mapUpdate t (Af e x) (Af e y) (Af e u)).bind _) Z _;refine Ahn ?_;rw[hx,hy,hu];show wpS C.P Y ((underlying t).bind _) Z _;rw[Ad];refine Az hT ?_;show wpS C.P Y ((getObj r).bind _) Z _;rw[Ad];refine⟨_,.inr (lZ6 hi),rfl,?_⟩;show wpS C.P Y ((Instr.checkKey false 10000 kt (.string k)).bind _) Z _;rw[Ad];refine Qo (m:=9999) hk ?_;show wpS C.P Y ((Instr.findKey kt (.string k) es.toList).bind _) Z _;rw[Ad];refine Qq hk hs (fun b=>?_) (fun a=>by rw[hn]at a;cases a);refine⟨rfl,i,_,hi,rfl,h _ _ ⟨fun en hen=>?_,fun k'=>?_⟩⟩
 ·rw[Bdk,Gv,Nh]at hen;rcases hen with hen|rfl
  ·exact hs.1 en hen
  ·exact⟨k,rfl,rfl⟩
 ·rw[Bdk,List.any_append,<-hs.2 k'];simp[Bool.or_comm]
def Su{α:Type}[Dat α](f:Value)(p:α->Bool):Prop :=
 ∃(k:FuncId) (fn:Func) (caps:List Value),f = .func (.func k) #[] caps.toArray/\Tryz.prog.funcs[k]?=some fn/\(fn.name == "runtime.NumGoroutine")=false/\fn.body.isNone=false /\
  ∀(mn:Bool) (X:Frame->List Frame->Ro->Own->Cy->Prop) (Y:Ro) (Z:Own) (v:Value) (x:α),Val Y v x->CallsH (CX mn X) k (v::caps).toArray Y Z (fun w Y' Z'=>Y'=Y/\Z'=Z/\w = .bool (p x))
theorem Ajp{α:Type}[Dat α]{mn:Bool}{X:Frame->List Frame->Ro->Own->Cy->Prop}{f:Value}{pr:α->Bool}{a:α}{tys:Array TypeId}(hf:Su f pr)(hx:Af e x=f)(hy:Af e y=v)(hv:Val Y v a)(h:K (.bool (pr a)) ds Y Z) :
  wpS (CX mn X).P Y (execOp (Af e) ⟨dd,.call ⟨.value x,#[y],tys⟩,ty,pos,af,g⟩) Z (NextH (CX mn X) K rd ds Y):=by
 obtain⟨k,fn,b,rfl,d,i,j,m⟩:=hf;have p:(#[y]:Array Operand).map (Af e) = #[v]:=by simp[hy]
 show wpS Tryz.prog Y ((Deferred.ofValue (Af e x) ((#[y]:Array Operand).map (Af e))).bind _) Z _;rw[hx,p];show wpS Tryz.prog Y (callFunc k ((#[] ++ #[v])++b.toArray)) Z _;have c:((#[] ++ #[v])++b.toArray:Array Value)=(v::b).toArray:=by simp
 rw[c];have n:=(m mn X Y Z v a hv).mono (R':=fun w Y' Z'=>K w ds Y' Z') (by rintro w Y' Z' ⟨rfl,rfl,rfl⟩;exact h);exact Mr (P:=Tryz.prog) d i j n
instance:Dat UInt8 where
 k:=1
 agg:=false
 rep _ cs x:=cs=[.int .u8 (x.toNat:Int)]
 mono _ h:=h
 len h:=by rw[h];rfl
 sgl h:=by rw[h];simp[single]
 one _:=rfl
theorem Uq{Y v}{x:UInt8}:Val Y v x↔v = .int .u8 (x.toNat:Int) :=
 ⟨fun⟨cs,a,b⟩=>by rw[b,show cs=[.int .u8 (x.toNat:Int)] from a];rfl,fun h=>⟨[v],by rw[h];rfl,rfl⟩⟩
theorem ty5:GoTy Tryz.prog 5 UInt8:=⟨⟨_,Cdy,rfl⟩,⟨_,Ab Cfa,rfl⟩⟩
theorem Aaf{P}{a:UInt8}(hT:GoTy P t UInt8)(hx:Af e x=p)(hp:At Y p a):Yld P Y e (.load t x) ty (.int .u8 (a.toNat:Int)):=by obtain⟨v,c,b⟩:=Ax (ty:=ty) hT hx hp;rw[Uq.1 c]at b;exact b
theorem Ug{Y:Ro}:∀(l:List UInt8),Rows Y (l.map fun c=>Value.int .u8 (c.toNat:Int)) l
 | []=>rfl
 | c::l=>⟨[_],_,rfl,rfl,Ug l⟩
theorem Alh{V Q bb nn r cap cs rs}{fz:Nat×Nat}{s:ByteArray}(hr:Rows Y cs s.data.toList)(hc:s.size<=cap)(hs:s.size<2^60)(h:∀Y',Ro.le Y Y'->Val Y' (.slice (some ⟨r,0,none⟩) s.size cap) s.data.toList->Ee C V bb nn l₀ rest Q e ds Y' Z):
  Ee C V bb nn l₀ rest Q e ds Y ((r,.obj (.cells (cs++rs).toArray 5 fz))::Z) :=
 Tu fun Y' hle hh=>h Y' hle (by
  have b:s.size=s.data.toList.length:=by rw[Array.length_toList];rfl
  rw[b];exact Zv hh (hr.mono hle) (by rw[<-b];exact hs) (by rw[<-b];exact hc))
theorem Amd{s}(hT:C.P.underlying t=some .string)(hT':C.P.underlying t'=some (.slice 5))(h5:C.P.underlying 5=some (.int .u8))(hx:Af e x = .string s)(hs:s.size<2^60)(h:∀r cap cs rs fz,Rows Y cs s.data.toList->s.size<=cap->K (.slice (some ⟨r,0,none⟩) s.size cap) ds Y ((r,.obj (.cells (cs++rs).toArray 5 fz))::Z)):
  wpS C.P Y (execOp (Af e) ⟨dd,.convert t t' x,ty,pos,af,g⟩) Z (NextH C K rd ds Y):=by
 show wpS C.P Y ((convert t t' (Af e x)).bind _) Z _;refine Gd ?_;rw[hx];show wpS C.P Y ((underlying t).bind _) Z _;rw[Ad];refine Az hT ?_;show wpS C.P Y ((underlying t').bind _) Z _;rw[Ad];refine Az hT' ?_;show wpS C.P Y ((underlying 5).bind _) Z _;rw[Ad];refine Az h5 ?_;show wpS C.P Y ((choose (.appendCap s.size 0 5)).bind _) Z _;rw[Ad];show (if (Question.appendCap s.size 0 5).forced then _ else ∀tt,_);rw[if_neg (by simp[Question.forced])];intro tt;have a:s.size<=(Question.appendCap s.size 0 5).cut tt:=by simp[Question.cut]
 generalize (Question.appendCap s.size 0 5).cut tt=nc at a;show wpS C.P Y ((newRow 5 ((s.data.map fun b=>Value.int .u8 b.toNat)++Array.replicate (nc-s.size) (.int .u8 0))).bind _) Z _;rw[Ad];refine Ik fun r=>?_;have d:((s.data.map fun (b:UInt8)=>Value.int .u8 (b.toNat:Int))++Array.replicate (nc-s.size) (Value.int .u8 0))=((s.data.toList.map fun (c:UInt8)=>Value.int .u8 (c.toNat:Int))++List.replicate (nc-s.size) (Value.int .u8 0)).toArray:=by
  apply Array.ext';simp
 rw[d];show wpS C.P Y ((markStringish ⟨r,0,none⟩).bind _) _ _;rw[Ad];show wpS C.P Y ((shape r).bind _) _ _;rw[Ad];refine⟨_,.inr mC,?_⟩;refine .inr ⟨by simp,0,_,_,0,0,rfl,?_⟩;exact h r nc _ _ _ (Ug _) a
end
end
section
section
variable{mn:Bool}{X:Frame->List Frame->Ro->Own->Cy->Prop}{b:FB}{n:Nat}{e:Env}{ds:List Deferred}{Y:Ro}{Z:Own}{K:Value->List Deferred->Ro->Own->Prop}{rd:Option Nat}{dd:Option Tmp}
variable{ty:TypeId}{pos:String}{af:Array Edge}{g:Option (Nat×Bool)}{x y:Operand}{v p:Value}{t t':TypeId}
theorem Afw{P}{l i:Nat}{L Q}(hi:Z[i]?=some (l,.obj (.loop L))){args}(hs:args.size=L.params.size)(h:Q (.round l L.fn ((L.params.zip args).foldl (fun tmps (t,a)=>tmps.setIfInBounds t a) L.tmps) L.assign L.body) Z):wpS P Y (Instr.yield l args) Z Q:=by show wpS P Y ((Instr.getLoop l).bind _) Z Q;rw[Ad];show wpS P Y ((getObj l).bind _) Z _;rw[Ad];refine⟨_,.inr (lZ6 hi),rfl,?_⟩;show wpS P Y (if args.size≠L.params.size then _ else _) Z Q;rw[if_neg (by simpa using hs)];exact h
theorem Vd{P k fn args}(h1:P.funcs[k]?=some fn)(h2:(fn.name == "runtime.NumGoroutine")=false)(h3:fn.body.isNone=false)(W:World)(es:Array Event):(callFunc k args).runT P W es=(.ok (.enter k args) W,es):=by show (program.bind _:Sem Next).runT P W es=_;rw[Sem.runT_bind'];show Sem.runT P (match P.funcs[k]? with|none=>_|some fn=>_) W es=_;rw[h1];simp only[h2,h3];rfl
theorem Abv{P main b tm ds f ps assign body k cs kk fn caps W W' lm es}(hr:b.round=none)(hk:b.kind = .normal)(hf:(Fr b tm ds (.code (.rangeFunc f ps assign body)::k)).eval f = .func (.func kk) #[] caps.toArray)(h1:P.funcs[kk]?=some fn)(h2:(fn.name == "runtime.NumGoroutine")=false)(h3:fn.body.isNone=false)(hrun:(Instr.enterLoop b.fn tm ps assign body none).runT P W #[]=(.ok lm W',es)):
  ∃es',stepG P main (Conc.G (Fr b tm ds (.code (.rangeFunc f ps assign body)::k)) cs) W = .go (Conc.G (Frame.enter P kk (Value.func (.yield lm.1) #[] #[]::caps).toArray .normal) (Fr b tm (lm.2++ds) (.inRangeFunc lm.1::k)::cs)) W' es'/\∀e∈es',Bfo es e:=by
 obtain⟨l,a⟩:=lm;have i:(b.kind==CallKind.early)=false:=by rw[hk];rfl
 have c:(Fr b tm (a++ds) (.inRangeFunc l::k)).eval f = .func (.func kk) #[] caps.toArray:=by
  rw[<-hf];cases f<;>rfl
 have hi:(do let d <-resolve (Fr b tm (a++ds) (.inRangeFunc l::k)).eval {callee:=.value f,args:=#[.const (.func (.yield l) #[] #[])],argTypes:=#[]} 0;invoke d.target d.args:Sem Next).runT P W' #[]=(.ok (.enter kk (Value.func (.yield l) #[] #[]::caps).toArray) W',#[]):=by
  generalize hfr:Fr b tm (a++ds) (.inRangeFunc l::k)=fr at c;have g:(do let d <-resolve fr.eval {callee:=.value f,args:=#[.const (.func (.yield l) #[] #[])],argTypes:=#[]} 0;invoke d.target d.args:Sem Next)=callFunc kk (Value.func (.yield l) #[] #[]::caps).toArray:=by
   show ((Deferred.ofValue (fr.eval f) ((#[.const (.func (.yield l) #[] #[])]:Array Operand).map fr.eval)).bind _)=_;rw[c];show callFunc kk ((#[]++((#[.const (.func (.yield l) #[] #[])]:Array Operand).map fr.eval))++caps.toArray)=_;congr 1;simp[Frame.eval]
  rw[g];exact Vd h1 h2 h3 W' #[]
 refine⟨seen P b.fn es++seen P b.fn #[],?_,fun ev he=>?_⟩
 ·simp only[Fr,hr]at hi;simp only[Conc.G,stepG,stepG.exec,Fr,hr,hrun,stepG.apply,if_true,hi,i,GStep.after];rfl
 ·rcases Array.mem_append.1 he with h|h
  ·exact Lh h
  ·have:=(Lh h).1;simp at this
theorem Vj{P fn tm ps assign body Q}(h:∀r l,Q (l,[{target:=.collected r,args:=#[]}]) ((l,.obj (.loop {state:=.ready,pending:=none,fn,tmps:=tm,params:=ps,assign,body,defers:=r}))::(r,.obj (.deferred (some [])))::Z)):
  wpS P Y (Instr.enterLoop fn tm ps assign body none) Z Q:=by show wpS P Y ((newObj (.deferred (some []))).bind _) Z Q;rw[Ad];refine .inl ⟨rfl,fun r=>?_⟩;show wpS P Y ((newObj (.loop {state:=.ready,pending:=none,fn,tmps:=tm,params:=ps,assign,body,defers:=r})).bind _) _ Q;rw[Ad];exact .inl ⟨rfl,fun l=>h r l⟩
theorem Zz{P l L Q Z}(hb:(L.state == .busy)=false)(h:Q L.pending ((l,.obj (.loop {L with state:=.exhausted}))::Z)):wpS P Y (Instr.endLoop l) ((l,.obj (.loop L))::Z) Q:=by show wpS P Y ((Instr.getLoop l).bind _) _ Q;rw[Ad];show wpS P Y ((getObj l).bind _) _ _;rw[Ad];refine⟨_,.inr mC,rfl,?_⟩;show wpS P Y (if L.state == .busy then _ else _) _ Q;rw[if_neg (by simp[hb])];exact⟨rfl,0,_,rfl,rfl,h⟩
end
end
section
section
variable{C:Ctx}{e:Env}{ds:List Deferred}{Y:Ro}{Z:Own}{K:Value->List Deferred->Ro->Own->Prop}{rd:Option Nat}{dd:Option Tmp}
variable{ty:TypeId}{pos:String}{af:Array Edge}{g:Option (Nat×Bool)}{x y:Operand}{v p:Value}{t t':TypeId}
theorem Ays{el z ti}{n:Nat}(hT:C.P.underlying t=some (.slice el))(hi:C.P.info? el=some ti)(hik:ti.size=1)(hib:ti.bytes<=1000)(hz:ti.zero=some z)(hzk:z.cells = #[z])(hx:Af e x = .int .i64 (n:Int))(hy:Af e y = .int .i64 (n:Int))(hn:n<1073741824)(h:∀r,K (.slice (some ⟨r,0,none⟩) n n) ds Y ((r,.obj (.cells (List.replicate n z).toArray el (0,0)))::Z)):
  wpS C.P Y (execOp (Af e) ⟨dd,.makeSlice t x y,ty,pos,af,g⟩) Z (NextH C K rd ds Y):=by
 show wpS C.P Y ((Instr.makeSlice t (Af e x) (Af e y)).bind _) Z _;refine Gd ?_;rw[hx,hy];have hw:IntKind.i64.wrap (n:Int)=(n:Int):=Bo rfl (by omega) (by omega);unfold Instr.makeSlice;show wpS C.P Y ((underlying t).bind _) Z _;rw[Ad];refine Az hT ?_;show wpS C.P Y ((typeInfo el).bind _) Z _;rw[Ad];refine Gj hi ?_;dsimp only;simp only[hw];have hb:(ti.bytes:Int)*n<=1073741824000:=by
  have d:ti.bytes*n<=1000*1073741824:=Anc hib (by omega);have f:((ti.bytes*n:Nat):Int)<=((1000*1073741824:Nat):Int):=Int.ofNat_le.2 d;rw[Int.natCast_mul]at f;omega
 rw[if_neg (by simp only[Awv,decide_eq_true_eq];omega)];simp only[Yk];show wpS C.P Y ((askRoom (n*ti.bytes)).bind _) Z _;rw[Ad];have j:∀{Q:Unit->Own->Prop} {Z':Own},Q () Z'->wpS C.P Y (askRoom (n*ti.bytes)) Z' Q:=fun hq=>by
  unfold askRoom;split
  ·exact⟨rfl,hq⟩
  ·exact hq
 refine j ?_;show wpS C.P Y ((sizeOf el).bind _) Z _;rw[Ad];refine Dx ⟨ti,hi,hik⟩ ?_;split
 ·rename_i h0;have c:n=0:=by omega
  subst c;have a:∀zz:Array Value,((Array.range (0*1)).map fun i=>zz[i%zz.size]!)=(List.replicate 0 z).toArray:=fun zz=>by apply Array.ext';simp
  show wpS C.P Y ((newRow el ((Array.range (0*1)).map fun i=>(#[]:Array Value)[i%(#[]:Array Value).size]!)).bind _) Z _;rw[a,Ad];exact Ik fun r=>h r
 ·show wpS C.P Y ((zeroValue el).bind _) Z _;rw[Ad];refine Jz ⟨ti,hi,hz⟩ ?_;show wpS C.P Y ((newRow el ((Array.range (n*1)).map fun i=>z.cells[i%z.cells.size]!)).bind _) Z _;have b:((Array.range (n*1)).map fun i=>z.cells[i%z.cells.size]!)=(List.replicate n z).toArray:=by
   rw[hzk];apply Array.ext';simp only[Bmu,Aqt,Array.toList_range,Aiy,Gb,Nx,Qz,Nat.mod_one,List.map_const',Bdn];simp
  rw[b,Ad];exact Ik fun r=>h r
theorem Bbx{el:TypeId}{ti:TypeInfo}{n:Nat}(hT:C.P.underlying t=some (.slice el))(hi:C.P.info? el=some ti)(hik:ti.size=1)(hib:ti.bytes<=1000)(hz:ti.zero=some (.int .i64 0))
  (hx:Af e x = .int .i64 (n:Int)) (hy:Af e y = .int .i64 (n:Int)) (hn:n<1073741824) (h:∀r,K (.slice (some ⟨r,0,none⟩) n n) ds Y ((r,.obj (.cells ((List.replicate n (0:Int)).map (Value.int .i64)).toArray el (0,0)))::Z)) :
  wpS C.P Y (execOp (Af e) ⟨dd,.makeSlice t x y,ty,pos,af,g⟩) Z (NextH C K rd ds Y) :=
 Ays hT hi hik hib hz rfl hx hy hn fun r=>by have:=h r;rw[List.map_replicate]at this;exact this
end
end
section
theorem Span.open_{Y v}{x:Span}(h:Val Y v x):v = .agg #[.int .i64 x.low,.int .i64 x.high]/\I64 x.low/\I64 x.high:=by obtain⟨cs,⟨f,g,e,⟨a,c⟩,⟨b,d⟩⟩,hv⟩:=h;subst e;subst a;subst b;exact⟨hv,c,d⟩
theorem Span.shut{Y}{x:Span}(h0:I64 x.low)(h1:I64 x.high):Val Y (.agg #[.int .i64 x.low,.int .i64 x.high]) x:=⟨[.int .i64 x.low,.int .i64 x.high],⟨[.int .i64 x.low],[.int .i64 x.high],rfl,⟨rfl,h0⟩,⟨rfl,h1⟩⟩,rfl⟩
end
section
open Go Go.Conc
open Go.ConcN (sumTo sumTo_upd upd_ne upd_same)
def Amv(P:Program)(c:Nat)(v z:Value)(fr:Frame)(cs:List Frame):Prop :=
 ∀W,stepG P false (G fr cs) W = .comm (G fr cs) #[scase c v z] true .send W #[]
def Acm(P:Program)(c:Nat)(fr:Frame)(cs:List Frame):Prop :=
 mayWake P (G fr cs)=true/\∃n g',QuitsIn P n g'/\∀W s r tm,W.heap[c]?=some (.chan 0 #[] false s r tm) ->
  stepG P false (G fr cs) W = .go g' (W.setChan c 0 #[] true s r tm) #[⟨.obj c,false,true⟩,⟨.obj c,true,true⟩]
def noX:Frame->List Frame->Ro->Own->Cy->Prop:=fun _ _ _ _ _=>False
def Wn(P:Program):Ctx:=⟨P,false,noX⟩
inductive SendI(P:Program)(c:Nat):List Value->Frame->List Frame->Ro->Own->Prop
 | ghost {vs fr cs Y Z Y' Z'}:Ghost Y Z Y' Z'->SendI P c vs fr cs Y' Z'->SendI P c vs fr cs Y Z
 | step {vs fr cs Y Z} (K:Frame->List Frame->Own->Prop):Aal (Wn P) fr cs Y Z K->(∀fr' cs' Z',K fr' cs' Z'->SendI P c vs fr' cs' Y Z')->SendI P c vs fr cs Y Z
 | send {v vs z fr cs Y Z}:Amv P c v z fr cs->SendI P c vs (fr.finish undef) cs Y Z->SendI P c (v::vs) fr cs Y Z
 | close {fr cs Y Z}:Acm P c fr cs->SendI P c [] fr cs Y Z
theorem SendI.of_goes{P c vs S fr cs Y Z}(h:GoesH (Wn P) S fr cs Y Z)(hk:∀fr cs Y Z,S fr cs Y Z->SendI P c vs fr cs Y Z):SendI P c vs fr cs Y Z:=by
 induction h with
 | stop h=>exact hk _ _ _ _ h
 | ghost hg _ ih=>exact .ghost hg ih
 | step K h1 _ ih=>exact .step K h1 ih
 | ext K h1 _ _=>exact h1.elim
structure NoRecv(Z:Own):Prop where
 recv:∀c vs,(c,Res.recv vs)∉Z
 crowd:∀c k Rs,(c,Res.crowd k Rs)∈Z->Rs=[]
theorem NoRecv.nil:NoRecv []:=⟨fun _ _ h=>(by cases h),fun _ _ _ h=>(by cases h)⟩
theorem NoRecv.of{Z Z':Own}(h:NoRecv Z)(hs:∀p∈Z',p∈Z∨(∃o,p.2=Res.obj o)∨p.2 = .chan):NoRecv Z' :=
  ⟨fun c vs hc => (hs _ hc).elim (h.recv c vs) fun a => a.elim (fun⟨o, a⟩ => by cases a) (fun a => by cases a),
   fun c k Rs hc=>(hs _ hc).elim (h.crowd c k Rs) fun a=>a.elim (fun⟨o,a⟩=>by cases a) fun a=>by cases a⟩
theorem Jb{Z k o}(h:NoRecv Z):NoRecv ((k,Res.obj o)::Z):=h.of fun p hp=>(lZ8.1 hp).elim (fun e=>.inr (.inl ⟨o,by rw[e]⟩)) .inl
theorem NoRecv.trans{Y:Ro}{Z Z':Own}{W W':World}(h:NoRecv Z)(ht:Trans Y Z W Z' W'):NoRecv Z' :=
 ⟨fun c vs hc=>h.recv c vs ((ht.ends _ _).1 hc),fun c k Rs hc=>(ht.crowds c k Rs hc).elim (h.crowd c k Rs) fun x=>x.2⟩
theorem NoRecv.ghost{Y Y':Ro}{Z Z':Own}(h:NoRecv Z)(hg:Ghost Y Z Y' Z'):NoRecv Z' :=
 ⟨fun c vs hc=>h.recv c vs ((hg.ends _ _).1 hc),fun c k Rs hc=>h.crowd c k Rs (hg.crowds c k Rs hc)⟩
def Gg(P:Program)(d:Deferred):Frame:={(default:Frame) with fn:=P.funcs.size,defers:=[d],mode:=.panicking [goexitEntry]}
def Sv(P:Program)(c:Nat)(z:Value)(fr:Frame)(cs:List Frame):Prop :=
 ∀W,stepG P true (G fr cs) W = .comm (G fr cs) #[rcase c z] true (.recv true) W #[]
def Is(g:Goroutine)(fr:Frame)(cs:List Frame):Prop:=g.status = .running/\g.frame=fr/\g.callers=cs/\g.dying=none
theorem Is.step{P main g fr cs}(h:Is g fr cs)(W:World):stepG P main g W=stepG P main (G fr cs) W :=
 stepG_same h.2.1 h.2.2.1 h.2.2.2 W
theorem Is.of(fr:Frame)(cs:List Frame):Is (G fr cs) fr cs:=⟨rfl,rfl,rfl,rfl⟩
theorem Is.served{fr cs g}(h:Is g fr cs)(v:Value):Is (Conc.served g v) (fr.finish v) cs:=⟨rfl,by simp[Conc.served,h.2.1],h.2.2.1,h.2.2.2⟩
def Acc(Y:Ro)(Z:Own)(k:Nat)(wr:Bool):Prop:=(∃o,(k,Res.obj o)∈Z)∨(wr=false/\(Y k).isSome=true)
def Lx:Loc->Option Nat
 | .cell a=>some a.block
 | .obj r=>some r
 | _=>none
def Akj(Y:Ro)(Z:Own)(b:Touch):Prop:=b.kind = .plain/\∃k,Lx b.loc=some k/\Acc Y Z k b.write
theorem Abe{Y Z es}(h:∀e∈es,Acx Y Z e)(g:Nat)(fn:FuncId)(pos:String):
  Wordless (MemOp.ofEvents g fn pos es)/\∀op∈MemOp.ofEvents g fn pos es,op.g=g/\∀b,op.act.touch?=some b->Akj Y Z b:=by
 rw[ofEvents_eq];refine⟨fun op hop=>?_,fun op hop=>?_⟩<;>obtain⟨e,he,rfl⟩:=Array.mem_map.1 hop
 ·refine ofEvent_noMark fun m hm=>?_;rcases h e he with⟨a,c,_⟩|⟨r,c,_⟩|⟨m',c,d⟩
  ·rw[c]at hm;cases hm
  ·rw[c]at hm;cases hm
  ·rw[c]at hm;cases hm;exact d
 ·refine⟨rfl,fun b hb=>?_⟩;obtain⟨loc,wr,sy⟩:=e;rcases h _ he with⟨a,c,d,f⟩|⟨r,c,d,f⟩|⟨m',c,d⟩
  ·simp only at c d;subst c d;have hb':some (⟨.cell a,wr,.plain⟩:Touch)=some b:=hb;cases hb';exact⟨rfl,a.block,rfl,f⟩
  ·simp only at c d;subst c d;have hb':some (⟨.obj r,wr,.plain⟩:Touch)=some b:=by cases wr<;>exact hb
   cases hb';exact⟨rfl,r,rfl,f⟩
  ·simp only at c;subst c;have i:MemAct.ofEvent ⟨.mark m',wr,sy⟩ = .mark m':=by cases wr<;>cases sy<;>rfl
   simp only[i,d.touch]at hb;cases hb
theorem Ni{said t u}(h:¬Race said t)(hu:∀op∈u,op.act.touch?=none):¬Race said (t++u):=by
 rintro⟨i,j,hij,⟨a,b,ha,hb,hc⟩,c,d⟩;obtain⟨x,hx,hxa⟩:=touch_of ha;obtain⟨y,hy,hyb⟩:=touch_of hb;rcases getElem?_append_cases hy with⟨hj,hy'⟩|⟨hj,hyu⟩
 ·have hi:i<t.size:=Nat.lt_trans hij hj;have hx':t[i]?=some x:=by rw[<-getElem?_append_old (u:=u) hi];exact hx
  exact h ⟨i,j,hij,⟨a,b,by simp[Trace.act?,hx',hxa],by simp[Trace.act?,hy',hyb],hc⟩,fun e=>c (hb_app u e),fun e=>d (hb_app u e)⟩
 ·rw[hu y hyu]at hyb;cases hyb
structure TA(t:Trace):Prop where
 wl:Wordless t
 clean:∀said,¬Race said t
 known:∀i a,touchAt t i=some a->a.loc.isMemory=true->Knows t 0 i
theorem Di{t u i a}(h:touchAt (t++u) i=some a):touchAt t i=some a∨∃op,(t++u)[i]?=some op/\op∈u/\op.act.touch?=some a/\t.size<=i:=by
 obtain⟨x,hx,hxa⟩:=touch_of h;rcases getElem?_append_cases hx with⟨_,hx'⟩|⟨hge,hxu⟩
 ·exact .inl (by rw[touchAt_of hx'];exact hxa)
 ·exact .inr ⟨x,hx,hxu,hxa,hge⟩
theorem TA.own{t u}(h:TA t)(hw:Wordless u)(hu:∀op∈u,op.g=0):TA (t++u):=by
 refine⟨h.wl.append hw,fun c=>noRace_append (h.clean c) hu fun i a ha op _ b _ hc=>h.known i a ha hc.2.1,fun i a ha hm=>?_⟩;rcases Di ha with h1|⟨op,h1,h2,_,_⟩
 ·exact(h.known i a h1 hm).app u
 ·have:=knows_own h1;rwa[hu op h2]at this
theorem TA.nil:TA #[]:=by
 refine⟨fun op hop=>by simp at hop,fun c ⟨i,j,_,⟨a,b,ha,_⟩,_⟩=>?_,fun i a ha=>?_⟩
 ·simp[Trace.act?]at ha
 ·simp[touchAt,Trace.act?]at ha
theorem TA.handed{t}(h:TA t):t.HandedOver:=by intro i g hg hne ⟨x,hx,hm,_⟩;obtain⟨q,z,a,b,c⟩:=h.known i x hx hm;refine⟨q,by simp[Trace.g?,a,b],c.resolve_left ?_⟩;rintro rfl;simp[Trace.g?,a,b]at hg;exact hne hg.symm
def Th(A Sh:Nat->Prop)(c:Nat)(a:Touch):Prop :=
 (a.kind = .plain/\∃k,Lx a.loc=some k/\(A k∨(a.write=false/\Sh k)))∨(a.loc = .obj c/\a.kind = .atomic)
structure TB(t:Trace)(j c:Nat)(Am Aw Sh:Nat->Prop):Prop where
 wl:Wordless t
 clean:∀said,¬Race said t
 k0:∀i a,touchAt t i=some a->a.loc.isMemory=true->Knows t 0 i∨((∃op,t[i]?=some op/\op.g=j)/\Th Aw Sh c a)
 kj:∀i a,touchAt t i=some a->a.loc.isMemory=true->Knows t j i∨Th Am Sh c a
theorem Ul{A B Sh:Nat->Prop}{c a b said}(hd:∀k,A k->B k->False)(hA:∀k,A k->Sh k->False)(hB:∀k,B k->Sh k->False)(hc:¬B c/\¬Sh c)(ha:Th A Sh c a)(hb:b.kind = .plain/\∃k,Lx b.loc=some k/\(B k∨(b.write=false/\Sh k)))(h:a.conflicts said b):False:=by
 obtain⟨hl,_,hwr,_⟩:=h;obtain⟨_,k',hk',hb⟩:=hb;rcases ha with⟨_,k,hk,ha⟩|ha
 ·rw[hl,hk']at hk;cases hk;rcases ha with ha|⟨ha1,ha2⟩<;>rcases hb with hb|⟨hb1,hb2⟩
  ·exact hd _ ha hb
  ·exact hA _ ha hb2
  ·exact hB _ hb ha2
  ·rcases hwr with h|h
   ·rw[ha1]at h;cases h
   ·rw[hb1]at h;cases h
 ·rw[<-hl,ha.1]at hk';cases hk';rcases hb with hb|⟨_,hb⟩
  ·exact hc.1 hb
  ·exact hc.2 hb
section
variable{t u:Trace}{j c:Nat}{Am Aw Sh Am' Aw':Nat->Prop}
theorem Th.mono{A A'}(h:∀k,A k->A' k){a}(ha:Th A Sh c a):Th A' Sh c a :=
 ha.imp (fun⟨b,k,d,e⟩=>⟨b,k,d,e.imp (h k) id⟩) id
theorem TB.main(h:TB t j c Am Aw Sh)(hj:j≠0)(hsub:∀k,Am k->Am' k)(hd:∀k,Aw k->Am' k->False)(hS:∀k,Am' k->Sh k->False)(hS':∀k,Aw k->Sh k->False)(hc:¬Am' c/\¬Sh c)
  (hw:Wordless u) (hu:∀op∈u,op.g=0/\∀b,op.act.touch?=some b->b.kind = .plain/\∃k,Lx b.loc=some k/\(Am' k∨(b.write=false/\Sh k))):TB (t++u) j c Am' Aw Sh:=by
 refine⟨h.wl.append hw,fun d=>noRace_append (h.clean d) (fun op hop=>(hu op hop).1) fun i a ha op hop b hb hcf=>?_,fun i a ha hm=>?_,fun i a ha hm=>?_⟩
 ·rcases h.k0 i a ha hcf.2.1 with h1|⟨_,h1⟩
  ·exact h1
  ·exact(Ul hd hS' hS hc h1 ((hu op hop).2 b hb) hcf).elim
 ·rcases Di ha with h1|⟨op,h1,h2,_,_⟩
  ·rcases h.k0 i a h1 hm with h3|⟨⟨op,h4,h5⟩,h3⟩
   ·exact .inl (h3.app u)
   ·exact .inr ⟨⟨op,by rw[getElem?_append_old (lt_size_of_getElem? h4)];exact h4,h5⟩,h3⟩
  ·have:=knows_own h1;rw[(hu op h2).1]at this;exact .inl this
 ·rcases Di ha with h1|⟨op,h1,h2,h3,hge⟩
  ·exact(h.kj i a h1 hm).imp (·.app u) (·.mono hsub)
  ·exact .inr (.inl ((hu op h2).2 a h3))
theorem TB.work(h:TB t j c Am Aw Sh)(hsub:∀k,Aw k->Aw' k)(hd:∀k,Am k->Aw' k->False)(hS:∀k,Aw' k->Sh k->False)(hS':∀k,Am k->Sh k->False)(hc:¬Aw' c/\¬Sh c)
  (hw:Wordless u) (hu:∀op∈u,op.g=j/\∀b,op.act.touch?=some b->b.kind = .plain/\∃k,Lx b.loc=some k/\(Aw' k∨(b.write=false/\Sh k))):TB (t++u) j c Am Aw' Sh:=by
 refine⟨h.wl.append hw,fun d=>noRace_append (h.clean d) (fun op hop=>(hu op hop).1) fun i a ha op hop b hb hcf=>?_,fun i a ha hm=>?_,fun i a ha hm=>?_⟩
 ·rcases h.kj i a ha hcf.2.1 with h1|h1
  ·exact h1
  ·exact(Ul hd hS' hS hc h1 ((hu op hop).2 b hb) hcf).elim
 ·rcases Di ha with h1|⟨op,h1,h2,h3,hge⟩
  ·rcases h.k0 i a h1 hm with h3|⟨⟨op,h4,h5⟩,h3⟩
   ·exact .inl (h3.app u)
   ·exact .inr ⟨⟨op,by rw[getElem?_append_old (lt_size_of_getElem? h4)];exact h4,h5⟩,h3.mono hsub⟩
  ·exact .inr ⟨⟨op,h1,(hu op h2).1⟩,.inl ((hu op h2).2 a h3)⟩
 ·rcases Di ha with h1|⟨op,h1,h2,_,_⟩
  ·exact(h.kj i a h1 hm).imp (·.app u) id
  ·have:=knows_own h1;rw[(hu op h2).1]at this;exact .inl this
theorem TB.mute(h:TB t j c Am Aw Sh)(hw:Wordless u)(hu:∀op∈u,op.act.touch?=none):TB (t++u) j c Am Aw Sh:=by
 refine⟨h.wl.append hw,fun b=>Ni (h.clean b) hu,fun i a ha hm=>?_,fun i a ha hm=>?_⟩
 ·rcases Di ha with h1|⟨op,_,h2,h3,_⟩
  ·rcases h.k0 i a h1 hm with h3|⟨⟨op,h4,h5⟩,h3⟩
   ·exact .inl (h3.app u)
   ·exact .inr ⟨⟨op,by rw[getElem?_append_old (lt_size_of_getElem? h4)];exact h4,h5⟩,h3⟩
  ·rw[hu op h2]at h3;cases h3
 ·rcases Di ha with h1|⟨op,_,h2,h3,_⟩
  ·exact(h.kj i a h1 hm).imp (·.app u) id
  ·rw[hu op h2]at h3;cases h3
theorem TA.fork(h:TA t)(hj:j≠0){x y}(hx:x.g=0/\x.act = .go j)(hy:y.g=j/\y.act = .start):TB ((t.push x).push y) j c Am (fun _=>False) Sh:=by
 have e:(t.push x).push y=t ++ #[x,y]:=by rw[Bdc,Bdc,Array.append_assoc];rfl
 have d:∀op ∈ #[x,y],op.act.touch?=none:=fun op hop=>by
  have:op=x∨op=y:=by simpa using hop
  rcases this with rfl|rfl
  ·rw[hx.2];rfl
  ·rw[hy.2];rfl
 have hwl:Wordless #[x,y]:=fun op hop m hm=>by
  have:op=x∨op=y:=by simpa using hop
  rcases this with rfl|rfl
  ·rw[hx.2]at hm;cases hm
  ·rw[hy.2]at hm;cases hm
 rw[e];have f:=h.wl.append hwl;have k:(t ++ #[x,y])[t.size]?=some x:=by rw[Amx (Ib _)];simp
 have b:(t ++ #[x,y])[t.size+1]?=some y:=by rw[Amx (Nat.le_succ _)];simp
 have hsp:HappensBefore (t ++ #[x,y]) t.size (t.size+1):=.single (.inr ⟨.spawn (child:=j) (by simp[Trace.act?,k,hx.2]) (by simp[Trace.act?,b,hy.2]) (by simp[Trace.g?,b,hy.1]),f.heard k,f.heard b⟩);refine⟨f,fun p=>Ni (h.clean p) d,fun i a ha hm=>?_,fun i a ha hm=>?_⟩
 ·rcases Di ha with h1|⟨op,_,h2,h3,_⟩
  ·exact .inl ((h.known i a h1 hm).app _)
  ·rw[d op h2]at h3;cases h3
 ·rcases Di ha with h1|⟨op,_,h2,h3,_⟩
  ·obtain⟨q,z,hq,hz,hb⟩:=h.known i a h1 hm;have hlt:=lt_size_of_getElem? hq;have n:HappensBefore (t ++ #[x,y]) q t.size:=hb_po hlt (by rw[getElem?_append_old hlt];exact hq) k (hz.trans hx.1.symm);exact .inl ⟨t.size+1,y,b,hy.1,.inr ((hb.app _).hb (n.trans hsp))⟩
  ·rw[d op h2]at h3;cases h3
structure TC(t:Trace)(j c pc:Nat)(Aw Sh:Nat->Prop):Prop where
 wl:Wordless t
 clean:∀said,¬Race said t
 at_:∃op,t[pc]?=some op/\op.g=j/\op.act = .close c
 k0:∀i a,touchAt t i=some a->a.loc.isMemory=true->Knows t 0 i∨(Before t i pc/\Th Aw Sh c a)
theorem TB.close(h:TB t j c Am Aw Sh)(fn:FuncId)(pos:String)(hcm:¬Am c/\¬Sh c) :
  ∃pc,TC (t++MemOp.ofEvents j fn pos #[⟨.obj c,false,true⟩,⟨.obj c,true,true⟩]) j c pc Aw Sh:=by
 have q:MemOp.ofEvents j fn pos #[⟨.obj c,false,true⟩,⟨.obj c,true,true⟩] = #[{g:=j,fn,pos,act:=.access ⟨.obj c,false,true⟩},{g:=j,fn,pos,act:=.close c}]:=by
  rw[ofEvents_eq];simp[MemAct.ofEvent]
 rw[q];generalize hxx:({g:=j,fn,pos,act:=.access ⟨.obj c,false,true⟩}:MemOp)=x;generalize hyy:({g:=j,fn,pos,act:=.close c}:MemOp)=y;have hwl:Wordless #[x,y]:=fun op hop m hm=>by
  have:op=x∨op=y:=by simpa using hop
  rcases this with rfl|rfl
  ·subst hxx;cases hm
  ·subst hyy;cases hm
 have u:=h.wl.append hwl;have v:(t ++ #[x,y])[t.size]?=some x:=by rw[Amx (Ib _)];simp
 have n:(t ++ #[x,y])[t.size+1]?=some y:=by rw[Amx (Nat.le_succ _)];simp
 have hg:∀op ∈ #[x,y],op.g=j:=fun op hop=>by
  have:op=x∨op=y:=by simpa using hop
  rcases this with rfl|rfl
  ·subst hxx;rfl
  ·subst hyy;rfl
 have p:∀op ∈ #[x,y],∀b,op.act.touch?=some b->b=⟨.obj c,false,.atomic⟩:=fun op hop b hb=>by
  have:op=x∨op=y:=by simpa using hop
  rcases this with rfl|rfl
  ·subst hxx;have hb':some (⟨.obj c,false,.atomic⟩:Touch)=some b:=hb;cases hb';rfl
  ·subst hyy;cases hb
 refine⟨t.size+1,u,fun w=>noRace_append (h.clean w) hg fun i a ha op hop b hb hcf=>?_,⟨y,n,by subst hyy;rfl,by subst hyy;rfl⟩,fun i a ha hm=>?_⟩
 ·rcases h.kj i a ha hcf.2.1 with e|e
  ·exact e
  ·exfalso;rw[p op hop b hb]at hcf;obtain⟨hl,_,hwr,hk⟩:=hcf;rcases e with⟨e,k,f,d⟩|e
   ·rw[hl]at f;cases f;rcases d with d|⟨_,d⟩
    ·exact hcm.1 d
    ·exact hcm.2 d
   ·rw[e.2]at hk;rcases hk with hk|hk|⟨_,hk,_⟩<;>cases hk
 ·rcases Di ha with e|⟨op,e,f,d,hge⟩
  ·rcases h.k0 i a e hm with d|⟨⟨op,h4,h5⟩,d⟩
   ·exact .inl (d.app _)
   ·have hlt:=lt_size_of_getElem? h4;exact .inr ⟨.inr (hb_po (by omega) (by rw[getElem?_append_old hlt];exact h4) n (by rw[h5];subst hyy;rfl)),d⟩
  ·refine .inr ⟨?_,.inr (by rw[p op f a d];exact⟨rfl,rfl⟩)⟩;have hi:i=t.size∨i=t.size+1:=by
    have:=lt_size_of_getElem? e;simp at this;omega
   rcases hi with rfl|rfl
   ·exact .inr (hb_po (by omega) v n (by subst hxx hyy;rfl))
   ·exact .inl rfl
end
end
section
open Go Go.Conc Go.RowKit
open Go.ConcN (sumTo sumTo_upd upd_ne upd_same)
theorem Fo{P g g' b w'}(h:b.status = .running∨b.status = .finished):woken P g g' w' b=b:=by
 unfold Go.Conc.woken;split
 ·exact again_running _ h
 ·rfl
section
variable{P:Program}{Pst:Value->World->Prop}
def My(P:Program)(Pst:Value->World->Prop)(m:Machine)(t:Trace):Prop :=
 ∃N last o w' t',runNT P (N+1) m t=(.ended o w',t')/\runN P N m = .next last/\step P last = .ended o w'/\Go.Conc.Good P Pst last o w' t'
theorem Aft{m m' t ops}(hs:stepT P m=(.next m',ops))(h:My P Pst m' (t++ops)):My P Pst m t:=by obtain⟨N,e,o,w',t',a,b,c,d⟩:=h;exact⟨N+1,e,o,w',t',by rw[runNT_succ_next hs];exact a,by rw[runN_succ_next hs];exact b,c,d⟩
theorem Ajq{m t ops o w'}(hs:stepT P m=(.ended o w',ops))(h:Go.Conc.Good P Pst m o w' (t++ops)):My P Pst m t :=
 ⟨0,m,o,w',t++ops,by simp[runNT,hs],rfl,by simp[step,hs],h⟩
def Out(P:Program)(Pst:Value->World->Prop)(gs:Array Goroutine)(t:Trace)(r:Stepped×Array MemOp):Prop :=
 (∃M ops,r=(.next M,ops)/\My P Pst M (t++ops))∨(∃o wE ops,r=(.ended o wE,ops)/\∀w sl,Go.Conc.Good P Pst (crowd gs w sl) o wE (t++ops))
theorem Jn{gs w sl t}(ha:∀g∈gs,awake g)(hr:∃(i:Nat) (g:Goroutine),gs[i]?=some g/\g.status = .running)(h:∀(i:Nat) (g:Goroutine) (d:Nat) (sl':Option (Nat×Nat)),gs[i]?=some g->g.status = .running->Out P Pst gs t (runT P (crowd gs (w.at d) sl') i)):My P Pst (crowd gs w sl) t:=by
 obtain⟨i,g,d,sl',hi,hg,hst⟩:=crowd_pick (P:=P) (w:=w) (sl:=sl) ha hr;rcases h i g d sl' hi hg with⟨M,ops,a,b⟩|⟨o,wE,ops,a,b⟩
 ·exact Aft (hst.trans a) b
 ·exact Ajq (hst.trans a) (b w sl)
def Akn(P:Program)(gs:Array Goroutine)(q:Nat->Nat):Prop:=∀i g,i≠0->gs[i]?=some g->QuitsIn P (q i) g
theorem Qd{gs q}(h:Akn P gs q){g0}(h0:gs[0]?=some g0)(hr:awake g0):∀g∈gs,awake g:=by
 intro g hg;obtain⟨i,hi⟩:=Bme hg;by_cases hi0:i=0
 ·subst hi0;rw[h0]at hi;cases hi;exact hr
 ·rcases (h i g hi0 hi).status with hs|hs<;>intro t e<;>rw[hs]at e<;>cases e
theorem Ip{g}(h:g.status = .running):awake g:=fun t e=>by rw[h]at e;cases e
theorem Hf{gs w sl}{q:Nat->Nat}{i g}(hi:gs[i]?=some g)(hi0:i≠0)(hg:g.status = .running)(hq:QuitsIn P (q i) g):
  ∃g' k,q i=k+1/\QuitsIn P k g'/\runT P (crowd gs w sl) i=(.next (crowd ((gs.map (woken P g g' w)).setIfInBounds i g') w sl),#[]):=by
 cases hk:q i with
 | zero=>rw[hk]at hq;rw[show g.status = .finished from hq]at hg;cases hg
 | succ k =>
  rw[hk]at hq;rcases hq with hq|⟨_,g',hst,hq⟩
  ·rw[hq]at hg;cases hg
  ·have hb:(i==0)=false:=by simpa using hi0
   exact⟨g',k,rfl,hq,by rw[runT_crowd_go hi (by rw[hb];exact hst w)];rfl⟩
theorem Jv{gs:Array Goroutine}{i j:Nat}{f:Goroutine->Goroutine}{g' x:Goroutine}(h:((gs.map f).setIfInBounds i g')[j]?=some x):(j=i/\x=g')∨(j≠i/\∃y,gs[j]?=some y/\x=f y):=by
 by_cases hj:i=j
 ·subst hj;by_cases hlt:i<(gs.map f).size
  ·rw[Btg hlt]at h;exact .inl ⟨rfl,(Option.some.inj h).symm⟩
  ·rw[Bhf (by simpa using hlt)]at h;cases h
 ·rw[Bhd hj,Bdh]at h;obtain⟨y,hy,rfl⟩:=Option.map_eq_some_iff.1 h;exact .inr ⟨Ne.symm hj,y,hy,rfl⟩
theorem Ei{gs:Array Goroutine}{i j:Nat}{f:Goroutine->Goroutine}{g' y:Goroutine}(hj:j≠i)(h:gs[j]?=some y):((gs.map f).setIfInBounds i g')[j]?=some (f y):=by rw[Bhd (Ne.symm hj),Bdh,h];rfl
theorem Lf{gs:Array Goroutine}{i:Nat}{f:Goroutine->Goroutine}{g' y:Goroutine}(h:gs[i]?=some y):((gs.map f).setIfInBounds i g')[i]?=some g':=by have hlt:=(Agh.1 h).1;rw[Btg (by simpa using hlt)]
theorem Yg{g0 t}{w:World}{sz}(hg0:g0.status = .running)(hmain:∀gs q d sl,gs[0]?=some g0->gs.size=sz->Akn P gs q->Out P Pst gs t (runT P (crowd gs (w.at d) sl) 0)):
  ∀(m:Nat) (gs:Array Goroutine) (d:Nat) (sl:Option (Nat×Nat)) (q:Nat->Nat),sumTo gs.size q<=m->gs.size=sz->gs[0]?=some g0->Akn P gs q->My P Pst (crowd gs (w.at d) sl) t:=by
 intro m;induction m with
 | zero =>
  intro gs d sl q hm hsz b ho;refine Jn (Qd ho b (Ip hg0)) ⟨0,g0,b,hg0⟩ fun i g d' sl' hi hg=>?_;by_cases hi0:i=0
  ·subst hi0;exact hmain gs q d' sl' b hsz ho
  ·obtain⟨g',k,hk,_⟩:=Hf (w:=w) (sl:=sl) hi hi0 hg (ho i g hi0 hi);have:=Go.ConcN.le_sumTo (f:=q) (Agh.1 hi).1;omega
 | succ m ih =>
  intro gs d sl q hm hsz b ho;refine Jn (Qd ho b (Ip hg0)) ⟨0,g0,b,hg0⟩ fun i g d' sl' hi hg=>?_;by_cases hi0:i=0
  ·subst hi0;exact hmain gs q d' sl' b hsz ho
  ·obtain⟨g',k,hk,hq,n⟩:=Hf (w:=w.at d') (sl:=sl') hi hi0 hg (ho i g hi0 hi);have c:=sumTo_upd q k id (Agh.1 hi).1;refine .inl ⟨_,_,n,?_⟩;rw[Aea];refine ih _ d' sl' (Go.ConcN.upd q i k) ?_ (by simpa using hsz) ?_ ?_
   ·simp only[id]at c;simp only[Awz,Array.size_map];have e:sumTo gs.size (fun a=>Go.ConcN.upd q i k a)=sumTo gs.size (Go.ConcN.upd q i k):=rfl;have h:sumTo gs.size (fun a=>q a)=sumTo gs.size q:=rfl;rw[e,h,hk]at c;omega
   ·rw[Ei (Ne.symm hi0) b,Fo (.inl hg0)]
   ·intro j x hj hx;rcases Jv hx with⟨rfl,rfl⟩|⟨hji,y,hy,rfl⟩
    ·rw[upd_same];exact hq
    ·have hqj:=ho j y hj hy;rw[Fo hqj.status,upd_ne q k hji];exact hqj
end
structure PhB(P:Program)(W0:World)(fr:Frame)(cs:List Frame)(Y:Ro)(Z:Own)(c:Nat)(vs:List Value)(fw:Frame)(cw:List Frame)(ρw:Ro)(σw:Own)(j:Nat)(Am Aw Sh:Nat->Prop)(mp:Option Value)(wp:Option (Value×Value))
  (gs:Array Goroutine) (w:World) (t:Trace) (q:Nat->Nat):Prop where
 g0:mp=none->∃g,gs[0]?=some g/\Is g fr cs
 g0p:∀z,mp=some z->gs[0]?=some (parked (G fr cs) #[rcase c z] (.recv true))
 gj:wp=none->∃g,gs[j]?=some g/\Is g fw cw
 gjp:∀v z,wp=some (v,z)->gs[j]?=some (parked (G fw cw) #[scase c v z] .send)
 j0:j≠0
 oth:∀i g,i≠0->i≠j->gs[i]?=some g->QuitsIn P (q i) g
 sat:Sat Y Z w
 satw:Sat ρw σw w
 ch:∃s r tm,w.heap[c]?=some (.chan 0 #[] false s r tm)
 hc:(c,Res.recv vs)∈Z
 one:∀c' vs',(c',Res.recv vs')∈Z->c'=c
 nrw:NoRecv σw
 ncr:∀c k Rs,(c,Res.crowd k Rs)∈Z->Rs=[]
 newk:∀b∈keys Z,W0.heap.size<=b
 neww:∀b∈keys σw,W0.heap.size<=b
 below:Below W0.heap.size W0 w
 am:∀b r,(b,r)∈Z->(∀vs,r ≠ .recv vs)->Am b
 aw:∀b∈keys σw,Aw b
 rm:∀b,(Y b).isSome=true->Sh b∨Am b
 rw_:∀b,(ρw b).isSome=true->Sh b∨Aw b
 dmw:∀b,Am b->Aw b->False
 dms:∀b,Am b->Sh b->False
 dws:∀b,Aw b->Sh b->False
 ncm:¬Am c
 ncw:¬Aw c
 ncs:¬Sh c
 lt:∀b,Am b∨Aw b∨Sh b->b<w.heap.size
 tr:TB t j c Am Aw Sh
structure PhC(P:Program)(W0:World)(fr:Frame)(cs:List Frame)(Y:Ro)(Z:Own)(c:Nat)(j:Nat)(Am Aw Sh:Nat->Prop)(pc:Nat)(gs:Array Goroutine)(w:World)(t:Trace)(q:Nat->Nat):Prop where
 g0:∃g,gs[0]?=some g/\Is g fr cs
 oth:Akn P gs q
 sat:Sat Y Z w
 ch:∃s r tm,w.heap[c]?=some (.chan 0 #[] true s r tm)
 hc:(c,Res.recv [])∈Z
 one:∀c' vs',(c',Res.recv vs')∈Z->c'=c
 ncr:∀c k Rs,(c,Res.crowd k Rs)∈Z->Rs=[]
 newk:∀b∈keys Z,W0.heap.size<=b
 below:Below W0.heap.size W0 w
 am:∀b r,(b,r)∈Z->(∀vs,r ≠ .recv vs)->Am b
 rm:∀b,(Y b).isSome=true->Sh b∨Am b
 dmw:∀b,Am b->Aw b->False
 dms:∀b,Am b->Sh b->False
 dws:∀b,Aw b->Sh b->False
 ncm:¬Am c
 ncs:¬Sh c
 lt:∀b,Am b∨Aw b∨Sh b->b<w.heap.size
 tr:TC t j c pc Aw Sh
structure PhA(P:Program)(W0:World)(fr:Frame)(cs:List Frame)(Y:Ro)(Z:Own)(gs:Array Goroutine)(w:World)(t:Trace)(q:Nat->Nat):Prop where
 g0:∃g,gs[0]?=some g/\Is g fr cs
 oth:Akn P gs q
 sat:Sat Y Z w
 nr:NoRecv Z
 newk:∀b∈keys Z,W0.heap.size<=b
 below:Below W0.heap.size W0 w
 tr:TA t
section
variable{P:Program}{W0:World}{fr:Frame}{cs:List Frame}{Y:Ro}{Z:Own}{c:Nat}{vs:List Value}{fw:Frame}{cw:List Frame}{ρw:Ro}{σw:Own}{j:Nat}{Am Aw Sh:Nat->Prop}{mp:Option Value}{wp:Option (Value×Value)}
 {gs:Array Goroutine} {w:World} {t:Trace} {q:Nat->Nat}
theorem Sat.at_(h:Sat Y Z w)(d:Nat):Sat Y Z (w.at d):=⟨h.ro,h.own,h.nd,h.dj⟩
theorem Sy{W0}(h:Below W0.heap.size W0 w)(d:Nat):Below W0.heap.size W0 (w.at d):=⟨h.os,h.tape,h.output,h.size,h.block⟩
theorem PhB.at_(h:PhB P W0 fr cs Y Z c vs fw cw ρw σw j Am Aw Sh mp wp gs w t q)(d:Nat):PhB P W0 fr cs Y Z c vs fw cw ρw σw j Am Aw Sh mp wp gs (w.at d) t q :=
 {h with sat:=h.sat.at_ d,satw:=h.satw.at_ d,ch:=h.ch,below:=Sy h.below d,lt:=h.lt}
theorem PhC.at_{pc}(h:PhC P W0 fr cs Y Z c j Am Aw Sh pc gs w t q)(d:Nat):PhC P W0 fr cs Y Z c j Am Aw Sh pc gs (w.at d) t q :=
 {h with sat:=h.sat.at_ d,ch:=h.ch,below:=Sy h.below d,lt:=h.lt}
theorem PhA.at_(h:PhA P W0 fr cs Y Z gs w t q)(d:Nat):PhA P W0 fr cs Y Z gs (w.at d) t q :=
 {h with sat:=h.sat.at_ d,below:=Sy h.below d}
theorem Sat.kept{W W'}(h:Sat Y Z W)(hk:∀b,(b∈keys Z∨(Y b).isSome=true)->W'.heap[b]?=W.heap[b]?):Sat Y Z W':=by
 refine⟨fun b o hb=>?_,fun p hp=>?_,h.nd,h.dj⟩
 ·have:=h.ro b o hb;exact⟨by rw[hk b (.inr (by rw[hb];rfl))];exact this.1,this.2⟩
 ·exact Res.fits_of (h.own p hp) (hk p.1 (.inl (Du (r:=p.2) hp)))
theorem Le{W0 W W' Y Z Z'}(hb:Below W0.heap.size W0 W)(hn:∀b∈keys Z,W0.heap.size<=b)(h:Trans Y Z W Z' W'):Below W0.heap.size W0 W' :=
 ⟨h.os.trans hb.os,h.tape.trans hb.tape,h.output.trans hb.output,Tj hb.size h.size,fun k hk=>by
  rw[h.frame k (Pa hk hb.size) (fun o ho=>absurd (hn k (Du ho)) (by omega))];exact hb.block k hk⟩
theorem Mn{W0 W W' Y Z Z'}(hb:Below W0.heap.size W0 W)(hn:∀b∈keys Z,W0.heap.size<=b)(h:Trans Y Z W Z' W'):∀b∈keys Z',W0.heap.size<=b:=fun b hb'=>by
 rcases h.keys b hb' with h1|⟨h1,_⟩
 ·exact hn b h1
 ·exact Tj hb.size h1
theorem Ud{es}{A:Nat->Prop}(hes:∀e∈es,Acx Y Z e)(ha:∀b o,(b,Res.obj o)∈Z->A b)(hr:∀b,(Y b).isSome=true->Sh b∨A b)(g:Nat)(fn:FuncId)(pos:String):
  Wordless (MemOp.ofEvents g fn pos es)/\∀op∈MemOp.ofEvents g fn pos es,op.g=g/\∀b,op.act.touch?=some b->b.kind = .plain/\∃k,Lx b.loc=some k/\(A k∨(b.write=false/\Sh k)):=by
 obtain⟨c,a⟩:=Abe hes g fn pos;refine⟨c,fun op hop=>⟨(a op hop).1,fun b hb=>?_⟩⟩;obtain⟨hk,k,hl,d⟩:=(a op hop).2 b hb;refine⟨hk,k,hl,?_⟩;rcases d with⟨o,ho⟩|⟨hw,hs⟩
 ·exact .inl (ha k o ho)
 ·exact(hr k hs).elim (fun h=>.inr ⟨hw,h⟩) .inl
theorem PhB.main{fr' cs' w' Z' es g'}(h:PhB P W0 fr cs Y Z c vs fw cw ρw σw j Am Aw Sh none wp gs w t q)(ht:Trans Y Z w Z' w')(hes:∀e∈es,Acx Y Z' e)(g:Goroutine)(hg0:gs[0]?=some g)(hg':Is g' fr' cs')(fn:FuncId)(pos:String):
  PhB P W0 fr' cs' Y Z' c vs fw cw ρw σw j (fun b=>Am b∨(w.heap.size<=b/\b<w'.heap.size)) Aw Sh none wp ((gs.map (woken P g g' w')).setIfInBounds 0 g') w' (t++MemOp.ofEvents 0 fn pos es) q:=by
 have hch:∃s r tm,w'.heap[c]?=some (.chan 0 #[] false s r tm):=by
  obtain⟨s,r,tm,hh⟩:=h.ch;refine⟨s,r,tm,?_⟩;rw[ht.frame c (Dq hh) fun o ho=>h.ncm (h.am c _ ho (by simp))];exact hh
 have ham:∀b r,(b,r)∈Z'->(∀vs,r ≠ .recv vs)->Am b∨(w.heap.size<=b/\b<w'.heap.size):=fun b r hb hr=>by
  rcases ht.keys b (Du hb) with a|a
  ·obtain⟨⟨b',r'⟩,hr',e⟩:=Lp.1 a;simp only at e;subst e;refine .inl (h.am _ r' hr' fun vs e=>hr vs ?_);subst e;exact ht.sat.uniq hb ((ht.ends _ _).2 hr')
  ·exact .inr a
 have hrm:∀b,(Y b).isSome=true->Sh b∨(Am b∨(w.heap.size<=b/\b<w'.heap.size)):=fun b hb=>(h.rm b hb).imp id .inl;obtain⟨o1,p⟩:=Ud (A:=fun b=>Am b∨(w.heap.size<=b/\b<w'.heap.size)) hes (fun b o hb=>ham b _ hb (by simp)) hrm 0 fn pos;have u:c<w.heap.size:=by obtain⟨s,r,tm,hh⟩:=h.ch;exact Dq hh
 have m:∀b,(Am b∨(w.heap.size<=b/\b<w'.heap.size))->Aw b->False:=fun b a d=>a.elim (fun a=>h.dmw b a d) fun a=>absurd (h.lt b (.inr (.inl d))) (by omega);have f:∀b,(Am b∨(w.heap.size<=b/\b<w'.heap.size))->Sh b->False:=fun b a d=>a.elim (fun a=>h.dms b a d) fun a=>absurd (h.lt b (.inr (.inr d))) (by omega);have n:¬(Am c∨(w.heap.size<=c/\c<w'.heap.size)):=fun a=>a.elim h.ncm fun a=>by omega
 exact {
  g0:=fun _=>⟨g',Lf hg0,hg'⟩
  g0p:=fun z e=>by cases e
  gj:=fun e=>by
   obtain⟨x,hx,hi⟩:=h.gj e;exact⟨x,by rw[Ei h.j0 hx,Fo (.inl hi.1)],hi⟩
  gjp:=fun v z e=>by
   obtain⟨s,r,tm,hh⟩:=hch;rw[Ei h.j0 (h.gjp v z e),woken_send_open _ _ hh]
  j0:=h.j0
  oth:=fun i x hi hij hx=>by
   rcases Jv hx with⟨e,_⟩|⟨_,y,hy,rfl⟩
   ·exact absurd e hi
   ·have:=h.oth i y hi hij hy;rw[Fo this.status];exact this
  sat:=ht.sat
  satw:=h.satw.kept fun b hb=>by
   have hab:Aw b∨Sh b:=hb.elim (fun hb=>.inl (h.aw b hb)) fun hb=>(h.rw_ b hb).symm;refine ht.frame b (h.lt b (.inr hab)) fun o ho=>?_;have:=h.am b _ ho (by simp);exact hab.elim (h.dmw b this) (h.dms b this)
  ch:=hch
  hc:=(ht.ends _ _).2 h.hc
  one:=fun c' vs' hc'=>h.one c' vs' ((ht.ends _ _).1 hc')
  ncr:=fun c' k Rs hc'=>(ht.crowds c' k Rs hc').elim (h.ncr c' k Rs) fun x=>x.2
  nrw:=h.nrw
  newk:=Mn h.below h.newk ht
  neww:=h.neww
  below:=Le h.below h.newk ht
  am:=ham
  aw:=h.aw
  rm:=hrm
  rw_:=h.rw_
  dmw:=m
  dms:=f
  dws:=h.dws
  ncm:=n
  ncw:=h.ncw
  ncs:=h.ncs
  lt:=fun b hb=>by
   rcases hb with (hb|hb)|hb
   ·exact Pa (h.lt b (.inl hb)) ht.size
   ·exact hb.2
   ·exact Pa (h.lt b (.inr hb)) ht.size
  tr:=h.tr.main h.j0 (fun _=>.inl) (fun k a d=>m k d a) f h.dws ⟨n,h.ncs⟩ o1 p }
theorem PhC.main{fr' cs' w' Z' es g' pc}(h:PhC P W0 fr cs Y Z c j Am Aw Sh pc gs w t q)(ht:Trans Y Z w Z' w')(hes:∀e∈es,Acx Y Z' e)(g:Goroutine)(hg0:gs[0]?=some g)(hg':Is g' fr' cs')(fn:FuncId)(pos:String):
  PhC P W0 fr' cs' Y Z' c j (fun b=>Am b∨(w.heap.size<=b/\b<w'.heap.size)) Aw Sh pc ((gs.map (woken P g g' w')).setIfInBounds 0 g') w' (t++MemOp.ofEvents 0 fn pos es) q:=by
 have hch:∃s r tm,w'.heap[c]?=some (.chan 0 #[] true s r tm):=by
  obtain⟨s,r,tm,hh⟩:=h.ch;refine⟨s,r,tm,?_⟩;rw[ht.frame c (Dq hh) fun o ho=>h.ncm (h.am c _ ho (by simp))];exact hh
 have ham:∀b r,(b,r)∈Z'->(∀vs,r ≠ .recv vs)->Am b∨(w.heap.size<=b/\b<w'.heap.size):=fun b r hb hr=>by
  rcases ht.keys b (Du hb) with d|d
  ·obtain⟨⟨b',r'⟩,hr',e⟩:=Lp.1 d;simp only at e;subst e;refine .inl (h.am _ r' hr' fun vs e=>hr vs ?_);subst e;exact ht.sat.uniq hb ((ht.ends _ _).2 hr')
  ·exact .inr d
 have hrm:∀b,(Y b).isSome=true->Sh b∨(Am b∨(w.heap.size<=b/\b<w'.heap.size)):=fun b hb=>(h.rm b hb).imp id .inl;obtain⟨o1,n⟩:=Ud (A:=fun b=>Am b∨(w.heap.size<=b/\b<w'.heap.size)) hes (fun b o hb=>ham b _ hb (by simp)) hrm 0 fn pos;have B:c<w.heap.size:=by obtain⟨s,r,tm,hh⟩:=h.ch;exact Dq hh
 have u:∀b,(Am b∨(w.heap.size<=b/\b<w'.heap.size))->Aw b->False:=fun b d f=>d.elim (fun d=>h.dmw b d f) fun d=>absurd (h.lt b (.inr (.inl f))) (by omega);have p:∀b,(Am b∨(w.heap.size<=b/\b<w'.heap.size))->Sh b->False:=fun b d f=>d.elim (fun d=>h.dms b d f) fun d=>absurd (h.lt b (.inr (.inr f))) (by omega);have v:¬(Am c∨(w.heap.size<=c/\c<w'.heap.size)):=fun d=>d.elim h.ncm fun d=>by omega
 exact {
  g0:=⟨g',Lf hg0,hg'⟩
  oth:=fun i x hi hx=>by
   rcases Jv hx with⟨e,_⟩|⟨_,y,hy,rfl⟩
   ·exact absurd e hi
   ·have:=h.oth i y hi hy;rw[Fo this.status];exact this
  sat:=ht.sat
  ch:=hch
  hc:=(ht.ends _ _).2 h.hc
  one:=fun c' vs' hc'=>h.one c' vs' ((ht.ends _ _).1 hc')
  ncr:=fun c' k Rs hc'=>(ht.crowds c' k Rs hc').elim (h.ncr c' k Rs) fun x=>x.2
  newk:=Mn h.below h.newk ht
  below:=Le h.below h.newk ht
  am:=ham
  rm:=hrm
  dmw:=u
  dms:=p
  dws:=h.dws
  ncm:=v
  ncs:=h.ncs
  lt:=fun b hb=>by
   rcases hb with (hb|hb)|hb
   ·exact Pa (h.lt b (.inl hb)) ht.size
   ·exact hb.2
   ·exact Pa (h.lt b (.inr hb)) ht.size
  tr:=by
   obtain⟨op,d,f,m⟩:=h.tr.at_;refine⟨h.tr.wl.append o1,fun z=>noRace_append (h.tr.clean z) (fun op hop=>(n op hop).1) fun i a ha op hop b hb hcf=>?_,⟨op,by rw[getElem?_append_old (lt_size_of_getElem? d)];exact d,f,m⟩,fun i a ha hm=>?_⟩
   ·rcases h.tr.k0 i a ha hcf.2.1 with d|⟨_,d⟩
    ·exact d
    ·exact(Ul (fun k d f=>u k f d) h.dws p ⟨v,h.ncs⟩ d ((n op hop).2 b hb) hcf).elim
   ·rcases Di ha with d|⟨op,d,f,_,_⟩
    ·exact(h.tr.k0 i a d hm).imp (·.app _) fun⟨f,m⟩=>⟨f.app _,m⟩
    ·have:=knows_own d;rw[(n op f).1]at this;exact .inl this }
theorem PhA.main{fr' cs' w' Z' es g'}(h:PhA P W0 fr cs Y Z gs w t q)(ht:Trans Y Z w Z' w')(hes:∀e∈es,Acx Y Z' e)(g:Goroutine)(hg0:gs[0]?=some g)(hg':Is g' fr' cs')(fn:FuncId)(pos:String):
    PhA P W0 fr' cs' Y Z' ((gs.map (woken P g g' w')).setIfInBounds 0 g') w' (t++MemOp.ofEvents 0 fn pos es) q :=
  { g0:=⟨g',Lf hg0,hg'⟩
    oth:=fun i x hi hx=>by
      rcases Jv hx with⟨e,_⟩|⟨_,y,hy,rfl⟩
      · exact absurd e hi
      · have:=h.oth i y hi hy
        rw[Fo this.status];exact this
    sat:=ht.sat
    nr:=h.nr.trans ht
    newk:=Mn h.below h.newk ht
    below:=Le h.below h.newk ht
    tr:=by obtain⟨o1,a⟩:=Abe hes 0 fn pos;exact h.tr.own o1 fun op hop=>(a op hop).1 }
theorem PhB.work{fw' cw' w' Zw' es g'}(h:PhB P W0 fr cs Y Z c vs fw cw ρw σw j Am Aw Sh mp none gs w t q)(ht:Trans ρw σw w Zw' w')(hes:∀e∈es,Acx ρw Zw' e)(g:Goroutine)(hgj:gs[j]?=some g)(hg':Is g' fw' cw')(fn:FuncId)(pos:String):
  PhB P W0 fr cs Y Z c vs fw' cw' ρw Zw' j Am (fun b=>Aw b∨(w.heap.size<=b/\b<w'.heap.size)) Sh mp none ((gs.map (woken P g g' w')).setIfInBounds j g') w' (t++MemOp.ofEvents j fn pos es) q:=by
 have hch:∃s r tm,w'.heap[c]?=some (.chan 0 #[] false s r tm):=by
  obtain⟨s,r,tm,hh⟩:=h.ch;refine⟨s,r,tm,?_⟩;rw[ht.frame c (Dq hh) fun o ho=>h.ncw (h.aw c (Du ho))];exact hh
 have haw:∀b∈keys Zw',Aw b∨(w.heap.size<=b/\b<w'.heap.size):=fun b hb=>(ht.keys b hb).imp (h.aw b) id;have hrw:∀b,(ρw b).isSome=true->Sh b∨(Aw b∨(w.heap.size<=b/\b<w'.heap.size)):=fun b hb=>(h.rw_ b hb).imp id .inl;obtain⟨o1,p⟩:=Ud (A:=fun b=>Aw b∨(w.heap.size<=b/\b<w'.heap.size)) hes (fun b o hb=>haw b (Du hb)) hrw j fn pos;have u:c<w.heap.size:=by obtain⟨s,r,tm,hh⟩:=h.ch;exact Dq hh
 have f:∀b,Am b->(Aw b∨(w.heap.size<=b/\b<w'.heap.size))->False:=fun b d a=>a.elim (fun a=>h.dmw b d a) fun a=>absurd (h.lt b (.inl d)) (by omega);have m:∀b,(Aw b∨(w.heap.size<=b/\b<w'.heap.size))->Sh b->False:=fun b a d=>a.elim (fun a=>h.dws b a d) fun a=>absurd (h.lt b (.inr (.inr d))) (by omega);have n:¬(Aw c∨(w.heap.size<=c/\c<w'.heap.size)):=fun a=>a.elim h.ncw fun a=>by omega
 exact {
  g0:=fun e=>by
   obtain⟨x,hx,hi⟩:=h.g0 e;exact⟨x,by rw[Ei (Ne.symm h.j0) hx,Fo (.inl hi.1)],hi⟩
  g0p:=fun z e=>by
   obtain⟨s,r,tm,hh⟩:=hch;rw[Ei (Ne.symm h.j0) (h.g0p z e),woken_recv_open _ _ hh]
  gj:=fun _=>⟨g',Lf hgj,hg'⟩
  gjp:=fun v z e=>by cases e
  j0:=h.j0
  oth:=fun i x hi hij hx=>by
   rcases Jv hx with⟨e,_⟩|⟨_,y,hy,rfl⟩
   ·exact absurd e hij
   ·have:=h.oth i y hi hij hy;rw[Fo this.status];exact this
  sat:=h.sat.kept fun b hb=>by
   have hlt:b<w.heap.size:=hb.elim (fun hb=>h.sat.key_lt hb) fun hb=>(h.rm b hb).elim (fun x=>h.lt b (.inr (.inr x))) fun x=>h.lt b (.inl x);refine ht.frame b hlt fun o ho=>?_;have hA:=h.aw b (Du ho);rcases hb with hb|hb
   ·obtain⟨⟨b',r⟩,hr,e⟩:=Lp.1 hb;simp only at e;subst e;cases r with
    | obj o'=>exact h.dmw _ (h.am _ _ hr (by simp)) hA
    | chan=>exact h.dmw _ (h.am _ _ hr (by simp)) hA
    | crowd k Rs=>exact h.dmw _ (h.am _ _ hr (by simp)) hA
    | recv vs'=>rw[h.one _ _ hr]at hA;exact h.ncw hA
   ·exact(h.rm b hb).elim (h.dws b hA) fun x=>h.dmw b x hA
  satw:=ht.sat
  ch:=hch
  hc:=h.hc
  one:=h.one
  nrw:=h.nrw.trans ht
  ncr:=h.ncr
  newk:=h.newk
  neww:=Mn h.below h.neww ht
  below:=Le h.below h.neww ht
  am:=h.am
  aw:=haw
  rm:=h.rm
  rw_:=hrw
  dmw:=f
  dms:=h.dms
  dws:=m
  ncm:=h.ncm
  ncw:=n
  ncs:=h.ncs
  lt:=fun b hb=>by
   rcases hb with hb|(hb|hb)|hb
   ·exact Pa (h.lt b (.inl hb)) ht.size
   ·exact Pa (h.lt b (.inr (.inl hb))) ht.size
   ·exact hb.2
   ·exact Pa (h.lt b (.inr (.inr hb))) ht.size
  tr:=h.tr.work (fun _=>.inl) f m h.dms ⟨n,h.ncs⟩ o1 p }
end
end
section
open Go Go.Conc Go.RowKit
open Go.ConcN (sumTo sumTo_upd upd_ne upd_same)
section
variable{P:Program}{Pst:Value->World->Prop}{W0:World}{fr:Frame}{cs:List Frame}{Y:Ro}{Z:Own}{c:Nat}{vs:List Value}{fw:Frame}{cw:List Frame}{ρw:Ro}{σw:Own}{j:Nat}{Am Aw Sh:Nat->Prop}{mp:Option Value}{wp:Option (Value×Value)}
 {gs:Array Goroutine} {w:World} {t:Trace} {q:Nat->Nat}
theorem PhB.ghostw{Yw' Zw'}(hg:Ghost ρw σw Yw' Zw')(h:PhB P W0 fr cs Y Z c vs fw cw ρw σw j Am Aw Sh mp wp gs w t q):PhB P W0 fr cs Y Z c vs fw cw Yw' Zw' j Am Aw Sh mp wp gs w t q :=
  { h with
    satw:=hg.sat _ h.satw
    nrw:=h.nrw.ghost hg
    neww:=fun b hb=>h.neww b (hg.keys b hb)
    aw:=fun b hb=>h.aw b (hg.keys b hb)
    rw_:=fun b hb=>(hg.dom b hb).elim (h.rw_ b) fun⟨o,ho⟩=>.inr (h.aw b (Du ho)) }
theorem Xv{Y' Z'}(hg:Ghost Y Z Y' Z')(h:∀b r,(b,r)∈Z->(∀vs,r ≠ .recv vs)->Am b)(b:Nat)(r:Res)(hb:(b,r)∈Z')(hr:∀vs,r ≠ .recv vs):Am b:=by
 cases r with
 | obj o=>obtain⟨o',ho'⟩:=hg.objs b o hb;exact h b _ ho' (by simp)
 | chan=>exact h b _ (hg.chans b hb) (by simp)
 | crowd k Rs=>exact h b _ (hg.crowds b k Rs hb) (by simp)
 | recv vs=>exact absurd rfl (hr vs)
theorem PhB.ghost{Y' Z'}(hg:Ghost Y Z Y' Z')(h:PhB P W0 fr cs Y Z c vs fw cw ρw σw j Am Aw Sh mp wp gs w t q):PhB P W0 fr cs Y' Z' c vs fw cw ρw σw j Am Aw Sh mp wp gs w t q :=
  { h with
    sat:=hg.sat _ h.sat
    hc:=(hg.ends _ _).2 h.hc
    one:=fun c' vs' hc'=>h.one c' vs' ((hg.ends _ _).1 hc')
    ncr:=fun c' k Rs hc'=>h.ncr c' k Rs (hg.crowds c' k Rs hc')
    newk:=fun b hb=>h.newk b (hg.keys b hb)
    am:=Xv hg h.am
    rm:=fun b hb=>(hg.dom b hb).elim (h.rm b) fun⟨o,ho⟩=>.inr (h.am b _ ho (by simp)) }
theorem PhC.ghost{Y' Z' pc}(hg:Ghost Y Z Y' Z')(h:PhC P W0 fr cs Y Z c j Am Aw Sh pc gs w t q):PhC P W0 fr cs Y' Z' c j Am Aw Sh pc gs w t q :=
  { h with
    sat:=hg.sat _ h.sat
    hc:=(hg.ends _ _).2 h.hc
    one:=fun c' vs' hc'=>h.one c' vs' ((hg.ends _ _).1 hc')
    ncr:=fun c' k Rs hc'=>h.ncr c' k Rs (hg.crowds c' k Rs hc')
    newk:=fun b hb=>h.newk b (hg.keys b hb)
    am:=Xv hg h.am
    rm:=fun b hb=>(hg.dom b hb).elim (h.rm b) fun⟨o,ho⟩=>.inr (h.am b _ ho (by simp)) }
theorem PhA.ghost{Y' Z'}(hg:Ghost Y Z Y' Z')(h:PhA P W0 fr cs Y Z gs w t q):PhA P W0 fr cs Y' Z' gs w t q :=
  { h with
    sat:=hg.sat _ h.sat
    nr:=h.nr.ghost hg
    newk:=fun b hb=>h.newk b (hg.keys b hb) }
theorem Qf(g:Goroutine)(k:Array CommCase)(s:CommShape):awake (parked g k s):=fun t e=>by cases e
theorem PhB.awake(h:PhB P W0 fr cs Y Z c vs fw cw ρw σw j Am Aw Sh mp wp gs w t q):∀g∈gs,Conc.awake g:=by
 intro g hg;obtain⟨i,hi⟩:=Bme hg;by_cases hi0:i=0
 ·subst hi0;cases hm:mp with
  | none=>obtain⟨x,hx,his⟩:=h.g0 hm;rw[hx]at hi;cases hi;exact Ip his.1
  | some z=>rw[h.g0p z hm]at hi;cases hi;exact Qf _ _ _
 ·by_cases hij:i=j
  ·subst hij;cases hm:wp with
   | none=>obtain⟨x,hx,his⟩:=h.gj hm;rw[hx]at hi;cases hi;exact Ip his.1
   | some z=>obtain⟨v,z⟩:=z;rw[h.gjp v z hm]at hi;cases hi;exact Qf _ _ _
  ·rcases (h.oth i g hi0 hij hi).status with hs|hs<;>intro t e<;>rw[hs]at e<;>cases e
theorem PhB.leave{i k g g'}(h:PhB P W0 fr cs Y Z c vs fw cw ρw σw j Am Aw Sh mp wp gs w t q)(hi:gs[i]?=some g)(hi0:i≠0)(hij:i≠j)(hq:QuitsIn P k g'):
  PhB P W0 fr cs Y Z c vs fw cw ρw σw j Am Aw Sh mp wp ((gs.map (woken P g g' w)).setIfInBounds i g') w t (Go.ConcN.upd q i k):=by
 obtain⟨s,r,tm,hh⟩:=h.ch;exact { h with
  g0:=fun e=>by
   obtain⟨x,hx,his⟩:=h.g0 e;exact⟨x,by rw[Ei (Ne.symm hi0) hx,Fo (.inl his.1)],his⟩
  g0p:=fun z e=>by rw[Ei (Ne.symm hi0) (h.g0p z e),woken_recv_open _ _ hh]
  gj:=fun e=>by
   obtain⟨x,hx,his⟩:=h.gj e;exact⟨x,by rw[Ei (Ne.symm hij) hx,Fo (.inl his.1)],his⟩
  gjp:=fun v z e=>by rw[Ei (Ne.symm hij) (h.gjp v z e),woken_send_open _ _ hh]
  oth:=fun n x hn hnj hx=>by
   rcases Jv hx with⟨rfl,rfl⟩|⟨hni,y,hy,rfl⟩
   ·rw[upd_same];exact hq
   ·have:=h.oth n y hn hnj hy;rw[Fo this.status,upd_ne q k hni];exact this }
def WGo(P:Program)(c:Nat)(vs:List Value)(fw:Frame)(cw:List Frame)(ρw:Ro)(σw:Own):Option (Value×Value)->Prop
 | none=>SendI P c vs fw cw ρw σw
 | some (v,_)=>∃vs',vs=v::vs'/\SendI P c vs' (fw.finish undef) cw ρw σw
theorem get_set{gs:Array Goroutine}{i k:Nat}{x y:Goroutine}(h:(gs.setIfInBounds i x)[k]?=some y):(k=i/\y=x)∨(k≠i/\gs[k]?=some y):=by
 by_cases hk:i=k
 ·subst hk;by_cases hlt:i<gs.size
  ·rw[Btg hlt]at h;exact .inl ⟨rfl,(Option.some.inj h).symm⟩
  ·rw[Bhf (by simpa using hlt)]at h;cases h
 ·rw[Bhd hk]at h;exact .inr ⟨Ne.symm hk,h⟩
theorem Dw{gs:Array Goroutine}{i k x}(h:k≠i):(gs.setIfInBounds i x)[k]?=gs[k]?:=Bhd (Ne.symm h)
theorem Fq{gs:Array Goroutine}{i x y}(h:gs[i]?=some y):(gs.setIfInBounds i x)[i]?=some x :=
 Btg (Agh.1 h).1
theorem Hq{w:World}{c cap s r buf cl tm}(h:c<w.heap.size):(w.setChan c cap buf cl s r tm).heap[c]?=some (.chan cap buf cl s r tm):=by simp[World.setChan,h]
theorem Fi{w:World}{c cap s r k buf cl tm}(h:k≠c):(w.setChan c cap buf cl s r tm).heap[k]?=w.heap[k]?:=by simp[World.setChan,Ne.symm h]
theorem PhB.meet{i v vs' gs' u s r tm}(h:PhB P W0 fr cs Y Z c (v::vs') fw cw ρw σw j Am Aw Sh mp wp gs w t q)(hi:Z[i]?=some (c,Res.recv (v::vs')))(h0:∃g,gs'[0]?=some g/\Is g (fr.finish (.tuple #[v,.bool true])) cs)(hj:∃g,gs'[j]?=some g/\Is g (fw.finish undef) cw)(ho:∀k,k≠0->k≠j->gs'[k]?=gs[k]?)(hw:Wordless u)(hu:∀op∈u,op.act.touch?=none):
  PhB P W0 (fr.finish (.tuple #[v,.bool true])) cs Y (Z.set i (c,.recv vs')) c vs' (fw.finish undef) cw ρw σw j Am Aw Sh none none gs' (w.setChan c 0 #[] false s r tm) (t++u) q:=by
 have f:c<w.heap.size:=by obtain⟨s,r,tm,hh⟩:=h.ch;exact Dq hh
 have d:=Tt (r':=.recv vs') hi;have a:∀p,p∈Z.set i (c,Res.recv vs')->p=(c,.recv vs')∨(p∈Z/\p.1≠c):=fun p hp=>Gq hi h.sat.nd hp;have hcW:W0.heap.size<=c:=h.newk c (Du h.hc);refine {
  g0:=fun _=>h0
  g0p:=fun z e=>by cases e
  gj:=fun _=>hj
  gjp:=fun v z e=>by cases e
  j0:=h.j0
  oth:=fun k x hk hkj hx=>by rw[ho k hk hkj]at hx;exact h.oth k x hk hkj hx
  sat:=?_
  satw:=h.satw.kept fun b hb=>Fi fun e=>?_
  ch:=⟨s,r,tm,Hq f⟩
  hc:=?_
  one:=fun c' m hc'=>?_
  nrw:=h.nrw
  ncr:=fun c' k Rs hc'=>(a _ hc').elim (fun e=>by cases e) fun x=>h.ncr c' k Rs x.1
  newk:=by rw[d];exact h.newk
  neww:=h.neww
  below:=⟨h.below.os,h.below.tape,h.below.output,by simpa[World.setChan]using h.below.size,fun k hk=>by rw[Fi (by omega)];exact h.below.block k hk⟩
  am:=fun b x hb hx=>?_
  aw:=h.aw
  rm:=h.rm
  rw_:=h.rw_
  dmw:=h.dmw
  dms:=h.dms
  dws:=h.dws
  ncm:=h.ncm
  ncw:=h.ncw
  ncs:=h.ncs
  lt:=fun b hb=>by simpa[World.setChan]using h.lt b hb
  tr:=h.tr.mute hw hu }
 ·refine⟨fun b o hb=>?_,fun p hp=>?_,by rw[d];exact h.sat.nd,by rw[d];exact h.sat.dj⟩
  ·have hbc:b≠c:=fun e=>by
    have:=h.sat.dj c (Du h.hc);rw[<-e,hb]at this;cases this
   rw[Fi hbc];exact h.sat.ro b o hb
  ·rcases a p hp with rfl|⟨hp',hpc⟩
   ·exact⟨s,r,false,tm,Hq f⟩
   ·exact Res.fits_of (h.sat.own p hp') (Fi hpc)
 ·subst e;rcases hb with hb|hb
  ·exact h.ncw (h.aw _ hb)
  ·exact(h.rw_ _ hb).elim h.ncs h.ncw
 ·have hlt:i<Z.length:=by
   rcases Tk i Z.length with h'|h'
   ·exact h'
   ·rw[Sr h']at hi;cases hi
  exact lZ6 (i:=i) (by rw[Vc];simp[hlt])
 ·rcases a _ hc' with e|⟨hc'',_⟩
  ·injection e with e _
  ·exact h.one _ _ hc''
 ·rcases a _ hb with e|⟨hb',_⟩
  ·injection e with _ e;exact absurd e (hx vs')
  ·exact h.am b x hb' hx
theorem PhB.close{n g g' s r tm}(h:PhB P W0 fr cs Y Z c [] fw cw ρw σw j Am Aw Sh mp none gs w t q)(hgj:gs[j]?=some g)(hmw:mayWake P g=true)(hq:QuitsIn P n g')(fn:FuncId)(pos:String):
  ∃pc,PhC P W0 fr cs Y Z c j Am Aw Sh pc ((gs.map (woken P g g' (w.setChan c 0 #[] true s r tm))).setIfInBounds j g') (w.setChan c 0 #[] true s r tm) (t++MemOp.ofEvents j fn pos #[⟨.obj c,false,true⟩,⟨.obj c,true,true⟩]) (Go.ConcN.upd q j n):=by
 have a:c<w.heap.size:=by obtain⟨s,r,tm,hh⟩:=h.ch;exact Dq hh
 have hcW:W0.heap.size<=c:=h.newk c (Du h.hc);obtain⟨pc,htc⟩:=h.tr.close fn pos ⟨h.ncm,h.ncs⟩;refine⟨pc,{
  g0:=?_
  oth:=fun i x hi hx=>?_
  sat:=?_
  ch:=⟨s,r,tm,Hq a⟩
  hc:=h.hc
  one:=h.one
  ncr:=h.ncr
  newk:=h.newk
  below:=⟨h.below.os,h.below.tape,h.below.output,by simpa[World.setChan]using h.below.size,fun k hk=>by rw[Fi (by omega)];exact h.below.block k hk⟩
  am:=h.am
  rm:=h.rm
  dmw:=h.dmw
  dms:=h.dms
  dws:=h.dws
  ncm:=h.ncm
  ncs:=h.ncs
  lt:=fun b hb=>by simpa[World.setChan]using h.lt b hb
  tr:=htc }⟩
 ·cases hm:mp with
  | none =>
   obtain⟨x,hx,his⟩:=h.g0 hm;exact⟨x,by rw[Ei (Ne.symm h.j0) hx,Fo (.inl his.1)],his⟩
  | some z =>
   refine⟨{parked (G fr cs) #[rcase c z] (.recv true) with status:=.running},?_,rfl,rfl,rfl,rfl⟩;rw[Ei (Ne.symm h.j0) (h.g0p z hm)];have hst:(g'.status != .blocked&&g'.status != .waiting)=true:=by rcases hq.status with hs|hs<;>rw[hs]<;>rfl
   have:woken P g g' (w.setChan c 0 #[] true s r tm) (parked (G fr cs) #[rcase c z] (.recv true))=(parked (G fr cs) #[rcase c z] (.recv true)).again (w.setChan c 0 #[] true s r tm):=by
    unfold woken;rw[if_pos (by rw[hmw,Bool.true_and];exact hst)]
   rw[this,again_recv_closed (Hq a)]
 ·rcases Jv hx with⟨rfl,rfl⟩|⟨hij,y,hy,rfl⟩
  ·rw[upd_same];exact hq
  ·have:=h.oth i y hi hij hy;rw[Fo this.status,upd_ne q n hij];exact this
 ·refine⟨fun b o hb=>?_,fun p hp=>?_,h.sat.nd,h.sat.dj⟩
  ·have hbc:b≠c:=fun e=>by
    have:=h.sat.dj c (Du h.hc);rw[<-e,hb]at this;cases this
   rw[Fi hbc];exact h.sat.ro b o hb
  ·have hf:=h.sat.own p hp;obtain⟨b,x⟩:=p;by_cases hpc:b=c
   ·subst hpc;have e:=h.sat.uniq hp h.hc;subst e;exact⟨s,r,true,tm,Hq a⟩
   ·exact Res.fits_of hf (Fi hpc)
theorem Zl{gs:Array Goroutine}{q i k m g}(hi:gs[i]?=some g)(hk:q i=k+1)(hm:sumTo gs.size q<=m+1):sumTo gs.size (Go.ConcN.upd q i k)<=m:=by have b:=sumTo_upd q k id (Agh.1 hi).1;simp only[id]at b;have c:sumTo gs.size (fun a=>Go.ConcN.upd q i k a)=sumTo gs.size (Go.ConcN.upd q i k):=rfl;have d:sumTo gs.size (fun a=>q a)=sumTo gs.size q:=rfl;rw[c,d,hk]at b;omega
theorem Adj{v z}(hmain:∀gs w sl t q,PhB P W0 fr cs Y Z c vs fw cw ρw σw j Am Aw Sh none (some (v,z)) gs w t q->Out P Pst gs t (runT P (crowd gs w sl) 0)):
  ∀(m:Nat) (gs:Array Goroutine) (w:World) (sl:Option (Nat×Nat)) (t:Trace) (q:Nat->Nat),sumTo gs.size q<=m->PhB P W0 fr cs Y Z c vs fw cw ρw σw j Am Aw Sh none (some (v,z)) gs w t q->My P Pst (crowd gs w sl) t:=by
 intro m;induction m with
 | zero =>
  intro gs w sl t q hm h;obtain⟨x,hx,his⟩:=h.g0 rfl;refine Jn h.awake ⟨0,x,hx,his.1⟩ fun i g d sl' hi hg=>?_;by_cases hi0:i=0
  ·subst hi0;exact hmain gs _ sl' t q (h.at_ d)
  ·by_cases hij:i=j
   ·subst hij;rw[h.gjp v z rfl]at hi;cases hi;cases hg
   ·obtain⟨g',k,hk,_⟩:=Hf (w:=w) (sl:=sl) hi hi0 hg (h.oth i g hi0 hij hi);have:=Go.ConcN.le_sumTo (f:=q) (Agh.1 hi).1;omega
 | succ m ih =>
  intro gs w sl t q hm h;obtain⟨x,hx,his⟩:=h.g0 rfl;refine Jn h.awake ⟨0,x,hx,his.1⟩ fun i g d sl' hi hg=>?_;by_cases hi0:i=0
  ·subst hi0;exact hmain gs _ sl' t q (h.at_ d)
  ·by_cases hij:i=j
   ·subst hij;rw[h.gjp v z rfl]at hi;cases hi;cases hg
   ·obtain⟨g',k,hk,hq,a⟩:=Hf (w:=w.at d) (sl:=sl') hi hi0 hg (h.oth i g hi0 hij hi);refine .inl ⟨_,_,a,?_⟩;rw[Aea];exact ih _ _ sl' t _ (by simpa using Zl hi hk hm) ((h.at_ d).leave hi hi0 hij hq)
theorem Io{gs:Array Goroutine}{i send}(h:∀k g,k≠i->gs[k]?=some g->offersAt g c send=[]):partners (gs.setIfInBounds i ph) c send=[] :=
 partners_nil fun k x hx=>by
  rcases getElem?_stand gs i k x hx with⟨_,rfl⟩|⟨hk,hx⟩
  ·rfl
  ·exact h k x hk hx
theorem Gi{n g send}(h:QuitsIn P n g):offersAt g c send=[] :=
 offersAt_of_not_blocked (by rcases h.status with hs|hs<;>rw[hs]<;>simp) c send
theorem Nb(hself:SendI P c vs fw cw ρw σw)
  (hmain:mp=none->∀gs w sl t q fw cw ρw σw Aw wp,WGo P c vs fw cw ρw σw wp->PhB P W0 fr cs Y Z c vs fw cw ρw σw j Am Aw Sh none wp gs w t q->Out P Pst gs t (runT P (crowd gs w sl) 0))
  (hwork:∀gs w sl t q Aw g,PhB P W0 fr cs Y Z c vs fw cw ρw σw j Am Aw Sh mp none gs w t q->gs[j]?=some g->Is g fw cw->Out P Pst gs t (runT P (crowd gs w sl) j)) :
  ∀(m:Nat) (gs:Array Goroutine) (w:World) (sl:Option (Nat×Nat)) (t:Trace) (q:Nat->Nat) (Aw:Nat->Prop),sumTo gs.size q<=m->PhB P W0 fr cs Y Z c vs fw cw ρw σw j Am Aw Sh mp none gs w t q->My P Pst (crowd gs w sl) t:=by
 intro m;induction m with
 | zero =>
  intro gs w sl t q Aw hm h;obtain⟨x,hx,his⟩:=h.gj rfl;refine Jn h.awake ⟨j,x,hx,his.1⟩ fun i g d sl' hi hg=>?_;by_cases hi0:i=0
  ·subst hi0;cases hmp:mp with
   | none=>subst hmp;exact hmain rfl gs _ sl' t q fw cw ρw σw Aw none hself (h.at_ d)
   | some z=>rw[h.g0p z hmp]at hi;cases hi;cases hg
  ·by_cases hij:i=j
   ·rw[hij]at hi ⊢;rw[hx]at hi;cases hi;exact hwork gs _ sl' t q Aw x (h.at_ d) hx his
   ·obtain⟨g',k,hk,_⟩:=Hf (w:=w) (sl:=sl) hi hi0 hg (h.oth i g hi0 hij hi);have:=Go.ConcN.le_sumTo (f:=q) (Agh.1 hi).1;omega
 | succ m ih =>
  intro gs w sl t q Aw hm h;obtain⟨x,hx,his⟩:=h.gj rfl;refine Jn h.awake ⟨j,x,hx,his.1⟩ fun i g d sl' hi hg=>?_;by_cases hi0:i=0
  ·subst hi0;cases hmp:mp with
   | none=>subst hmp;exact hmain rfl gs _ sl' t q fw cw ρw σw Aw none hself (h.at_ d)
   | some z=>rw[h.g0p z hmp]at hi;cases hi;cases hg
  ·by_cases hij:i=j
   ·rw[hij]at hi ⊢;rw[hx]at hi;cases hi;exact hwork gs _ sl' t q Aw x (h.at_ d) hx his
   ·obtain⟨g',k,hk,hq,a⟩:=Hf (w:=w.at d) (sl:=sl') hi hi0 hg (h.oth i g hi0 hij hi);refine .inl ⟨_,_,a,?_⟩;rw[Aea];exact ih _ _ sl' t _ Aw (by simpa using Zl hi hk hm) ((h.at_ d).leave hi hi0 hij hq)
theorem Ti(hW:SendI P c vs fw cw ρw σw):∀(Am:Nat->Prop) (Z:Own)
  (_:mp=none->∀gs w sl t q fw cw ρw σw Aw wp,WGo P c vs fw cw ρw σw wp->PhB P W0 fr cs Y Z c vs fw cw ρw σw j Am Aw Sh none wp gs w t q->Out P Pst gs t (runT P (crowd gs w sl) 0))
  (_:∀z v vs',mp=some z->vs=v::vs'->∃i,Z[i]?=some (c,Res.recv (v::vs'))/\∀gs w sl t q fw cw ρw σw Aw,SendI P c vs' fw cw ρw σw ->
   PhB P W0 (fr.finish (.tuple #[v,.bool true])) cs Y (Z.set i (c,.recv vs')) c vs' fw cw ρw σw j Am Aw Sh none none gs w t q->My P Pst (crowd gs w sl) t)
  (_:vs=[]->∀gs w sl t q Aw pc,PhC P W0 fr cs Y Z c j Am Aw Sh pc gs w t q->My P Pst (crowd gs w sl) t)
  (m:Nat) (gs:Array Goroutine) (w:World) (sl:Option (Nat×Nat)) (t:Trace) (q:Nat->Nat) (Aw:Nat->Prop),sumTo gs.size q<=m->PhB P W0 fr cs Y Z c vs fw cw ρw σw j Am Aw Sh mp none gs w t q->My P Pst (crowd gs w sl) t:=by
 induction hW with
 | ghost hg hs ih=>exact fun Am Z a d b m gs w sl t q Aw hm h=>ih Am Z a d b m gs w sl t q Aw hm (h.ghostw hg)
 | @step vs fw cw ρw σw K hst hK ih =>
  intro Am Z a d b;refine Nb (.step K hst hK) a fun gs w sl t q Aw g h hgj his=>?_;obtain⟨fw',cw',w',es,Zw',C,D,E,F⟩:=hst w h.satw;have hb:(j==0)=false:=by simpa using h.j0
  refine .inl ⟨_,_,runT_crowd_go hgj (by rw[hb,his.step];exact C),?_⟩;exact ih _ _ _ F Am Z a d b _ _ _ _ _ _ _ (Ib _) (h.work D E g hgj (Is.of _ _) _ _)
 | @send v vs' z fw cw ρw σw hat hs ih =>
  intro Am Z a d b;refine Nb (.send hat hs) a fun gs w sl t q Aw g h hgj his=>?_;have hb:(j==0)=false:=by simpa using h.j0
  have p:stepG P (j==0) g w = .comm (G fw cw) #[scase c v z] true .send w #[]:=by rw[hb,his.step];exact hat w
  obtain⟨s,r,tm,hch⟩:=h.ch;cases hmp:mp with
  | none =>
   subst hmp;obtain⟨I,x,u⟩:=h.g0 rfl;have hp:partners (gs.setIfInBounds j ph) c false=[]:=Io fun k y hk hy=>by
    by_cases hk0:k=0
    ·subst hk0;rw[x]at hy;cases hy;exact offersAt_of_not_blocked (by rw[u.1];simp) c false
    ·exact Gi (h.oth k y hk0 hk hy)
   refine .inl ⟨_,_,crowd_waits hgj p fun cc hcc=>?_,?_⟩
   ·have:cc=scase c v z:=by simpa using hcc
    subst this;exact ways_send_none hch (by simp) hp
   ·have B:MemOp.ofEvents j g.frame.fn g.frame.place #[] = #[]:=rfl;rw[B,Aea];refine Adj (v:=v) (z:=z) (fun gs w sl t q h'=>a rfl gs w sl t q fw cw ρw σw Aw (some (v,z)) ⟨vs',rfl,hs⟩ h') _ _ _ _ _ q (Ib _) ?_;exact { h with
     g0:=fun _=>⟨I,by rw[Dw (Ne.symm h.j0)];exact x,u⟩
     g0p:=fun z e=>by cases e
     gj:=fun e=>by cases e
     gjp:=fun v' z' e=>by cases e;exact Fq hgj
     oth:=fun k y hk hkj hy=>by rw[Dw hkj]at hy;exact h.oth k y hk hkj hy }
  | some z0 =>
   have f:=h.g0p z0 hmp;have hp:partners (gs.setIfInBounds j ph) c false=[(0,0)]:=by
    rw[partners_one (stand_get (Ne.symm h.j0) f) fun k y hk hy=>?_]
    ·simp[offersAt_parked_recv]
    ·rcases getElem?_stand gs j k y hy with⟨_,rfl⟩|⟨hkj,hy⟩
     ·rfl
     ·exact Gi (h.oth k y hk hkj hy)
   obtain⟨i,hi,hn⟩:=d z0 v vs' hmp rfl;refine .inl ⟨_,_,crowd_send_meets hgj p hch (Ne.symm h.j0) f hp,?_⟩;refine hn _ _ _ _ q _ _ _ _ _ hs (h.meet hi ?_ ?_ ?_ ?_ ?_)
   ·refine⟨_,?_,(Is.of fr cs).served _⟩;rw[Dw (Ne.symm h.j0),Fq f];rfl
   ·refine⟨_,?_,(Is.of fw cw).served _⟩;rw[Fq (y:=g) (by rw[Dw h.j0];exact hgj)];rfl
   ·intro k hk hkj;rw[Dw hkj,Dw hk]
   ·intro op hop m hm;have:MemOp.ofEvents j g.frame.fn g.frame.place #[] = #[]:=rfl;simp only[this,Ack]at hop;simp only[Aow,lZ8,Xp,or_false]at hop;rcases hop with rfl|rfl|rfl|rfl<;>cases hm
   ·intro op hop;have:MemOp.ofEvents j g.frame.fn g.frame.place #[] = #[]:=rfl;simp only[this,Ack]at hop;simp only[Aow,lZ8,Xp,or_false]at hop;rcases hop with rfl|rfl|rfl|rfl<;>rfl
 | @close fw cw ρw σw hat =>
  intro Am Z a d b;refine Nb (.close hat) a fun gs w sl t q Aw g h hgj his=>?_;obtain⟨hmw,n,g',hq,hst⟩:=hat;obtain⟨s,r,tm,hch⟩:=h.ch;have hb:(j==0)=false:=by simpa using h.j0
  have H:mayWake P g=true:=by
   rw[<-hmw];unfold mayWake;rw[his.2.1];rfl
  obtain⟨pc,hC⟩:=h.close (s:=s) (r:=r) (tm:=tm) hgj H hq g.frame.fn g.frame.place;exact .inl ⟨_,_,runT_crowd_go hgj (by rw[hb,his.step];exact hst w s r tm hch),b rfl _ _ _ _ _ _ pc hC⟩
end
end
section
open Go Go.Conc
def BL(A:Nat->Prop)(l:Loc):Prop:=∃k,Lx l=some k/\A k
structure Free(N:Nat)(A S:Loc->Prop)(x:Touch):Prop where
 a:¬A x.loc
 s:S x.loc->x.write=false
 lt:∀b,Lx x.loc=some b->b<N
def KN(t:Trace)(g N:Nat)(A S:Loc->Prop):Prop:=∀i a,touchAt t i=some a->a.loc.isMemory=true->Knows t g i∨Free N A S a
def KPt(t:Trace)(p N:Nat)(A S:Loc->Prop):Prop:=∀i a,touchAt t i=some a->a.loc.isMemory=true->Before t i p∨Free N A S a
def Does(N:Nat)(A S:Loc->Prop)(g:Nat)(u:Trace):Prop:=Wordless u/\∀op∈u,op.g=g/\∀b,op.act.touch?=some b->(A b.loc∨(b.write=false/\S b.loc))/\∀k,Lx b.loc=some k->k<N
section
variable{t u:Trace}{g p N N':Nat}{A S A' S':Loc->Prop}
theorem Free.mono{a:Touch}(h:Free N A S a)(hN:N<=N')(hA:∀l,A' l->A l)(hS:∀l,S' l->A l∨S l):Free N' A' S' a :=
 ⟨fun x=>h.a (hA _ x),fun x=>(hS _ x).elim (fun x=>absurd x h.a) h.s,fun b hb=>Pa (h.lt b hb) hN⟩
theorem KN.mono(h:KN t g N A S)(hN:N<=N')(hA:∀l,A' l->A l)(hS:∀l,S' l->A l∨S l):KN t g N' A' S':=fun i a b c=>(h i a b c).imp id (·.mono hN hA hS)
theorem KN.noRace{said:Bool}(h:KN t g N A S)(hc:¬Race said t)(hA:∀l,A' l->A l∨∀b,Lx l=some b->b<N->False)(hb:∀l,A' l->∃b,Lx l=some b)(hu:Does N' A' S g u):¬Race said (t++u) :=
 noRace_append hc (fun op hop=>(hu.2 op hop).1) fun i a ha op hop b hb' hcf=>by
  rcases h i a ha hcf.2.1 with h1|h1
  ·exact h1
  ·exfalso;obtain⟨e,_,hw,_⟩:=hcf;rcases ((hu.2 op hop).2 b hb').1 with h3|⟨h3,h4⟩
   ·rcases hA _ h3 with h4|h4
    ·exact h1.a (e ▸ h4)
    ·obtain⟨k,hk⟩:=hb _ h3;exact h4 k hk (h1.lt k (by rw[e];exact hk))
   ·rcases hw with hw|hw
    ·rw[h1.s (e ▸ h4)]at hw;cases hw
    ·rw[h3]at hw;cases hw
theorem KN.own(h:KN t g N A S)(hu:∀op∈u,op.g=g):KN (t++u) g N A S:=fun i a ha hm=>by
 rcases Di ha with h1|⟨op,h1,h2,_,_⟩
 ·exact(h i a h1 hm).imp (·.app u) id
 ·have:=knows_own h1;rw[hu op h2]at this;exact .inl this
theorem KN.other(h:KN t g N A S)(hN:N<=N')(hu:∀op∈u,∀b,op.act.touch?=some b->Free N' A S b):KN (t++u) g N' A S:=fun i a ha hm=>by
 rcases Di ha with h1|⟨op,_,h2,h3,_⟩
 ·exact(h i a h1 hm).imp (·.app u) fun h=>h.mono hN (fun _ h=>h) fun _ h=>.inr h
 ·exact .inr (hu op h2 a h3)
theorem KPt.other(h:KPt t p N A S)(hN:N<=N')(hu:∀op∈u,∀b,op.act.touch?=some b->Free N' A S b):KPt (t++u) p N' A S:=fun i a ha hm=>by
 rcases Di ha with h1|⟨op,_,h2,h3,_⟩
 ·exact(h i a h1 hm).imp (·.app u) fun h=>h.mono hN (fun _ h=>h) fun _ h=>.inr h
 ·exact .inr (hu op h2 a h3)
theorem Does.free(h:Does N A S g u)(h1:∀l,A l->¬A' l/\¬S' l)(h2:∀l,S l->¬A' l):∀op∈u,∀b,op.act.touch?=some b->Free N A' S' b:=fun op hop b hb=>by
 obtain⟨a,c⟩:=(h.2 op hop).2 b hb;rcases a with a|⟨a,h4⟩
 ·exact⟨(h1 _ a).1,fun x=>absurd x (h1 _ a).2,c⟩
 ·exact⟨h2 _ h4,fun _=>a,c⟩
theorem KN.fresh(h:KN t g N A S)(hN:N<=N')(hn:∀l,A' l->A l∨∀b,Lx l=some b->b<N->False)(hb:∀l,A' l->∃b,Lx l=some b):KN t g N' A' S:=fun i a ha hm =>
 (h i a ha hm).imp id fun h=>⟨fun x=>by
  rcases hn _ x with h1|h1
  ·exact h.a h1
  ·obtain⟨b,hb⟩:=hb _ x;exact h1 b hb (h.lt b hb),h.s,fun b hb=>Pa (h.lt b hb) hN⟩
theorem KN.told{y:MemOp}(h:KN t g N A S)(hu:∀op∈u,op.act.touch?=none)(hp:t.size<=p)(hy:(t++u)[p]?=some y)(hg:y.g=g):KPt (t++u) p N A S:=fun i a ha hm=>by
 rcases Di ha with h1|⟨op,_,h2,h3,_⟩
 ·exact(h i a h1 hm).imp (fun h=>.inr (h.hb_new hp hy hg)) id
 ·rw[hu op h2]at h3;cases h3
theorem KN.hears{q:Nat}{y:MemOp}(h:KN t g N A S)(hk:KPt (t++u) p N A' S')(hu:∀op∈u,op.act.touch?=none)(hy:(t++u)[q]?=some y)(hg:y.g=g)(hb:HappensBefore (t++u) p q):KN (t++u) g N (fun l=>A l∨A' l) S:=fun i a ha hm=>by
 rcases Di ha with h1|⟨op,_,h2,h3,_⟩
 ·rcases h i a h1 hm with h4|h4
  ·exact .inl (h4.app u)
  ·rcases hk i a ha hm with h5|h5
   ·exact .inl ⟨q,y,hy,hg,.inr (h5.hb hb)⟩
   ·exact .inr ⟨fun x=>x.elim h4.a h5.a,h4.s,h4.lt⟩
 ·rw[hu op h2]at h3;cases h3
theorem Oq(hu:∀op∈u,op.act.touch?=none):∀op∈u,∀b,op.act.touch?=some b->Free N A S b:=fun op hop b hb=>by rw[hu op hop]at hb;cases hb
theorem Bcn{Y:Ro}{Z:Own}{es:Array Event}{A S:Nat->Prop}(hes:∀e∈es,Acx Y Z e)(ha:∀b o,(b,Res.obj o)∈Z->A b)(hr:∀b,(Y b).isSome=true->S b∨A b)(hN:∀b,A b∨S b->b<N)(g:Nat)(fn:FuncId)(pos:String) :
  Does N (BL A) (BL S) g (MemOp.ofEvents g fn pos es):=by
 obtain⟨a,c⟩:=Abe hes g fn pos;refine⟨a,fun op hop=>⟨(c op hop).1,fun b hb=>?_⟩⟩;obtain⟨_,k,hl,d⟩:=(c op hop).2 b hb;have key:BL A b.loc∨(b.write=false/\BL S b.loc)->(BL A b.loc∨(b.write=false/\BL S b.loc))/\∀k,Lx b.loc=some k->k<N:=fun h=>⟨h,fun k hk=>by
  rcases h with⟨k',a,c⟩|⟨_,k',a,c⟩
  ·rw[hk]at a;cases a;exact hN _ (.inl c)
  ·rw[hk]at a;cases a;exact hN _ (.inr c)⟩
 refine key ?_;rcases d with⟨o,ho⟩|⟨hw,hs⟩
 ·exact .inl ⟨k,hl,ha k o ho⟩
 ·exact(hr k hs).elim (fun h=>.inr ⟨hw,k,hl,h⟩) fun h=>.inl ⟨k,hl,h⟩
theorem Bpx{j:Nat}{x y:MemOp}(hwl:Wordless t)(hx:x.g=0/\x.act = .go j)(hy:y.g=j/\y.act = .start) :
  Wordless ((t.push x).push y)/\(∀op ∈ #[x,y],op.act.touch?=none)/\(t.push x).push y=t ++ #[x,y]/\∀i,Knows t 0 i->Knows (t ++ #[x,y]) j i:=by
 have e:(t.push x).push y=t ++ #[x,y]:=by rw[Bdc,Bdc,Array.append_assoc];rfl
 have f:∀op ∈ #[x,y],op.act.touch?=none:=fun op hop=>by
  have:op=x∨op=y:=by simpa using hop
  rcases this with rfl|rfl
  ·rw[hx.2];rfl
  ·rw[hy.2];rfl
 have hw:Wordless #[x,y]:=fun op hop m hm=>by
  have:op=x∨op=y:=by simpa using hop
  rcases this with rfl|rfl
  ·rw[hx.2]at hm;cases hm
  ·rw[hy.2]at hm;cases hm
 have b:=hwl.append hw;have c:(t ++ #[x,y])[t.size]?=some x:=by rw[Amx (Ib _)];simp
 have a:(t ++ #[x,y])[t.size+1]?=some y:=by rw[Amx (Nat.le_succ _)];simp
 have hsp:HappensBefore (t ++ #[x,y]) t.size (t.size+1):=.single (.inr ⟨.spawn (child:=j) (by simp[Trace.act?,c,hx.2]) (by simp[Trace.act?,a,hy.2]) (by simp[Trace.g?,a,hy.1]),b.heard c,b.heard a⟩);refine⟨by rw[e];exact b,f,e,fun i hk=>?_⟩;obtain⟨q,z,hq,hz,hb⟩:=hk;have hlt:=lt_size_of_getElem? hq;have d:HappensBefore (t ++ #[x,y]) q t.size:=hb_po hlt (by rw[getElem?_append_old hlt];exact hq) c (hz.trans hx.1.symm);exact⟨t.size+1,y,a,hy.1,.inr ((hb.app _).hb (d.trans hsp))⟩
end
end
section
open Go Go.Conc Go.RowKit
open Go.ConcN (sumTo sumTo_upd upd_ne upd_same)
def Asl(P:Program)(c:Nat)(z:Value)(f:Bool)(fr:Frame)(cs:List Frame):Prop :=
 ∀W,stepG P true (G fr cs) W = .comm (G fr cs) #[rcase c z] true (.recv f) W #[]
inductive MsgI(P:Program)(c:Nat)(R:Value->Ro->Prop):Frame->List Frame->Ro->Own->Prop
 | ghost {fr cs Y Z Y' Z'}:Ghost Y Z Y' Z'->MsgI P c R fr cs Y' Z'->MsgI P c R fr cs Y Z
 | step {fr cs Y Z} (K:Frame->List Frame->Own->Prop):Aal (Wn P) fr cs Y Z K->(∀fr' cs' Z',K fr' cs' Z'->MsgI P c R fr' cs' Y Z')->MsgI P c R fr cs Y Z
 | send {v z fr cs Y Z}:Amv P c v z fr cs->R v Y->(∃n,QuitsIn P n (Conc.served (G fr cs) undef))->MsgI P c R fr cs Y Z
theorem MsgI.of_goes{P:Program}{c:Nat}{R:Value->Ro->Prop}{S:Cy}{fr:Frame}{cs:List Frame}{Y:Ro}{Z:Own}(h:GoesH (Wn P) S fr cs Y Z)(hk:∀fr cs Y Z,S fr cs Y Z->MsgI P c R fr cs Y Z):MsgI P c R fr cs Y Z:=by
 induction h with
 | stop h=>exact hk _ _ _ _ h
 | ghost hg _ ih=>exact .ghost hg ih
 | step K h1 _ ih=>exact .step K h1 ih
 | ext K h1 _ _=>exact h1.elim
def Ade(P:Program):Frame->List Frame->Ro->Own->Cy->Prop:=fun fr cs Y Z K =>
 (∃d i c vs fr',(∀W,stepG P true (G fr cs) W = .spawn (G fr' cs) (G (Gg P d) []) W #[])/\NoRecv Z/\Z[i]?=some (c,Res.chan)/\SendI P c vs (Gg P d) [] Y []/\K fr' cs Y (Z.set i (c,.recv vs))) ∨
 (∃i c v vs z,Sv P c z fr cs/\Z[i]?=some (c,Res.recv (v::vs))/\K (fr.finish (.tuple #[v,.bool true])) cs Y (Z.set i (c,.recv vs))) ∨
 (∃i c z,Sv P c z fr cs/\Z[i]?=some (c,Res.recv [])/\K (fr.finish (.tuple #[z,.bool false])) cs Y (Z.eraseIdx i)) ∨
 (∃d i c k Rs R fr',(∀W,stepG P true (G fr cs) W = .spawn (G fr' cs) (G (Gg P d) []) W #[])/\(∀c vs,(c,Res.recv vs)∉Z)/\(∀c' k' Rs',(c',Res.crowd k' Rs')∈Z->Rs'≠[]->c'=c)/\Z[i]?=some (c,Res.crowd (k+1) Rs) /\
  MsgI P c R (Gg P d) [] Y []/\K fr' cs Y (Z.set i (c,.crowd k (Rs++[R])))) ∨
 (∃i c k Rs z f,Asl P c z f fr cs/\Z[i]?=some (c,Res.crowd k Rs)/\Rs≠[] /\
  ∀(n:Nat) R v Y1 Y',Rs[n]?=some R->R v Y1->Ro.le Y Y'->Ro.le Y1 Y'->K (fr.finish (recvd f v true)) cs Y' (Z.set i (c,.crowd k (Rs.eraseIdx n))))
def Iw(P:Program):Ctx:=⟨P,true,Ade P⟩
inductive WS where
 | run (fw:Frame) (cw:List Frame) (ρw:Ro) (σw:Own)
 | sent (v:Value) (ρw:Ro) (p:Nat)
structure WK where
 j:Nat
 R:Value->Ro->Prop
 A:Nat->Prop
 S:Nat->Prop
 st:WS
def AlOk(t:Trace)(i:Nat)(x:WK):Prop:=match x.st with
 | .run ..=>∃op,t[i]?=some op/\op.g=x.j
 | .sent _ _ p=>Before t i p
structure WRun(P:Program)(W0:World)(x:WK)(fw:Frame)(cw:List Frame)(ρw:Ro)(σw:Own)(gs:Array Goroutine)(w:World)(t:Trace):Prop where
 g:∃g,gs[x.j]?=some g/\Is g fw cw
 sat:Sat ρw σw w
 newk:∀b∈keys σw,W0.heap.size<=b
 aw:∀b∈keys σw,x.A b
 rw_:∀b,(ρw b).isSome=true->x.S b∨x.A b
 kn:KN t x.j w.heap.size (BL x.A) (BL x.S)
structure WSent(x:WK)(v:Value)(ρw:Ro)(p:Nat)(c r:Nat)(B:List (Nat×Value))(w:World)(t:Trace):Prop where
 val:x.R v ρw
 sat:∀b o,ρw b=some o->w.heap[b]?=some o/\o.isChan=false
 rw_:∀b,(ρw b).isSome=true->x.S b∨x.A b
 kp:KPt t p w.heap.size (BL x.A) (BL x.S)
 at_:∃m op,B[m]?=some (x.j,v)/\t[p]?=some op/\op.act = .send c (r+m)
structure PhN(P:Program)(W0:World)(fr:Frame)(cs:List Frame)(Y:Ro)(Z:Own)(c k:Nat)(l:List WK)(B:List (Nat×Value))(r:Nat)(A0 S0:Nat->Prop)(mp:Option (Value×Bool))
  (gs:Array Goroutine) (w:World) (t:Trace) (q:Nat->Nat):Prop where
 g0:mp=none->∃g,gs[0]?=some g/\Is g fr cs
 g0p:∀z f,mp=some (z,f)->gs[0]?=some (parked (G fr cs) #[rcase c z] (.recv f))/\B=[]
 oth:∀i g,i≠0->(∀x∈l,x.j=i->∃v ρw p,x.st = .sent v ρw p)->gs[i]?=some g->QuitsIn P (q i) g
 j0:∀x∈l,x.j≠0
 jl:∀x∈l,x.j<gs.size
 jn:(l.map (·.j)).Nodup
 run:∀x∈l,∀fw cw ρw σw,x.st = .run fw cw ρw σw->WRun P W0 x fw cw ρw σw gs w t
 sent:∀x∈l,∀v ρw p,x.st = .sent v ρw p->WSent x v ρw p c r B w t
 buf:∀j v,(j,v)∈B->∃x∈l,x.j=j/\∃ρw p,x.st = .sent v ρw p
 bn:(B.map Prod.fst).Nodup
 ch:∃cap tm,w.heap[c]?=some (.chan cap (B.map Prod.snd).toArray false (r+B.length) r tm)/\k+l.length<=cap
 sat:Sat Y Z w
 hc:(c,Res.crowd k (l.map (·.R)))∈Z
 one:∀c' k' Rs',(c',Res.crowd k' Rs')∈Z->Rs'≠[]->c'=c
 nr:∀c vs,(c,Res.recv vs)∉Z
 newk:∀b∈keys Z,W0.heap.size<=b
 below:Below W0.heap.size W0 w
 am:∀b x,(b,x)∈Z->b≠c->A0 b
 rm:∀b,(Y b).isSome=true->S0 b∨A0 b
 ap:∀x∈l,∀y∈l,x.j≠y.j->∀b,x.A b->¬y.A b/\¬y.S b
 a0:∀x∈l,∀b,x.A b->¬A0 b/\¬S0 b
 ds:∀b,A0 b->¬S0 b
 ss:∀x∈l,∀b,x.S b->S0 b
 nc:¬A0 c/\¬S0 c/\∀x∈l,¬x.A c
 lt:∀b,(A0 b∨S0 b∨∃x∈l,x.A b)->b<w.heap.size
 wl:Wordless t
 clean:∀said,¬Race said t
 k0:KN t 0 w.heap.size (BL A0) (BL S0)
 al:∀i a,touchAt t i=some a->a.loc.isMemory=true->Knows t 0 i∨∃x∈l,AlOk t i x
section
variable{P:Program}{W0:World}{fr:Frame}{cs:List Frame}{Y:Ro}{Z:Own}{c k r:Nat}{l:List WK}{B:List (Nat×Value)}{A0 S0:Nat->Prop}{mp:Option (Value×Bool)}
 {gs:Array Goroutine} {w:World} {t:Trace} {q:Nat->Nat}
theorem PhN.at_(h:PhN P W0 fr cs Y Z c k l B r A0 S0 mp gs w t q)(d:Nat):PhN P W0 fr cs Y Z c k l B r A0 S0 mp gs (w.at d) t q :=
  { h with
    sat:=h.sat.at_ d,below:=Sy h.below d,ch:=h.ch,lt:=h.lt,k0:=h.k0
    run:=fun x hx fw cw ρw σw e=>let z:=h.run x hx fw cw ρw σw e;{z with sat:=z.sat.at_ d,kn:=z.kn}
    sent:=fun x hx v ρw p e=>let z:=h.sent x hx v ρw p e;{ z with sat:=z.sat,kp:=z.kp } }
theorem Vo{x y:WK}(hn:(l.map (·.j)).Nodup)(hx:x∈l)(hy:y∈l)(e:x.j=y.j):x=y:=by
 induction l with
 | nil=>cases hx
 | cons a l ih =>
  simp only[Ic,Tb]at hn;rcases lZ8.1 hx with rfl|hx'<;>rcases lZ8.1 hy with rfl|hy'
  ·rfl
  ·exact absurd (e ▸ Rk (f:=(·.j)) hy') hn.1
  ·exact absurd (e ▸ Rk (f:=(·.j)) hx') hn.1
  ·exact ih hn.2 hx' hy'
theorem Ank{i:Nat}{x x' y:WK}(hn:(l.map (·.j)).Nodup)(hi:l[i]?=some x)(hy:y∈l.set i x'):y=x'∨(y∈l/\y.j≠x.j):=by
 induction l generalizing i with
 | nil=>cases hi
 | cons a l ih =>
  simp only[Ic,Tb]at hn;cases i with
  | zero =>
   cases hi;rcases lZ8.1 hy with rfl|hy
   ·exact .inl rfl
   ·exact .inr ⟨lZ0 _ hy,fun e=>hn.1 (e ▸ Rk (f:=(·.j)) hy)⟩
  | succ i =>
   rw[Xm]at hi;rcases lZ8.1 hy with rfl|hy
   ·exact .inr ⟨Vb ..,fun e=>hn.1 (e ▸ Rk (f:=(·.j)) (lZ6 hi))⟩
   ·exact(ih hn.2 hi hy).imp id fun⟨b,c⟩=>⟨lZ0 _ b,c⟩
theorem Lg{i:Nat}{x x' y:WK}(hi:l[i]?=some x)(hy:y∈l)(hj:y.j≠x.j):y∈l.set i x':=by
 obtain⟨m,hm⟩:=Se hy;refine lZ6 (i:=m) ?_;rw[Vc];split
 ·rename_i e;subst e;rw[hm]at hi;cases hi;exact absurd rfl hj
 ·exact hm
theorem Jy{i:Nat}{x x':WK}(hi:l[i]?=some x):x'∈l.set i x':=by
 have hlt:i<l.length:=by
  rcases Tk i l.length with h'|h'
  ·exact h'
  ·rw[Sr h']at hi;cases hi
 exact lZ6 (i:=i) (by rw[Vc];simp[hlt])
theorem Un{β:Type}{f:WK->β}{i:Nat}{x x':WK}(hi:l[i]?=some x)(he:f x'=f x):(l.set i x').map f=l.map f:=by
 rw[Aqp,he];apply Axb;intro m;rw[Vc];split
 ·rename_i e;subst e;rw[Pb,hi];split
  ·rfl
  ·rename_i hlt;exact absurd (by
    rcases Tk i l.length with h'|h'
    ·simpa using h'
    ·rw[Sr h']at hi;cases hi) hlt
 ·rfl
theorem Bbb{i:Nat}{x y:WK}(hn:(l.map (·.j)).Nodup)(hi:l[i]?=some x)(hy:y∈l.eraseIdx i):y∈l/\y.j≠x.j:=by
 induction l generalizing i with
 | nil=>cases hi
 | cons a l ih =>
  simp only[Ic,Tb]at hn;cases i with
  | zero =>
   cases hi;exact⟨lZ0 _ hy,fun e=>hn.1 (e ▸ Rk (f:=(·.j)) hy)⟩
  | succ i =>
   rw[Xm]at hi;rcases lZ8.1 hy with rfl|hy
   ·exact⟨Vb ..,fun e=>hn.1 (e ▸ Rk (f:=(·.j)) (lZ6 hi))⟩
   ·obtain⟨b,c⟩:=ih hn.2 hi hy;exact⟨lZ0 _ b,c⟩
theorem Rz{i:Nat}{x y:WK}(hi:l[i]?=some x)(hy:y∈l)(hj:y.j≠x.j):y∈l.eraseIdx i:=by
 induction l generalizing i with
 | nil=>cases hi
 | cons a l ih =>
  cases i with
  | zero =>
   cases hi;rcases lZ8.1 hy with rfl|hy
   ·exact absurd rfl hj
   ·exact hy
  | succ i =>
   rw[Xm]at hi;rcases lZ8.1 hy with rfl|hy
   ·exact Vb ..
   ·exact lZ0 _ (ih hi hy)
theorem WRun.kept{x:WK}{fw:Frame}{cw:List Frame}{ρw:Ro}{σw:Own}{gs':Array Goroutine}{w':World}{u:Trace}(h:WRun P W0 x fw cw ρw σw gs w t)(hg:∃g,gs'[x.j]?=some g/\Is g fw cw)
    (hk:∀b,x.A b∨x.S b->w'.heap[b]?=w.heap[b]?) (hN:w.heap.size<=w'.heap.size) (hu:∀op∈u,∀b,op.act.touch?=some b->Free w'.heap.size (BL x.A) (BL x.S) b):WRun P W0 x fw cw ρw σw gs' w' (t++u) :=
  { h with
    g:=hg
    sat:=h.sat.kept fun b hb=>hk b (hb.elim (fun hb=>.inl (h.aw b hb)) fun hb=>(h.rw_ b hb).symm)
    kn:=h.kn.other hN hu }
theorem WSent.kept{x:WK}{v:Value}{ρw:Ro}{p:Nat}{w':World}{u:Trace}(h:WSent x v ρw p c r B w t)(hk:∀b,x.A b∨x.S b->w'.heap[b]?=w.heap[b]?)(hN:w.heap.size<=w'.heap.size)
    (hu:∀op∈u,∀b,op.act.touch?=some b->Free w'.heap.size (BL x.A) (BL x.S) b):WSent x v ρw p c r B w' (t++u) :=
  { h with
    sat:=fun b o hb=>by
      rw[hk b (h.rw_ b (by rw[hb];rfl)).symm];exact h.sat b o hb
    kp:=h.kp.other hN hu
    at_:=by obtain⟨m,op,d,a,e⟩:=h.at_;exact⟨m,op,d,by rw[getElem?_append_old (lt_size_of_getElem? a)];exact a,e⟩ }
theorem AlOk.app{i:Nat}{x:WK}(u:Trace)(h:AlOk t i x):AlOk (t++u) i x:=by
 unfold AlOk at *;split
 ·rename_i e;rw[e]at h;obtain⟨op,a,b⟩:=h;exact⟨op,by rw[getElem?_append_old (lt_size_of_getElem? a)];exact a,b⟩
 ·rename_i e;rw[e]at h;exact Before.app u h
theorem Akv{A A' S':Nat->Prop}(h:∀b,A b->¬A' b/\¬S' b):∀l,BL A l->¬BL A' l/\¬BL S' l:=fun l ⟨k,d,e⟩=>⟨fun⟨k',a,c⟩=>by rw[d]at a;cases a;exact(h k e).1 c,fun⟨k',a,c⟩=>by rw[d]at a;cases a;exact(h k e).2 c⟩
theorem Afm{A A':Nat->Prop}(h:∀b,A b->¬A' b):∀l,BL A l->¬BL A' l:=fun l ⟨k,c,d⟩ ⟨k',a,e⟩=>by rw[c]at a;cases a;exact h k d e
theorem Ajk{A:Nat->Prop}:∀l,BL A l->∃b,Lx l=some b:=fun _ ⟨k,h,_⟩=>⟨k,h⟩
theorem Asq{A:Nat->Prop}{N N':Nat}:∀l,BL (fun b=>A b∨(N<=b/\b<N')) l->BL A l∨∀b,Lx l=some b->b<N->False:=fun l ⟨k,c,a⟩=>by
 rcases a with a|a
 ·exact .inl ⟨k,c,a⟩
 ·exact .inr fun b hb hl=>by rw[c]at hb;cases hb;omega
theorem Aej{a:Touch}{i:Nat}{u:Trace}(ha:touchAt (t++u) i=some a)(hu:∀op∈u,op.act.touch?=none):touchAt t i=some a:=by
 rcases Di ha with h|⟨op,_,h2,h3,_⟩
 ·exact h
 ·rw[hu op h2]at h3;cases h3
theorem PhN.main{fr':Frame}{cs':List Frame}{w':World}{Z':Own}{es:Array Event}{g':Goroutine}(h:PhN P W0 fr cs Y Z c k l B r A0 S0 none gs w t q)(ht:Trans Y Z w Z' w')(hes:∀e∈es,Acx Y Z' e)
  (g:Goroutine) (hg0:gs[0]?=some g) (hg':Is g' fr' cs') (fn:FuncId) (pos:String) :
  PhN P W0 fr' cs' Y Z' c k l B r (fun b=>A0 b∨(w.heap.size<=b/\b<w'.heap.size)) S0 none ((gs.map (woken P g g' w')).setIfInBounds 0 g') w' (t++MemOp.ofEvents 0 fn pos es) q:=by
 have hN:=ht.size;have u:c<w.heap.size:=by obtain⟨cap,tm,hh,_⟩:=h.ch;exact Dq hh
 have hcc:∀o,(c,Res.obj o)∉Z:=fun o ho=>by have:=h.sat.uniq ho h.hc;cases this
 have hfr:∀b,b<w.heap.size->¬A0 b->w'.heap[b]?=w.heap[b]?:=fun b hb hn=>ht.frame b hb fun o ho=>hn (h.am b _ ho fun e=>hcc o (e ▸ ho));have hcF:w'.heap[c]?=w.heap[c]?:=hfr c u h.nc.1;have hxk:∀x∈l,∀b,x.A b∨x.S b->w'.heap[b]?=w.heap[b]?:=fun x hx b hb=>by
  rcases hb with hb|hb
  ·exact hfr b (h.lt b (.inr (.inr ⟨x,hx,hb⟩))) (h.a0 x hx b hb).1
  ·exact hfr b (h.lt b (.inr (.inl (h.ss x hx b hb)))) fun hA=>h.ds b hA (h.ss x hx b hb)
 have ham:∀b x,(b,x)∈Z'->b≠c->A0 b∨(w.heap.size<=b/\b<w'.heap.size):=fun b x hb hc=>by
  rcases ht.keys b (Du hb) with d|d
  ·obtain⟨⟨b',r'⟩,hr',e⟩:=Lp.1 d;simp only at e;subst e;exact .inl (h.am _ r' hr' hc)
  ·exact .inr d
 have hrm:∀b,(Y b).isSome=true->S0 b∨(A0 b∨(w.heap.size<=b/\b<w'.heap.size)):=fun b hb=>(h.rm b hb).imp id .inl;have m:∀b,((A0 b∨(w.heap.size<=b/\b<w'.heap.size))∨S0 b)->b<w'.heap.size:=fun b hb=>by
  rcases hb with (hb|hb)|hb
  ·exact Pa (h.lt b (.inl hb)) hN
  ·exact hb.2
  ·exact Pa (h.lt b (.inr (.inl hb))) hN
 have hdo:=Bcn (N:=w'.heap.size) (A:=fun b=>A0 b∨(w.heap.size<=b/\b<w'.heap.size)) hes (fun b o hb=>ham b _ hb fun e=>by
  have d:=ht.crowdsKept _ _ _ h.hc;have:=ht.sat.uniq (e ▸ hb) d;cases this) hrm m 0 fn pos
 have hap:∀x∈l,∀b,(A0 b∨(w.heap.size<=b/\b<w'.heap.size))->¬x.A b/\¬x.S b:=fun x hx b hb=>by
  rcases hb with hb|hb
  ·exact⟨fun d=>(h.a0 x hx b d).1 hb,fun d=>h.ds b hb (h.ss x hx b d)⟩
  ·exact⟨fun d=>absurd (h.lt b (.inr (.inr ⟨x,hx,d⟩))) (by omega),fun d=>absurd (h.lt b (.inr (.inl (h.ss x hx b d)))) (by omega)⟩
 have n:∀x∈l,∀op∈MemOp.ofEvents 0 fn pos es,∀b,op.act.touch?=some b->Free w'.heap.size (BL x.A) (BL x.S) b:=fun x hx =>
  hdo.free (Akv (hap x hx)) (Afm fun b hb d=>(h.a0 x hx b d).2 hb)
 exact {
  g0:=fun _=>⟨g',Lf hg0,hg'⟩
  g0p:=fun z f e=>by cases e
  oth:=fun i x hi hx hxi=>by
   rcases Jv hxi with⟨e,_⟩|⟨_,y,hy,rfl⟩
   ·exact absurd e hi
   ·have:=h.oth i y hi hx hy;rw[Fo this.status];exact this
  j0:=h.j0
  jl:=fun x hx=>by simpa using h.jl x hx
  jn:=h.jn
  run:=fun x hx fw cw ρw σw e=>(h.run x hx fw cw ρw σw e).kept (by
   obtain⟨y,hy,hi⟩:=(h.run x hx fw cw ρw σw e).g;exact⟨y,by rw[Ei (h.j0 x hx) hy,Fo (.inl hi.1)],hi⟩) (hxk x hx) hN (n x hx)
  sent:=fun x hx v ρw p e=>(h.sent x hx v ρw p e).kept (hxk x hx) hN (n x hx)
  buf:=h.buf
  bn:=h.bn
  ch:=by obtain⟨cap,tm,d,j⟩:=h.ch;exact⟨cap,tm,by rw[hcF];exact d,j⟩
  sat:=ht.sat
  hc:=ht.crowdsKept _ _ _ h.hc
  one:=fun c' k' Rs' hc' hn=>(ht.crowds c' k' Rs' hc').elim (fun d=>h.one c' k' Rs' d hn) fun d=>absurd d.2 hn
  nr:=fun c' vs' hc'=>h.nr c' vs' ((ht.ends _ _).1 hc')
  newk:=Mn h.below h.newk ht
  below:=Le h.below h.newk ht
  am:=ham
  rm:=hrm
  ap:=h.ap
  a0:=fun x hx b hb=>⟨fun d=>(hap x hx b d).1 hb,(h.a0 x hx b hb).2⟩
  ds:=fun b hb d=>by
   rcases hb with hb|hb
   ·exact h.ds b hb d
   ·exact absurd (h.lt b (.inr (.inl d))) (by omega)
  ss:=h.ss
  nc:=⟨fun d=>d.elim h.nc.1 fun d=>by omega,h.nc.2⟩
  lt:=fun b hb=>by
   rcases hb with hb|hb|hb
   ·exact m b (.inl hb)
   ·exact m b (.inr hb)
   ·exact Pa (h.lt b (.inr (.inr hb))) hN
  wl:=h.wl.append hdo.1
  clean:=fun C=>h.k0.noRace (h.clean C) Asq Ajk hdo
  k0:=(h.k0.fresh hN Asq Ajk).own fun op hop=>(hdo.2 op hop).1
  al:=fun i a ha hm=>by
   rcases Di ha with d|⟨op,d,j,_,_⟩
   ·exact(h.al i a d hm).imp (·.app _) fun⟨x,hx,j⟩=>⟨x,hx,j.app _⟩
   ·have:=knows_own d;rw[(hdo.2 op j).1]at this;exact .inl this }
theorem PhN.work{i:Nat}{x:WK}{fw fw':Frame}{cw cw':List Frame}{ρw:Ro}{σw Zw':Own}{w':World}{es:Array Event}{g':Goroutine}(h:PhN P W0 fr cs Y Z c k l B r A0 S0 mp gs w t q)(hi:l[i]?=some x)
  (hst:x.st = .run fw cw ρw σw) (ht:Trans ρw σw w Zw' w') (hes:∀e∈es,Acx ρw Zw' e) (g:Goroutine) (hgj:gs[x.j]?=some g) (hg':Is g' fw' cw') (fn:FuncId) (pos:String) :
  PhN P W0 fr cs Y Z c k (l.set i {x with A:=fun b=>x.A b∨(w.heap.size<=b/\b<w'.heap.size),st:=.run fw' cw' ρw Zw'}) B r A0 S0 mp ((gs.map (woken P g g' w')).setIfInBounds x.j g') w' (t++MemOp.ofEvents x.j fn pos es) q:=by
 have hxl:x∈l:=lZ6 hi;have hR:=h.run x hxl fw cw ρw σw hst;have hN:=ht.size;have K:c<w.heap.size:=by obtain⟨cap,tm,hh,_⟩:=h.ch;exact Dq hh
 have hfr:∀b,b<w.heap.size->¬x.A b->w'.heap[b]?=w.heap[b]?:=fun b hb hn=>ht.frame b hb fun o ho=>hn (hR.aw b (Du ho));have hcF:w'.heap[c]?=w.heap[c]?:=hfr c K (h.nc.2.2 x hxl);have hyk:∀y∈l,y.j≠x.j->∀b,y.A b∨y.S b->w'.heap[b]?=w.heap[b]?:=fun y hy hj b hb=>by
  rcases hb with hb|hb
  ·exact hfr b (h.lt b (.inr (.inr ⟨y,hy,hb⟩))) (h.ap y hy x hxl hj b hb).1
  ·exact hfr b (h.lt b (.inr (.inl (h.ss y hy b hb)))) fun hA=>(h.a0 x hxl b hA).2 (h.ss y hy b hb)
 have haw:∀b∈keys Zw',x.A b∨(w.heap.size<=b/\b<w'.heap.size):=fun b hb=>(ht.keys b hb).imp (hR.aw b) id;have hrw:∀b,(ρw b).isSome=true->x.S b∨(x.A b∨(w.heap.size<=b/\b<w'.heap.size)):=fun b hb=>(hR.rw_ b hb).imp id .inl;have I:∀b,((x.A b∨(w.heap.size<=b/\b<w'.heap.size))∨x.S b)->b<w'.heap.size:=fun b hb=>by
  rcases hb with (hb|hb)|hb
  ·exact Pa (h.lt b (.inr (.inr ⟨x,hxl,hb⟩))) hN
  ·exact hb.2
  ·exact Pa (h.lt b (.inr (.inl (h.ss x hxl b hb)))) hN
 have hdo:=Bcn (N:=w'.heap.size) (A:=fun b=>x.A b∨(w.heap.size<=b/\b<w'.heap.size)) hes (fun b o hb=>haw b (Du hb)) hrw I x.j fn pos;have hap:∀y∈l,y.j≠x.j->∀b,(x.A b∨(w.heap.size<=b/\b<w'.heap.size))->¬y.A b/\¬y.S b:=fun y hy hj b hb=>by
  rcases hb with hb|hb
  ·exact h.ap x hxl y hy (Ne.symm hj) b hb
  ·exact⟨fun d=>absurd (h.lt b (.inr (.inr ⟨y,hy,d⟩))) (by omega),fun d=>absurd (h.lt b (.inr (.inl (h.ss y hy b d)))) (by omega)⟩
 have G:∀b,(x.A b∨(w.heap.size<=b/\b<w'.heap.size))->¬A0 b/\¬S0 b:=fun b hb=>by
  rcases hb with hb|hb
  ·exact h.a0 x hxl b hb
  ·exact⟨fun d=>absurd (h.lt b (.inl d)) (by omega),fun d=>absurd (h.lt b (.inr (.inl d))) (by omega)⟩
 have H:∀y∈l,y.j≠x.j->∀op∈MemOp.ofEvents x.j fn pos es,∀b,op.act.touch?=some b->Free w'.heap.size (BL y.A) (BL y.S) b:=fun y hy hj =>
  hdo.free (Akv (hap y hy hj)) (Afm fun b hb d=>(h.a0 y hy b d).2 (h.ss x hxl b hb))
 have L:∀op∈MemOp.ofEvents x.j fn pos es,∀b,op.act.touch?=some b->Free w'.heap.size (BL A0) (BL S0) b :=
  hdo.free (Akv G) (Afm fun b hb d=>h.ds b d (h.ss x hxl b hb))
 have hm:∀{y},y∈l.set i {x with A:=fun b=>x.A b∨(w.heap.size<=b/\b<w'.heap.size),st:=.run fw' cw' ρw Zw'}->y={x with A:=fun b=>x.A b∨(w.heap.size<=b/\b<w'.heap.size),st:=.run fw' cw' ρw Zw'}∨(y∈l/\y.j≠x.j):=fun hy=>Ank h.jn hi hy;have hmj:(l.set i {x with A:=fun b=>x.A b∨(w.heap.size<=b/\b<w'.heap.size),st:=.run fw' cw' ρw Zw'}).map (·.j)=l.map (·.j):=Un hi rfl;have hmR:(l.set i {x with A:=fun b=>x.A b∨(w.heap.size<=b/\b<w'.heap.size),st:=.run fw' cw' ρw Zw'}).map (·.R)=l.map (·.R):=Un hi rfl;exact {
  g0:=fun e=>by
   obtain⟨y,hy,hi⟩:=h.g0 e;exact⟨y,by rw[Ei (Ne.symm (h.j0 x hxl)) hy,Fo (.inl hi.1)],hi⟩
  g0p:=fun z f e=>by
   obtain⟨d,u⟩:=h.g0p z f e;obtain⟨cap,tm,hh,_⟩:=h.ch;exact⟨by rw[Ei (Ne.symm (h.j0 x hxl)) d,woken_recv_open _ _ (hcF.trans hh)],u⟩
  oth:=fun m y M F hy=>by
   have hmj:m≠x.j:=fun e=>by
    obtain⟨v,D,p,C⟩:=F _ (Jy hi) e.symm;cases C
   rcases Jv hy with⟨e,_⟩|⟨_,z,hz,rfl⟩
   ·exact absurd e hmj
   ·have:=h.oth m z M (fun y hy e=>F y (Lg hi hy (by rw[e];exact hmj)) e) hz;rw[Fo this.status];exact this
  j0:=fun y hy=>by
   rcases hm hy with rfl|⟨hy,_⟩
   ·exact h.j0 x hxl
   ·exact h.j0 y hy
  jl:=fun y hy=>by
   rcases hm hy with rfl|⟨hy,_⟩
   ·simpa using h.jl x hxl
   ·simpa using h.jl y hy
  jn:=by rw[hmj];exact h.jn
  run:=fun y hy U T V W e=>by
   rcases hm hy with rfl|⟨hy,hj⟩
   ·cases e;exact⟨⟨g',Lf hgj,hg'⟩,ht.sat,Mn h.below hR.newk ht,haw,hrw,(hR.kn.fresh hN Asq Ajk).own fun op hop=>(hdo.2 op hop).1⟩
   ·refine(h.run y hy _ _ _ _ e).kept ?_ (hyk y hy hj) hN (H y hy hj);obtain⟨z,hz,hi⟩:=(h.run y hy _ _ _ _ e).g;exact⟨z,by rw[Ei hj hz,Fo (.inl hi.1)],hi⟩
  sent:=fun y hy v D p e=>by
   rcases hm hy with rfl|⟨hy,hj⟩
   ·cases e
   ·exact(h.sent y hy v D p e).kept (hyk y hy hj) hN (H y hy hj)
  buf:=fun j v hb=>by
   obtain⟨y,hy,e,D,p,C⟩:=h.buf j v hb;exact⟨y,Lg hi hy (fun ej=>by have:=Vo h.jn hy hxl ej;subst this;rw[hst]at C;cases C),e,D,p,C⟩
  bn:=h.bn
  ch:=by obtain⟨cap,tm,d,u⟩:=h.ch;exact⟨cap,tm,by rw[hcF];exact d,by simpa using u⟩
  sat:=h.sat.kept fun b hb=>by
   rcases hb with hb|hb
   ·by_cases hbc:b=c
    ·rw[hbc];exact hcF
    ·obtain⟨⟨b',y⟩,hy,e⟩:=Lp.1 hb;simp only at e;subst e;have hA:=h.am _ y hy hbc;exact hfr b' (h.lt b' (.inl hA)) fun d=>(h.a0 x hxl b' d).1 hA
   ·rcases h.rm b hb with d|d
    ·exact hfr b (h.lt b (.inr (.inl d))) fun u=>(h.a0 x hxl b u).2 d
    ·exact hfr b (h.lt b (.inl d)) fun u=>(h.a0 x hxl b u).1 d
  hc:=by rw[hmR];exact h.hc
  one:=h.one
  nr:=h.nr
  newk:=h.newk
  below:=Le h.below hR.newk ht
  am:=h.am
  rm:=h.rm
  ap:=fun y hy z hz hj b hb=>by
   rcases hm hy with rfl|⟨hy,hyj⟩<;>rcases hm hz with rfl|⟨hz,hzj⟩
   ·exact absurd rfl hj
   ·exact hap z hz hzj b hb
   ·exact⟨fun d=>(hap y hy hyj b d).1 hb,(h.ap y hy x hxl hyj b hb).2⟩
   ·exact h.ap y hy z hz hj b hb
  a0:=fun y hy b hb=>by
   rcases hm hy with rfl|⟨hy,_⟩
   ·exact G b hb
   ·exact h.a0 y hy b hb
  ds:=h.ds
  ss:=fun y hy b hb=>by
   rcases hm hy with rfl|⟨hy,_⟩
   ·exact h.ss x hxl b hb
   ·exact h.ss y hy b hb
  nc:=⟨h.nc.1,h.nc.2.1,fun y hy d=>by
   rcases hm hy with rfl|⟨hy,_⟩
   ·exact d.elim (h.nc.2.2 x hxl) fun d=>by omega
   ·exact h.nc.2.2 y hy d⟩
  lt:=fun b hb=>by
   rcases hb with hb|hb|⟨y,hy,hb⟩
   ·exact Pa (h.lt b (.inl hb)) hN
   ·exact Pa (h.lt b (.inr (.inl hb))) hN
   ·rcases hm hy with rfl|⟨hy,_⟩
    ·exact I b (.inl hb)
    ·exact Pa (h.lt b (.inr (.inr ⟨y,hy,hb⟩))) hN
  wl:=h.wl.append hdo.1
  clean:=fun O=>hR.kn.noRace (h.clean O) Asq Ajk hdo
  k0:=h.k0.other hN L
  al:=fun n a ha hm'=>by
   rcases Di ha with d|⟨op,d,u,_,_⟩
   ·rcases h.al n a d hm' with h3|⟨y,hy,h3⟩
    ·exact .inl (h3.app _)
    ·by_cases hj:y.j=x.j
     ·have:=Vo h.jn hy hxl hj;subst this;unfold AlOk at h3;rw[hst]at h3;obtain⟨op,E,J⟩:=h3;exact .inr ⟨_,Jy hi,op,by rw[getElem?_append_old (lt_size_of_getElem? E)];exact E,J⟩
     ·exact .inr ⟨y,Lg hi hy hj,h3.app _⟩
   ·exact .inr ⟨_,Jy hi,op,d,(hdo.2 op u).1⟩ }
end
end
end Go.Proofs.YtekhlbdfjkndnaaGreatDoor
