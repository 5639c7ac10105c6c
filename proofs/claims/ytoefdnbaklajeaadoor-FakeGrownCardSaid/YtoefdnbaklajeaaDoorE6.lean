/- Every call of crocuslaw08.FakeGrown returns true, on every schedule, and leaves its arguments as they were: conditions: the two listed package-level variables hold what the program's text lays. -/
import Derived.Test.YtoefdnbaklajeaaDoorE6a
set_option linter.unusedVariables false
set_option linter.unusedSimpArgs false
namespace Go.Proofs.YtoefdnbaklajeaaDoor
open Go
section
variable {mn:Bool} {X:Frame→List Frame→Ro→Own→Cy→Prop} {ρ:Ro} {σ:Own}
theorem c_ExcessE {m o:Market} {g f:Int} {vm:Value} (e:o = m) (hg:Aik m = g) (hf:Ch m = f) (rm:Val ρ vm o):CallsH (CX mn X) 32 #[vm] ρ σ (fun w ρ' σ'=>Ro.le ρ ρ'∧σ' = σ∧∃ v0,w = (.tuple #[(.int .i64 g),v0,(.int .i64 f)])∧Val ρ' v0 (Aje m:List Int)):=by
 subst e hg hf; exact Aek rm
theorem c_CheatsE {W0:World} {m o:Market} {g f:Int} {L:List Int} {vm:Value} (e:o = m) (hg:Akj m = g) (hL:Alc m = L) (hf:Ch m = f) (rm:Val ρ vm o) (hnr:Js σ):CallsH (CY W0) 31 #[vm] ρ σ (fun w ρ' σ'=>Ro.le ρ ρ'∧σ' = σ∧∃ v0,w = (.tuple #[(.int .i64 g),v0,(.int .i64 f)])∧Val ρ' v0 (L:List Int)):=by
 subst e hg hL hf; exact calls_up (Aio rm hnr)
end
theorem houses_pos {m:Market} (ok:MarketOk m) {i:Nat} {s:Sale} (hs:m.sales[i]? = some s):0 < m.houses.length:=by
 obtain ⟨_,h2,h3,_⟩:=ok.sale i s hs
 cases hl:s.sellers with
 | nil=>exact absurd hl h2
 | cons x xs=>have:=h3 0 x (by rw [hl]; rfl); omega
theorem wide_t {a:Sale} {k h:Nat} (hb:((h:Int) == (k:Int)) = true):wideB a k h = true:=by
 have:(h:Int) = (k:Int):=eq_of_beq hb
 unfold wideB; rw [show h = k by omega]; simp
theorem wide_h {a:Sale} {k h:Nat} {b:Bool} (hb:((h:Int) == (k:Int)) = false) (hh:decide ((h:Int) ∈ a.sellers) = b):wideB a k h = b:=by
 have:¬ (h:Int) = (k:Int):=Arm hb
 unfold wideB hasB
 rw [show (h == k) = false from beq_false_of_ne (by omega),Bool.false_or,← hh,Bool.eq_iff_iff,List.any_eq_true,decide_eq_true_iff]
 constructor
 ·rintro ⟨x,hx,he⟩; rw [← (show x = (h:Int) from eq_of_beq he)]; exact hx
 ·intro hx; exact ⟨_,hx,by simp⟩
theorem wide_y {a:Sale} {k h:Nat} (hw:wideB a k h = true):wideTo a k h ++ [(h:Int)] = wideTo a k (h + 1):=by rw [wideTo_succ,hw]; rfl
theorem wide_n {a:Sale} {k h:Nat} (hw:wideB a k h = false):wideTo a k h = wideTo a k (h + 1):=by rw [wideTo_succ,hw]; simp
theorem grown_succ {m:Market} {n j:Nat} {a:FField} (ha:m.fields[j]? = some a):((m.fields.take j).map (growF n) ++ [(⟨a.name,a.house,⟨a.grows.low,min 1000000 (a.grows.high + (n:Int))⟩,a.marks⟩:FField)]) = (m.fields.take (j + 1)).map (growF n):=by
 rw [List.take_add_one,ha,List.map_append]; rfl
set_option maxHeartbeats 8000000 in
set_option maxRecDepth 100000 in
theorem c_FakeGrown {W0:World} {ρ:Ro} {σ:Own} {m:Market} {x:FField} {at_ pick more:Nat} {vm vx:Value} (hg:Glob ρ) (hnr:Js σ) (rm:Val ρ vm m) (rx:Val ρ vx x) (hat:at_ < 256) (hpick:pick < 256) (hmore:more < 65536):Agv (CY W0) 6 10 [vm,vx,(.int .u8 ((at_:Int))),(.int .u8 ((pick:Int))),(.int .u16 ((more:Int)))] ρ σ (fun w ρ' σ'=>ρ' = ρ∧σ' = σ∧w = (.bool (true))):=by
 have hmp:=Nat.mod_le more (pick + 1)
 refine body_fn (n:=346) Tryd.func6 rfl rfl rfl rfl fun Q hret hnor=>?_
 refine w_q rfl rfl fun K1 k1=>?_
 refine Ae rfl (Eb (v:=vm) rfl fun k2=>?_)
 refine Bb (a:=m) rm fun ρ2 l2 r2=>?_
 replace rm:=Asa l2 rm
 replace rx:=Asa l2 rx
 replace hg:=Glob.mono l2 hg
 refine Ae rfl (Eb (v:=vx) rfl fun k3=>?_)
 refine Bb (a:=x) rx fun ρ3 l3 r3=>?_
 replace rm:=Asa l3 rm
 replace rx:=Asa l3 rx
 replace hg:=Glob.mono l3 hg
 replace r2:=Arv l3 r2
 refine l_A (.bool (false)) rfl rfl ?_
 apply Ac
 apply k1
 refine Ai fun K4 k4=>?_
 refine w_q rfl rfl fun K5 k5=>?_
 refine Ak rfl (Ax Lj rfl r2) fun v6 r6=>?_
 refine Ae rfl (Cm (vs:=[v6]) (c_Vast r6) Tryd.func16 rfl rfl ⟨rfl,trivial⟩ fun w7 ρ7 σ7 hc7=>?_)
 obtain ⟨hr7,hs7,b7_,hw7⟩:=hc7
 replace hr7:=hr7.symm; replace hs7:=hs7.symm; subst hr7 hs7 hw7
 refine l_M (.bool (b7_)) rfl rfl ?_
 refine Cn (b7_) (fun b8=>?_) (fun b8=>?_)
 ·refine Ap (Bl rfl rfl rfl b8) ?_
  refine Ap (Bl rfl rfl rfl b8) ?_
  refine Ap (Bl rfl rfl rfl b8) ?_
  refine Aa rfl (Bt rfl b8 (v:=(.bool (true))) rfl) ?_
  apply Ac
  apply k5
  refine Co rfl rfl ?_
  refine w_q rfl rfl fun K9 k9=>?_
  refine Ae rfl (Bn (vs:=[]) (v:=(.bool (true))) (calls_up (c_tells hg hnr)) Tryd.func17 rfl rfl trivial ?_)
  refine l_A (.bool (true)) rfl rfl ?_
  apply Ac
  apply k9
  refine Aj (Arw (Arz l2 l3)) ?_
  refine Aq ?_
  refine hret _ _ _ ?_
  refine ⟨rfl,rfl,Eq.trans (b:=(.bool (true))) rfl ?_⟩
  rfl
 refine Ak (Ar rfl rfl rfl b8) (Ax Lj rfl r2) fun v10 r10=>?_
 refine Ae (Ar rfl rfl rfl b8) (Bn (vs:=[v10]) (v:=(iV (Ch m))) (c_CheckMarket r10) Tryd.func28 rfl rfl ⟨rfl,trivial⟩ ?_)
 refine Aa (Ar rfl rfl rfl b8) (Dg (p:=Ch m) (q:=0) rfl rfl) ?_
 refine Aa rfl (Bm rfl b8 (v:=(.bool (Ch m != 0))) rfl) ?_
 apply Ac
 apply k5
 refine As (t:=Ch m != 0) rfl (fun b11=>?_) (fun b11=>?_)
 ·have q11:=Mb b11
  refine w_q rfl rfl fun K12 k12=>?_
  refine Ae rfl (Bn (vs:=[]) (v:=(.bool (true))) (calls_up (c_tells hg hnr)) Tryd.func17 rfl rfl trivial ?_)
  refine l_A (.bool (true)) rfl rfl ?_
  apply Ac
  apply k12
  refine Aj (Arw (Arz l2 l3)) ?_
  refine Aq ?_
  refine hret _ _ _ ?_
  refine ⟨rfl,rfl,Eq.trans (b:=(.bool (true))) rfl ?_⟩
  rfl
 have hm0:=Jh b11
 have ok:=Qv hm0
 have hn8:=ok.nsales
 have hh5:=Hp ok
 have hnf:=ok.nfields
 have q11:=Jh b11
 refine Al ?_
 apply k4
 refine w_q rfl rfl fun K13 k13=>?_
 refine Ak rfl (Ax Lj rfl r2) fun v14 r14=>?_
 refine Ae rfl (Cm (vs:=[v14]) (c_ExcessE rfl rfl hm0 r14) Tryd.func32 rfl rfl ⟨rfl,trivial⟩ fun w15 ρ15 σ15 hc15=>?_)
 obtain ⟨l15,s15,v15_0,w15e,r15_0⟩:=hc15
 replace s15:=s15.symm; subst s15 w15e
 replace hg:=Glob.mono l15 hg
 replace r2:=Arv l15 r2
 replace r3:=Arv l15 r3
 replace r14:=Asa l15 r14
 refine l_M (.tuple #[(iV (Aik m)),v15_0,(iV (0))]) rfl rfl ?_
 refine Aa rfl (Bk (vs:=#[(iV (Aik m)),v15_0,(iV (0))]) rfl (v:=(iV (Aik m))) rfl) ?_
 refine Aa rfl (Bk (vs:=#[(iV (Aik m)),v15_0,(iV (0))]) rfl (v:=v15_0) rfl) ?_
 refine Aa rfl (Bk (vs:=#[(iV (Aik m)),v15_0,(iV (0))]) rfl (v:=(iV (0))) rfl) ?_
 refine l_A (iV (Aik m)) rfl rfl ?_
 refine l_A v15_0 rfl rfl ?_
 refine l_A (iV (0)) rfl rfl ?_
 apply Ac
 apply k13
 refine w_q rfl rfl fun K16 k16=>?_
 refine Ak rfl (Ax Lj rfl r2) fun v17 r17=>?_
 refine Ae rfl (Cm (vs:=[v17]) (c_CheatsE rfl rfl rfl hm0 r17 hnr) Tryd.func31 rfl rfl ⟨rfl,trivial⟩ fun w18 ρ18 σ18 hc18=>?_)
 obtain ⟨l18,s18,v18_0,w18e,r18_0⟩:=hc18
 replace s18:=s18.symm; subst s18 w18e
 replace hg:=Glob.mono l18 hg
 replace r2:=Arv l18 r2
 replace r3:=Arv l18 r3
 replace r17:=Asa l18 r17
 refine l_M (.tuple #[(iV (Akj m)),v18_0,(iV (0))]) rfl rfl ?_
 refine Aa rfl (Bk (vs:=#[(iV (Akj m)),v18_0,(iV (0))]) rfl (v:=(iV (Akj m))) rfl) ?_
 refine Aa rfl (Bk (vs:=#[(iV (Akj m)),v18_0,(iV (0))]) rfl (v:=v18_0) rfl) ?_
 refine Aa rfl (Bk (vs:=#[(iV (Akj m)),v18_0,(iV (0))]) rfl (v:=(iV (0))) rfl) ?_
 refine l_A (iV (Akj m)) rfl rfl ?_
 refine l_A v18_0 rfl rfl ?_
 refine l_A (iV (0)) rfl rfl ?_
 apply Ac
 apply k16
 refine Ai fun K19 k19=>?_
 refine w_q rfl rfl fun K20 k20=>?_
 refine l_M (iV (0)) rfl rfl ?_
 refine Aa rfl (Dg (p:=0) (q:=0) rfl rfl) ?_
 refine l_M (.bool (false)) rfl rfl ?_
 refine l_M (iV (0)) (Ar rfl rfl rfl rfl) rfl ?_
 refine Aa (Ar rfl rfl rfl rfl) (Dg (p:=0) (q:=0) rfl rfl) ?_
 refine Aa rfl (Bm rfl rfl (v:=(.bool (false))) rfl) ?_
 apply Ac
 apply k20
 refine Cg rfl rfl ?_
 refine Al ?_
 apply k19
 refine Ai fun K21 k21=>?_
 refine w_q rfl rfl fun K22 k22=>?_
 refine Ak rfl (Ay Market.f_sales Tryd.underlying26 rfl rfl Pq (by decide) rfl r2) fun v23 r23=>?_
 refine Ak rfl (Ax Pq rfl r23) fun v24 r24=>?_
 have g25:=Val.len r24
 refine Aa rfl (Ce (el:=59) Tryd.underlying24 rfl r24) ?_
 refine Aa rfl (Gk (p:=((m.sales.length:Nat):Int)) (q:=0) rfl rfl) ?_
 apply Ac
 apply k22
 refine As (t:=decide (((m.sales.length:Nat):Int) > 0)) rfl (fun b26=>?_) (fun b26=>?_)
 ·have q26:=of_decide_eq_true b26
  refine w_q rfl rfl fun K27 k27=>?_
  refine Ak rfl (Ax Lj rfl r2) fun v28 r28=>?_
  refine Ae rfl (Ct Aoj fun k29=>?_)
  obtain ⟨c30_0,c30_1,c30_2,c30_3,e30_,i30_1,i30_2,i30_3,i30_4⟩:=Market.open_ r28
  have e30_c:v28.cells = [c30_0,c30_1,c30_2,c30_3].toArray:=by rw [e30_]; rfl
  refine Cx rfl (Ld (i:=0) (vs:=[c30_0,c30_1,c30_2,c30_3]) (c':=[c30_0,c30_1,c30_2,c30_3]) ⟨_,Ab Tryd.typeInfo26,rfl⟩ rfl rfl e30_c rfl (Xv ⟨(Val.single_l i30_1),(Val.single_l i30_2),(Val.single_l i30_3),(Val.single_l i30_4),trivial⟩) rfl (Nat.le_of_ble_eq_true rfl) rfl ?_)
  apply Ac
  apply k27
  refine w_q rfl rfl fun K31 k31=>?_
  refine l_M (.int .u8 ((at_:Int))) rfl rfl ?_
  refine Aa rfl (Abu (p:=(at_:Int)) (z:=(at_:Int)) Tryd.underlying5 Tryd.underlying3 rfl (Bo rfl (by omega) (by omega))) ?_
  refine Ak rfl (Ay Market.f_sales Tryd.underlying26 rfl rfl Pq (by decide) rfl r2) fun v32 r32=>?_
  refine Ak rfl (Ax Pq rfl r32) fun v33 r33=>?_
  have g34:=Val.len r33
  refine Aa rfl (Ce (el:=59) Tryd.underlying24 rfl r33) ?_
  refine Aa rfl (y_rem (p:=(at_:Int)) (q:=((m.sales.length:Nat):Int)) rfl rfl (by omega) (z:=(((at_ % m.sales.length):Nat):Int)) rfl) ?_
  obtain ⟨i,hi_⟩:∃ z:Nat,z = (at_ % m.sales.length):=⟨_,rfl⟩
  refine Aa rfl (Cp (v:=(iV (i:Int))) ((show _ = Value.int .i64 ((((at_ % m.sales.length)):Nat):Int) from rfl).trans (by rw [hi_]))) ?_
  have hi:i < m.sales.length:=by rw [hi_]; exact Nat.mod_lt _ (by omega)
  apply Ac
  apply k31
  refine Ai fun K35 k35=>?_
  refine Dc [0,1,2,3,4,5,6,7,8,9,10,11,12] (by kernel_rfl) rfl rfl ?_
  refine Cd (i:=1) [o0,o1,o0,o0,o0,o0,o0,o0,o0,o0,o0,o0,o0] rfl (by kernel_rfl) rfl Ary rfl (Ay Market.f_sales Tryd.underlying26 rfl rfl Pq (by decide) rfl r2) fun v36 r36=>?_
  refine Cd (i:=2) [o0,o1,o1,o0,o0,o0,o0,o0,o0,o0,o0,o0,o0] rfl (by kernel_rfl) rfl Ary rfl (Ax Pq rfl r36) fun v37 r37=>?_
  refine Be (i:=3) [o0,o1,o1,o1,o0,o0,o0,o0,o0,o0,o0,o0,o0] rfl (by kernel_rfl) rfl Ary rfl (Ah (v:=(iV ((i:Int)))) rfl) ?_
  refine Cd (i:=4) [o0,o1,o1,o1,o1,o0,o0,o0,o0,o0,o0,o0,o0] rfl (by kernel_rfl) rfl Ary rfl (Abe i Tryd.underlying24 Su rfl r37 (q:=(i:Int)) rfl rfl (by first | omega | (simp only [List.nil_append]; omega))) fun v38 r38=>?_
  refine Cd (i:=6) [o0,o1,o1,o1,o1,o0,o1,o0,o0,o0,o0,o0,o0] rfl (by kernel_rfl) rfl Ary rfl (Ay Market.f_sales Tryd.underlying26 rfl rfl Pq (by decide) rfl r2) fun v39 r39=>?_
  refine Cd (i:=7) [o0,o1,o1,o1,o1,o0,o1,o1,o0,o0,o0,o0,o0] rfl (by kernel_rfl) rfl Ary rfl (Ax Pq rfl r39) fun v40 r40=>?_
  refine Be (i:=8) [o0,o1,o1,o1,o1,o0,o1,o1,o1,o0,o0,o0,o0] rfl (by kernel_rfl) rfl Ary rfl (Ah (v:=(iV ((i:Int)))) rfl) ?_
  refine Cd (i:=9) [o0,o1,o1,o1,o1,o0,o1,o1,o1,o1,o0,o0,o0] rfl (by kernel_rfl) rfl Ary rfl (y_slice_hi i Tryd.underlying24 Su rfl r40 (q:=(i:Int)) rfl rfl (by first | omega | (simp only [List.nil_append]; omega))) fun v41 r41=>?_
  refine Dj (i:=0) [o1,o1,o1,o1,o1,o0,o1,o1,o1,o1,o0,o0,o0] rfl (by kernel_rfl) rfl rfl (Bi (α:=Sale) (xs:=[]) (vs:=[]) Tryd.underlying24 Su Aeo rfl (by decide) rfl trivial rfl (by decide) fun k42 cs42 R42=>⟨Ary,?_⟩)
  have G42:Grow ρ18 59 (.slice (some ⟨k42,0,none⟩) 0 0) ([]:List Sale) [(k42,Res.obj (.cells cs42.toArray 59 (0,0)))]:=Bs R42 rfl (by decide)
  refine Dj (i:=5) [o1,o1,o1,o1,o1,o1,o1,o1,o1,o1,o0,o0,o0] rfl (by kernel_rfl) rfl rfl (Fx (σ:=((k29,Res.obj (Obj.cells #[c30_0,c30_1,c30_2,c30_3] 26 (0,0))) :: σ)) (gr:=[(k42,Res.obj (.cells cs42.toArray 59 (0,0)))]) (xs:=([]:List Sale)) (ys:=(m.sales.drop i)) Tryd.underlying24 Tryd.underlying24 (Ab Tryd.typeInfo59) rfl (Nat.le_of_ble_eq_true rfl) rfl rfl rfl rfl G42 r38 (by simp only [List.length_append,List.length_cons,List.length_nil,List.length_map,List.length_take,List.length_drop] at *; omega) fun v43 gr43 G43=>⟨Ary,?_⟩)
  refine Dj (i:=10) [o1,o1,o1,o1,o1,o1,o1,o1,o1,o1,o1,o0,o0] rfl (by kernel_rfl) rfl rfl (Fx (σ:=((k29,Res.obj (Obj.cells #[c30_0,c30_1,c30_2,c30_3] 26 (0,0))) :: σ)) (gr:=gr43) (xs:=(([]:List Sale) ++ (m.sales.drop i))) (ys:=(m.sales.take i)) Tryd.underlying24 Tryd.underlying24 (Ab Tryd.typeInfo59) rfl (Nat.le_of_ble_eq_true rfl) rfl rfl rfl rfl G43 r41 (by simp only [List.length_append,List.length_cons,List.length_nil,List.length_map,List.length_take,List.length_drop] at *; omega) fun v44 gr44 G44=>⟨Ary,?_⟩)
  refine Bg (i:=11) [o1,o1,o1,o1,o1,o1,o1,o1,o1,o1,o1,o1,o0] rfl (by kernel_rfl) rfl Ary rfl (Cb Tryd.underlying26 rfl rfl ⟨_,Ab Tryd.typeInfo24,rfl⟩ (by decide) rfl rfl) ?_
  refine Ej (σ':=((k29,Res.obj (Obj.cells #[c30_0,c30_1,c30_2,c30_3] 26 (0,0))) :: (gr44 ++ σ))) (Arx (List.perm_append_comm_assoc gr44 ([(k29,Res.obj (Obj.cells #[c30_0,c30_1,c30_2,c30_3] 26 (0,0)))]) _)) id ?_
  refine Fi (i:=12) [o1,o1,o1,o1,o1,o1,o1,o1,o1,o1,o1,o1,o1] rfl (by kernel_rfl) rfl rfl (Cz (j:=0) (v:=v44) ⟨_,Ab Tryd.typeInfo24,rfl⟩ rfl rfl (Grow.single G44) rfl (Nat.le_of_ble_eq_true rfl) ⟨Ary,?_⟩)
  refine Ec rfl ?_
  apply k35
  refine w_q rfl rfl fun K45 k45=>?_
  refine Bj (σ':=(gr44 ++ ((k29,Res.obj (Obj.cells #[c30_0,c30_1,c30_2,v44] 26 (0,0))) :: σ))) (Arx (List.perm_append_comm_assoc ([(k29,Res.obj (Obj.cells #[c30_0,c30_1,c30_2,v44] 26 (0,0)))]) gr44 _)) ?_
  refine Ca G44 fun ρ46 l46 r46=>?_
  replace hg:=Glob.mono l46 hg
  replace r2:=Arv l46 r2
  replace r3:=Arv l46 r3
  replace r18_0:=Asa l46 r18_0
  replace i30_1:=Asa l46 i30_1
  replace i30_2:=Asa l46 i30_2
  replace i30_3:=Asa l46 i30_3
  refine Ae rfl (Xt (i:=0) (cs:=[c30_0,c30_1,c30_2,v44]) (rs:=[]) ⟨_,Tryd.underlying26,rfl⟩ ⟨_,Ab Tryd.typeInfo26,rfl⟩ rfl rfl rfl rfl ?_)
  have r47:Val ρ46 (.agg #[c30_0,c30_1,c30_2,v44]) (⟨m.houses,m.marks,m.fields,((([]:List Sale) ++ (m.sales.drop i)) ++ (m.sales.take i))⟩:Market):=Market.shut (x:=(⟨m.houses,m.marks,m.fields,((([]:List Sale) ++ (m.sales.drop i)) ++ (m.sales.take i))⟩:Market)) i30_1 i30_2 i30_3 r46
  obtain ⟨hz_turn,hp_turn,hq_turn,hl_turn⟩:=turn_law (m:=m) (i:=i) hm0
  refine Ae rfl (Cm (vs:=[(.agg #[c30_0,c30_1,c30_2,v44])]) (c_ExcessE (m:=(⟨m.houses,m.marks,m.fields,m.sales.drop i ++ m.sales.take i⟩:Market)) (by simp only [List.nil_append]) hp_turn hz_turn r47) Tryd.func32 rfl rfl ⟨rfl,trivial⟩ fun w49 ρ49 σ49 hc49=>?_)
  obtain ⟨l49,s49,v49_0,w49e,r49_0⟩:=hc49
  replace s49:=s49.symm; subst s49 w49e
  replace hg:=Glob.mono l49 hg
  replace r2:=Arv l49 r2
  replace r3:=Arv l49 r3
  replace r18_0:=Asa l49 r18_0
  replace i30_1:=Asa l49 i30_1
  replace i30_2:=Asa l49 i30_2
  replace i30_3:=Asa l49 i30_3
  replace r46:=Asa l49 r46
  replace r47:=Asa l49 r47
  refine l_M (.tuple #[(iV (Aik m)),v49_0,(iV (0))]) rfl rfl ?_
  refine Aa rfl (Bk (vs:=#[(iV (Aik m)),v49_0,(iV (0))]) rfl (v:=(iV (Aik m))) rfl) ?_
  refine Aa rfl (Bk (vs:=#[(iV (Aik m)),v49_0,(iV (0))]) rfl (v:=v49_0) rfl) ?_
  refine Aa rfl (Bk (vs:=#[(iV (Aik m)),v49_0,(iV (0))]) rfl (v:=(iV (0))) rfl) ?_
  refine l_A (iV (Aik m)) rfl rfl ?_
  refine l_A v49_0 rfl rfl ?_
  refine l_A (iV (0)) rfl rfl ?_
  apply Ac
  apply k45
  refine w_q rfl rfl fun K50 k50=>?_
  refine Ae rfl (Xt (i:=0) (cs:=[c30_0,c30_1,c30_2,v44]) (rs:=[]) ⟨_,Tryd.underlying26,rfl⟩ ⟨_,Ab Tryd.typeInfo26,rfl⟩ rfl rfl rfl rfl ?_)
  have r51:Val ρ49 (.agg #[c30_0,c30_1,c30_2,v44]) (⟨m.houses,m.marks,m.fields,((([]:List Sale) ++ (m.sales.drop i)) ++ (m.sales.take i))⟩:Market):=Market.shut (x:=(⟨m.houses,m.marks,m.fields,((([]:List Sale) ++ (m.sales.drop i)) ++ (m.sales.take i))⟩:Market)) i30_1 i30_2 i30_3 r46
  refine Ae rfl (Cm (vs:=[(.agg #[c30_0,c30_1,c30_2,v44])]) (c_CheatsE (m:=(⟨m.houses,m.marks,m.fields,m.sales.drop i ++ m.sales.take i⟩:Market)) (by simp only [List.nil_append]) hq_turn hl_turn hz_turn r51 (noRecv_obj hnr)) Tryd.func31 rfl rfl ⟨rfl,trivial⟩ fun w52 ρ52 σ52 hc52=>?_)
  obtain ⟨l52,s52,v52_0,w52e,r52_0⟩:=hc52
  replace s52:=s52.symm; subst s52 w52e
  replace hg:=Glob.mono l52 hg
  replace r2:=Arv l52 r2
  replace r3:=Arv l52 r3
  replace r18_0:=Asa l52 r18_0
  replace i30_1:=Asa l52 i30_1
  replace i30_2:=Asa l52 i30_2
  replace i30_3:=Asa l52 i30_3
  replace r46:=Asa l52 r46
  replace r51:=Asa l52 r51
  refine l_M (.tuple #[(iV (Akj m)),v52_0,(iV (0))]) rfl rfl ?_
  refine Aa rfl (Bk (vs:=#[(iV (Akj m)),v52_0,(iV (0))]) rfl (v:=(iV (Akj m))) rfl) ?_
  refine Aa rfl (Bk (vs:=#[(iV (Akj m)),v52_0,(iV (0))]) rfl (v:=v52_0) rfl) ?_
  refine Aa rfl (Bk (vs:=#[(iV (Akj m)),v52_0,(iV (0))]) rfl (v:=(iV (0))) rfl) ?_
  refine l_A (iV (Akj m)) rfl rfl ?_
  refine l_A v52_0 rfl rfl ?_
  refine l_A (iV (0)) rfl rfl ?_
  apply Ac
  apply k50
  refine Ai fun K53 k53=>?_
  refine w_q rfl rfl fun K54 k54=>?_
  refine l_M (iV (0)) rfl rfl ?_
  refine Aa rfl (Dg (p:=0) (q:=0) rfl rfl) ?_
  refine l_M (.bool (false)) rfl rfl ?_
  refine l_M (iV (0)) (Ar rfl rfl rfl rfl) rfl ?_
  refine Aa (Ar rfl rfl rfl rfl) (Dg (p:=0) (q:=0) rfl rfl) ?_
  refine Aa rfl (Bm rfl rfl (v:=(.bool (false))) rfl) ?_
  refine l_M (.bool (false)) rfl rfl ?_
  refine l_M (iV (Aik m)) (Ar rfl rfl rfl rfl) rfl ?_
  refine l_M (iV (Aik m)) (Ar rfl rfl rfl rfl) rfl ?_
  refine Aa (Ar rfl rfl rfl rfl) (Dg (p:=Aik m) (q:=Aik m) rfl rfl) ?_
  refine Aa rfl (Bm rfl rfl (v:=(.bool (Aik m != Aik m))) rfl) ?_
  refine l_M (.bool (Aik m != Aik m)) rfl rfl ?_
  refine l_M (iV (Akj m)) (Ar rfl rfl rfl (by simp)) rfl ?_
  refine l_M (iV (Akj m)) (Ar rfl rfl rfl (by simp)) rfl ?_
  refine Aa (Ar rfl rfl rfl (by simp)) (Dg (p:=Akj m) (q:=Akj m) rfl rfl) ?_
  refine Aa rfl (Bm rfl (by simp) (v:=(.bool (Akj m != Akj m))) rfl) ?_
  refine l_M (.bool (Akj m != Akj m)) rfl rfl ?_
  refine l_M v52_0 (Ar rfl rfl rfl (by simp)) rfl ?_
  refine l_M v18_0 (Ar rfl rfl rfl (by simp)) rfl ?_
  refine Ae (Ar rfl rfl rfl (by simp)) (Bn (vs:=[v52_0,v18_0]) (v:=(.bool (decide (Alc m = Alc m)))) (Oo r52_0 r18_0) Tryd.func27 rfl rfl ⟨rfl,rfl,trivial⟩ ?_)
  refine Aa (Ar rfl rfl rfl (by simp)) (Ix (k:=decide (Alc m = Alc m)) rfl) ?_
  refine Aa rfl (Bm rfl (by simp) (v:=(.bool (!(decide (Alc m = Alc m))))) rfl) ?_
  apply Ac
  apply k54
  refine Cg rfl (not_t (by simp)) ?_
  refine Al ?_
  apply k53
  refine w_q rfl rfl fun K55 k55=>?_
  refine Ae rfl (Bi (α:=Sale) (xs:=[]) (vs:=[]) Tryd.underlying24 Su Aeo rfl (by decide) rfl trivial rfl (by decide) fun k56 cs56 R56=>?_)
  have G56:Grow ρ52 59 (.slice (some ⟨k56,0,none⟩) 0 0) ([]:List Sale) [(k56,Res.obj (.cells cs56.toArray 59 (0,0)))]:=Bs R56 rfl (by decide)
  refine Ak rfl (Ay Market.f_sales Tryd.underlying26 rfl rfl Pq (by decide) rfl r2) fun v57 r57=>?_
  refine Ak rfl (Ax Pq rfl r57) fun v58 r58=>?_
  refine Ae rfl (Fx (σ:=((k29,Res.obj (Obj.cells #[c30_0,c30_1,c30_2,v44] 26 (0,0))) :: σ)) (gr:=[(k56,Res.obj (.cells cs56.toArray 59 (0,0)))]) (xs:=([]:List Sale)) (ys:=m.sales) Tryd.underlying24 Tryd.underlying24 (Ab Tryd.typeInfo59) rfl (Nat.le_of_ble_eq_true rfl) rfl rfl rfl rfl G56 r58 (by simp only [List.length_append,List.length_cons,List.length_nil,List.length_map,List.length_take,List.length_drop] at *; omega) fun v59 gr59 G59=>?_)
  refine Aa rfl (Cb Tryd.underlying26 rfl rfl ⟨_,Ab Tryd.typeInfo24,rfl⟩ (by decide) rfl rfl) ?_
  refine Bj (σ':=((k29,Res.obj (Obj.cells #[c30_0,c30_1,c30_2,v44] 26 (0,0))) :: (gr59 ++ σ))) (Arx (List.perm_append_comm_assoc gr59 ([(k29,Res.obj (Obj.cells #[c30_0,c30_1,c30_2,v44] 26 (0,0)))]) _)) ?_
  refine Cx rfl (Cz (j:=0) (v:=v59) ⟨_,Ab Tryd.typeInfo24,rfl⟩ rfl rfl (Grow.single G59) rfl (Nat.le_of_ble_eq_true rfl) ?_)
  apply Ac
  apply k55
  refine Ai fun K60 k60=>?_
  refine o_begin (((k29,Res.obj (Obj.cells #[c30_0,c30_1,c30_2,v59] 26 (0,0))) :: (gr59 ++ []))) [0,1,2,3,4,5,6,7,8,9,10,11,12,14] (by kernel_rfl) rfl rfl ?_
  refine o_val (i:=0) Apx rfl (by kernel_rfl) rfl ⟨Ary,(by repeat first | exact subN | refine subC ?_ | refine subG ?_ | refine subB ?_ | refine subL ?_)⟩ rfl (Yld.o (Cb Tryd.underlying26 rfl rfl ⟨_,Ab Tryd.typeInfo24,rfl⟩ (by decide) rfl rfl)) ?_
  refine o_val (i:=1) Arn rfl (by kernel_rfl) rfl ⟨Ary,(by repeat first | exact subN | refine subC ?_ | refine subG ?_ | refine subB ?_ | refine subL ?_)⟩ rfl (y_loadOC (v:=v59) ⟨_,Tryd.underlying24,rfl⟩ rfl (List.mem_cons_self ..) rfl) ?_
  refine o_val (i:=2) Aqz rfl (by kernel_rfl) rfl ⟨Ary,(by repeat first | exact subN | refine subC ?_ | refine subG ?_ | refine subB ?_ | refine subL ?_)⟩ rfl (Yld.o (Ah (v:=(iV ((i:Int)))) rfl)) ?_
  refine o_val (i:=3) Arc rfl (by kernel_rfl) rfl ⟨Ary,(by repeat first | exact subN | refine subC ?_ | refine subG ?_ | refine subB ?_ | refine subL ?_)⟩ rfl (Yld.o (Cb Tryd.underlying26 rfl rfl ⟨_,Ab Tryd.typeInfo24,rfl⟩ (by decide) rfl rfl)) ?_
  refine o_val (i:=4) Ark rfl (by kernel_rfl) rfl ⟨Ary,(by repeat first | exact subN | refine subC ?_ | refine subG ?_ | refine subB ?_ | refine subL ?_)⟩ rfl (y_loadOC (v:=v59) ⟨_,Tryd.underlying24,rfl⟩ rfl (List.mem_cons_self ..) rfl) ?_
  refine o_val (i:=5) Aqg rfl (by kernel_rfl) rfl ⟨Ary,(by repeat first | exact subN | refine subC ?_ | refine subG ?_ | refine subB ?_ | refine subL ?_)⟩ rfl (Yld.o (Ah (v:=(iV ((i:Int)))) rfl)) ?_
  refine o_val (i:=6) Aqb rfl (by kernel_rfl) rfl ⟨Ary,(by repeat first | exact subN | refine subC ?_ | refine subG ?_ | refine subB ?_ | refine subL ?_)⟩ rfl (Yld.o (Nm i Tryd.underlying24 Su.info rfl G59 (q:=(i:Int)) rfl rfl (by first | omega | (simp only [List.nil_append]; omega)) rfl)) ?_
  refine o_val (i:=7) Aoa rfl (by kernel_rfl) rfl ⟨Ary,(by repeat first | exact subN | refine subC ?_ | refine subG ?_ | refine subB ?_ | refine subL ?_)⟩ rfl (Yld.o (Cb (off':=i * Dat.k Sale + 0) Tryd.underlying59 rfl rfl ⟨_,Ab Tryd.typeInfo3,rfl⟩ (by decide) rfl rfl)) ?_
  obtain ⟨a62,ha62⟩:=Ed (xs:=(([]:List Sale) ++ m.sales)) (i:=i) (by first | omega | (simp only [List.nil_append]; omega))
  have hs_a62:m.sales[i]? = some a62:=by simpa only [List.nil_append] using ha62
  have gs_a62:=ok.sale _ _ hs_a62
  have ⟨g61a,g61b⟩:=grow_g64 G59 ha62
  refine o_val (i:=8) Amy rfl (by kernel_rfl) rfl ⟨Ary,(by repeat first | exact subN | refine subC ?_ | refine subG ?_ | refine subB ?_ | refine subL ?_)⟩ rfl (y_loadGg G59 (fun p hp=>(List.mem_cons_of_mem _ (List.mem_append_left _ hp))) ha62 ⟨_,Tryd.underlying3,rfl⟩ rfl rfl) ?_
  refine o_val1 (i:=9) Anr rfl (by kernel_rfl) rfl ⟨Ary,(by repeat first | exact subN | refine subC ?_ | refine subG ?_ | refine subB ?_ | refine subL ?_)⟩ rfl (Yld.o (Ah (v:=(.int .u16 ((more:Int)))) rfl)) ⟨Ary,(by repeat first | exact subN | refine subC ?_ | refine subG ?_ | refine subB ?_ | refine subL ?_)⟩ ?_
  refine o_val1 (i:=10) [o1,o1,o1,o1,o1,o1,o1,o1,o1,o1,o1,o0,o0,o0,o0,o0] rfl (by kernel_rfl) rfl ⟨Ary,(by repeat first | exact subN | refine subC ?_ | refine subG ?_ | refine subB ?_ | refine subL ?_)⟩ rfl (Yld.o (Abu (p:=(more:Int)) (z:=(more:Int)) Tryd.underlying68 Tryd.underlying3 rfl (Bo rfl (by omega) (by omega)))) ⟨Ary,(by repeat first | exact subN | refine subC ?_ | refine subG ?_ | refine subB ?_ | refine subL ?_)⟩ ?_
  refine o_val1 (i:=11) [o1,o1,o1,o1,o1,o1,o1,o1,o1,o1,o1,o1,o0,o0,o0,o0] rfl (by kernel_rfl) rfl ⟨Ary,(by repeat first | exact subN | refine subC ?_ | refine subG ?_ | refine subB ?_ | refine subL ?_)⟩ rfl (Yld.o (Oq (p:=a62.grams) (q:=(more:Int)) rfl rfl (z:=(a62.grams - (more:Int))) (Bo (by rfl) (by omega) (by omega)))) ⟨Ary,(by repeat first | exact subN | refine subC ?_ | refine subG ?_ | refine subB ?_ | refine subL ?_)⟩ ?_
  refine o_val1 (i:=12) Ans rfl (by kernel_rfl) rfl ⟨Ary,(by repeat first | exact subN | refine subC ?_ | refine subG ?_ | refine subB ?_ | refine subL ?_)⟩ rfl (Yld.o (Aqd (p:=0) (q:=(a62.grams - (more:Int))) rfl rfl)) ⟨Ary,(by repeat first | exact subN | refine subC ?_ | refine subG ?_ | refine subB ?_ | refine subL ?_)⟩ ?_
  refine o_val1 (i:=13) Apc rfl (by kernel_rfl) rfl ⟨Ary,(by repeat first | exact subN | refine subC ?_ | refine subG ?_ | refine subB ?_ | refine subL ?_)⟩ rfl (Yld.o (Nm i Tryd.underlying24 Su.info rfl G59 (q:=(i:Int)) rfl rfl (by first | omega | (simp only [List.nil_append]; omega)) rfl)) ⟨Ary,(by repeat first | exact subN | refine subC ?_ | refine subG ?_ | refine subB ?_ | refine subL ?_)⟩ ?_
  refine o_val1 (i:=14) Amv rfl (by kernel_rfl) rfl ⟨Ary,(by repeat first | exact subN | refine subC ?_ | refine subG ?_ | refine subB ?_ | refine subL ?_)⟩ rfl (Yld.o (Cb (off':=i * Dat.k Sale + 0) Tryd.underlying59 rfl rfl ⟨_,Ab Tryd.typeInfo3,rfl⟩ (by decide) rfl rfl)) ⟨Ary,(by repeat first | exact subN | refine subC ?_ | refine subG ?_ | refine subB ?_ | refine subL ?_)⟩ ?_
  refine o_perm (σ':=(gr59 ++ ((k29,Res.obj (Obj.cells #[c30_0,c30_1,c30_2,v59] 26 (0,0))) :: σ))) (List.perm_append_comm_assoc ([(k29,Res.obj (Obj.cells #[c30_0,c30_1,c30_2,v59] 26 (0,0)))]) gr59 _) ?_
  refine o_runLN (i:=15) Apa rfl (by kernel_rfl) (by kernel_rfl) rfl rfl (Jm (σ:=((k29,Res.obj (Obj.cells #[c30_0,c30_1,c30_2,v59] 26 (0,0))) :: σ)) (gr:=gr59) (i:=i) (o:=0) (v:=v59) (w:=(iV ((max 0 ((a62.grams - (more:Int))))))) (z:=a62) (a:=(⟨(max 0 ((a62.grams - (more:Int)))),a62.sellers⟩:Sale)) ⟨_,Ab Tryd.typeInfo3,rfl⟩ rfl rfl (by decide) rfl rfl G59 ha62 (fun cs h=>sale_set0 (z:=a62) (by constructor <;> omega) cs h) fun gr63 G63=>?_)
  refine o_end rfl ?_
  apply k60
  refine w_q rfl rfl fun K64 k64=>?_
  refine Ca G63 fun ρ65 l65 r65=>?_
  replace hg:=Glob.mono l65 hg
  replace r2:=Arv l65 r2
  replace r3:=Arv l65 r3
  replace i30_1:=Asa l65 i30_1
  replace i30_2:=Asa l65 i30_2
  replace i30_3:=Asa l65 i30_3
  refine Ae rfl (Xt (i:=0) (cs:=[c30_0,c30_1,c30_2,v59]) (rs:=[]) ⟨_,Tryd.underlying26,rfl⟩ ⟨_,Ab Tryd.typeInfo26,rfl⟩ rfl rfl rfl rfl ?_)
  have r66:Val ρ65 (.agg #[c30_0,c30_1,c30_2,v59]) (⟨m.houses,m.marks,m.fields,(((([]:List Sale) ++ m.sales)).set i ((⟨(max 0 ((a62.grams - (more:Int)))),a62.sellers⟩:Sale)))⟩:Market):=Market.shut (x:=(⟨m.houses,m.marks,m.fields,(((([]:List Sale) ++ m.sales)).set i ((⟨(max 0 ((a62.grams - (more:Int)))),a62.sellers⟩:Sale)))⟩:Market)) i30_1 i30_2 i30_3 r65
  obtain ⟨hz_less,hp0_less,hq0_less⟩:=less_law (n:=more) hm0 hs_a62
  obtain ⟨p_less,hp_less⟩:∃ z,Aik (⟨m.houses,m.marks,m.fields,m.sales.set i ⟨max 0 (a62.grams - (more:Int)),a62.sellers⟩⟩:Market) = z:=⟨_,rfl⟩
  obtain ⟨q_less,hq_less⟩:∃ z,Akj (⟨m.houses,m.marks,m.fields,m.sales.set i ⟨max 0 (a62.grams - (more:Int)),a62.sellers⟩⟩:Market) = z:=⟨_,rfl⟩
  rw [hp_less] at hp0_less; rw [hq_less] at hq0_less
  refine Ae rfl (Cm (vs:=[(.agg #[c30_0,c30_1,c30_2,v59])]) (c_ExcessE (m:=(⟨m.houses,m.marks,m.fields,m.sales.set i ⟨max 0 (a62.grams - (more:Int)),a62.sellers⟩⟩:Market)) (by simp only [List.nil_append]) hp_less hz_less r66) Tryd.func32 rfl rfl ⟨rfl,trivial⟩ fun w68 ρ68 σ68 hc68=>?_)
  obtain ⟨l68,s68,v68_0,w68e,r68_0⟩:=hc68
  replace s68:=s68.symm; subst s68 w68e
  replace hg:=Glob.mono l68 hg
  replace r2:=Arv l68 r2
  replace r3:=Arv l68 r3
  replace i30_1:=Asa l68 i30_1
  replace i30_2:=Asa l68 i30_2
  replace i30_3:=Asa l68 i30_3
  replace r65:=Asa l68 r65
  replace r66:=Asa l68 r66
  refine l_M (.tuple #[(iV (p_less)),v68_0,(iV (0))]) rfl rfl ?_
  refine Aa rfl (Bk (vs:=#[(iV (p_less)),v68_0,(iV (0))]) rfl (v:=(iV (p_less))) rfl) ?_
  refine Aa rfl (Bk (vs:=#[(iV (p_less)),v68_0,(iV (0))]) rfl (v:=v68_0) rfl) ?_
  refine Aa rfl (Bk (vs:=#[(iV (p_less)),v68_0,(iV (0))]) rfl (v:=(iV (0))) rfl) ?_
  refine l_A (iV (p_less)) rfl rfl ?_
  refine l_A (iV (0)) rfl rfl ?_
  apply Ac
  apply k64
  refine w_q rfl rfl fun K69 k69=>?_
  refine Ae rfl (Xt (i:=0) (cs:=[c30_0,c30_1,c30_2,v59]) (rs:=[]) ⟨_,Tryd.underlying26,rfl⟩ ⟨_,Ab Tryd.typeInfo26,rfl⟩ rfl rfl rfl rfl ?_)
  have r70:Val ρ68 (.agg #[c30_0,c30_1,c30_2,v59]) (⟨m.houses,m.marks,m.fields,(((([]:List Sale) ++ m.sales)).set i ((⟨(max 0 ((a62.grams - (more:Int)))),a62.sellers⟩:Sale)))⟩:Market):=Market.shut (x:=(⟨m.houses,m.marks,m.fields,(((([]:List Sale) ++ m.sales)).set i ((⟨(max 0 ((a62.grams - (more:Int)))),a62.sellers⟩:Sale)))⟩:Market)) i30_1 i30_2 i30_3 r65
  refine Ae rfl (Cm (vs:=[(.agg #[c30_0,c30_1,c30_2,v59])]) (c_CheatsE (m:=(⟨m.houses,m.marks,m.fields,m.sales.set i ⟨max 0 (a62.grams - (more:Int)),a62.sellers⟩⟩:Market)) (by simp only [List.nil_append]) hq_less rfl hz_less r70 (noRecv_obj hnr)) Tryd.func31 rfl rfl ⟨rfl,trivial⟩ fun w71 ρ71 σ71 hc71=>?_)
  obtain ⟨l71,s71,v71_0,w71e,r71_0⟩:=hc71
  replace s71:=s71.symm; subst s71 w71e
  replace hg:=Glob.mono l71 hg
  replace r2:=Arv l71 r2
  replace r3:=Arv l71 r3
  replace i30_1:=Asa l71 i30_1
  replace i30_2:=Asa l71 i30_2
  replace i30_3:=Asa l71 i30_3
  replace r65:=Asa l71 r65
  replace r70:=Asa l71 r70
  refine l_M (.tuple #[(iV (q_less)),v71_0,(iV (0))]) rfl rfl ?_
  refine Aa rfl (Bk (vs:=#[(iV (q_less)),v71_0,(iV (0))]) rfl (v:=(iV (q_less))) rfl) ?_
  refine Aa rfl (Bk (vs:=#[(iV (q_less)),v71_0,(iV (0))]) rfl (v:=v71_0) rfl) ?_
  refine Aa rfl (Bk (vs:=#[(iV (q_less)),v71_0,(iV (0))]) rfl (v:=(iV (0))) rfl) ?_
  refine l_A (iV (q_less)) rfl rfl ?_
  refine l_A (iV (0)) rfl rfl ?_
  apply Ac
  apply k69
  refine Ai fun K72 k72=>?_
  refine w_q rfl rfl fun K73 k73=>?_
  refine l_M (iV (0)) rfl rfl ?_
  refine Aa rfl (Dg (p:=0) (q:=0) rfl rfl) ?_
  refine l_M (.bool (false)) rfl rfl ?_
  refine l_M (iV (0)) (Ar rfl rfl rfl rfl) rfl ?_
  refine Aa (Ar rfl rfl rfl rfl) (Dg (p:=0) (q:=0) rfl rfl) ?_
  refine Aa rfl (Bm rfl rfl (v:=(.bool (false))) rfl) ?_
  refine l_M (.bool (false)) rfl rfl ?_
  refine l_M (iV (p_less)) (Ar rfl rfl rfl rfl) rfl ?_
  refine l_M (iV (Aik m)) (Ar rfl rfl rfl rfl) rfl ?_
  refine Aa (Ar rfl rfl rfl rfl) (Gk (p:=p_less) (q:=Aik m) rfl rfl) ?_
  refine Aa rfl (Bm rfl rfl (v:=(.bool (decide (p_less > Aik m)))) rfl) ?_
  refine l_M (.bool (decide (p_less > Aik m))) rfl rfl ?_
  refine l_M (iV (q_less)) (Ar rfl rfl rfl (decide_eq_false (by omega))) rfl ?_
  refine l_M (iV (Akj m)) (Ar rfl rfl rfl (decide_eq_false (by omega))) rfl ?_
  refine Aa (Ar rfl rfl rfl (decide_eq_false (by omega))) (Gk (p:=q_less) (q:=Akj m) rfl rfl) ?_
  refine Aa rfl (Bm rfl (decide_eq_false (by omega)) (v:=(.bool (decide (q_less > Akj m)))) rfl) ?_
  apply Ac
  apply k73
  refine Cg rfl (decide_eq_false (by omega)) ?_
  refine Al ?_
  apply k72
  refine w_q rfl rfl fun K74 k74=>?_
  refine Ae rfl (Bi (α:=Sale) (xs:=[]) (vs:=[]) Tryd.underlying24 Su Aeo rfl (by decide) rfl trivial rfl (by decide) fun k75 cs75 R75=>?_)
  have G75:Grow ρ71 59 (.slice (some ⟨k75,0,none⟩) 0 0) ([]:List Sale) [(k75,Res.obj (.cells cs75.toArray 59 (0,0)))]:=Bs R75 rfl (by decide)
  refine Ak rfl (Ay Market.f_sales Tryd.underlying26 rfl rfl Pq (by decide) rfl r2) fun v76 r76=>?_
  refine Ak rfl (Ax Pq rfl r76) fun v77 r77=>?_
  refine Ae rfl (Fx (σ:=((k29,Res.obj (Obj.cells #[c30_0,c30_1,c30_2,v59] 26 (0,0))) :: σ)) (gr:=[(k75,Res.obj (.cells cs75.toArray 59 (0,0)))]) (xs:=([]:List Sale)) (ys:=m.sales) Tryd.underlying24 Tryd.underlying24 (Ab Tryd.typeInfo59) rfl (Nat.le_of_ble_eq_true rfl) rfl rfl rfl rfl G75 r77 (by simp only [List.length_append,List.length_cons,List.length_nil,List.length_map,List.length_take,List.length_drop] at *; omega) fun v78 gr78 G78=>?_)
  refine Aa rfl (Cb Tryd.underlying26 rfl rfl ⟨_,Ab Tryd.typeInfo24,rfl⟩ (by decide) rfl rfl) ?_
  refine Bj (σ':=((k29,Res.obj (Obj.cells #[c30_0,c30_1,c30_2,v59] 26 (0,0))) :: (gr78 ++ σ))) (Arx (List.perm_append_comm_assoc gr78 ([(k29,Res.obj (Obj.cells #[c30_0,c30_1,c30_2,v59] 26 (0,0)))]) _)) ?_
  refine Cx rfl (Cz (j:=0) (v:=v78) ⟨_,Ab Tryd.typeInfo24,rfl⟩ rfl rfl (Grow.single G78) rfl (Nat.le_of_ble_eq_true rfl) ?_)
  apply Ac
  apply k74
  refine Ai fun K79 k79=>?_
  obtain ⟨hw80,hr80,GS80⟩:=grow_open G78 ha62
  refine Ag rfl rfl ?_
  refine Aa rfl (Cb Tryd.underlying26 rfl rfl ⟨_,Ab Tryd.typeInfo24,rfl⟩ (by decide) rfl rfl) ?_
  refine Ae rfl (Dt (i:=0) (v:=v78) ⟨_,Tryd.underlying24,rfl⟩ rfl rfl rfl ?_)
  refine l_M (iV ((i:Int))) rfl rfl ?_
  refine Aa rfl (y_indexGS Tryd.underlying24 Su.info rfl GS80 (q:=(i:Int)) rfl rfl rfl) ?_
  refine Aa rfl (Cb (off':=i * 2 + 1) Tryd.underlying59 rfl rfl ⟨_,Ab Tryd.typeInfo30,rfl⟩ (by decide) rfl rfl) ?_
  refine Bj (σ':=(gr78 ++ ((k29,Res.obj (Obj.cells #[c30_0,c30_1,c30_2,v78] 26 (0,0))) :: σ))) (Arx (List.perm_append_comm_assoc ([(k29,Res.obj (Obj.cells #[c30_0,c30_1,c30_2,v78] 26 (0,0)))]) gr78 _)) ?_
  refine Cx rfl (w_storeGS (σ:=((k29,Res.obj (Obj.cells #[c30_0,c30_1,c30_2,v78] 26 (0,0))) :: σ)) (gr:=gr78) (v:=v78) (w':=(.slice none 0 0)) ⟨_,Ab Tryd.typeInfo30,rfl⟩ rfl rfl rfl rfl GS80 fun gr81 GS81=>?_)
  apply Ac
  apply k79
  refine Ai fun K82 k82=>?_
  refine w_q rfl rfl fun K83 k83=>?_
  refine l_A (iV (0)) rfl rfl ?_
  apply Ac
  apply k83
  refine Ao ?_
  refine Cc (fun mm ee dd ρ' σ'=>∃ (h:Nat) (hv84:Value) (hs84:Own) (ho84:Own),(m.houses.length - h) = mm∧[] = dd∧Ro.le ρ71 ρ'∧(hs84 ++ (ho84 ++ ((k29,Res.obj (Obj.cells #[c30_0,c30_1,c30_2,v78] 26 (0,0))) :: σ))) = σ'∧ee 3 = (.int .u8 ((pick:Int)))∧ee 4 = (.int .u16 ((more:Int)))∧ee 5 = (.pointer (some ⟨k2,0,none⟩))∧ee 6 = (.pointer (some ⟨k3,0,none⟩))∧ee 11 = (iV (Aik m))∧ee 14 = (iV (Akj m))∧ee 17 = (.pointer (some ⟨k29,0,none⟩))∧ee 18 = (iV ((i:Int)))∧ee 25 = (iV ((h:Int)))∧(h ≤ m.houses.length)∧Grow ρ' 3 hv84 (wideTo a62 (pick % m.houses.length) h) hs84∧GrowS ρ' v78 ((([]:List Sale) ++ m.sales)) i hv84 ho84∧True) (m:=_) ⟨0,(.slice none 0 0),[],gr81,rfl,rfl,Ary,rfl,rfl,rfl,rfl,rfl,rfl,rfl,rfl,rfl,rfl,(Nat.zero_le _),(Ga (rfl) Hn),GS81,trivial⟩ ?_
  rintro m84 e84 _ ρ84 _ ⟨h,hv84,hs84,ho84,rfl,rfl,l84,rfl,h84_3,h84_4,h84_5,h84_6,h84_11,h84_14,h84_17,h84_18,h84_25,p84_0,HW84,HS84,_⟩
  replace hg:=Glob.mono l84 hg
  replace r2:=Arv l84 r2
  replace r3:=Arv l84 r3
  replace i30_1:=Asa l84 i30_1
  replace i30_2:=Asa l84 i30_2
  replace i30_3:=Asa l84 i30_3
  have hwl:(wideTo a62 (pick % m.houses.length) h).length ≤ h:=by unfold wideTo; rw [List.length_map]; exact Nat.le_trans (List.length_filter_le _ _) (by simp)
  refine Ai fun K85 k85=>?_
  refine w_q rfl rfl fun K86 k86=>?_
  refine Aa rfl (Ah (v:=(iV ((h:Int)))) h84_25) ?_
  refine Ak rfl (Ay Market.f_houses Tryd.underlying26 rfl rfl Hu (by decide) h84_5 r2) fun v87 r87=>?_
  refine Ak rfl (Ax Hu rfl r87) fun v88 r88=>?_
  have g89:=Val.len r88
  refine Aa rfl (Ce (el:=9) Tryd.underlying22 rfl r88) ?_
  refine Aa rfl (Da (p:=(h:Int)) (q:=((m.houses.length:Nat):Int)) rfl rfl) ?_
  apply Ac
  apply k86
  refine As (t:=decide ((h:Int) < ((m.houses.length:Nat):Int))) rfl (fun b90=>?_) (fun b90=>?_)
  ·have q90:=of_decide_eq_true b90
   refine Al ?_
   apply k85
   refine Ai fun K91 k91=>?_
   refine Ao ?_
   refine w_q rfl rfl fun K92 k92=>?_
   refine Aa rfl (Ah (v:=(iV ((h:Int)))) h84_25) ?_
   refine Aa rfl (Ah (v:=(.int .u8 ((pick:Int)))) h84_3) ?_
   refine Aa rfl (Abu (p:=(pick:Int)) (z:=(pick:Int)) Tryd.underlying5 Tryd.underlying3 rfl (Bo rfl (by omega) (by omega))) ?_
   refine Ak rfl (Ay Market.f_houses Tryd.underlying26 rfl rfl Hu (by decide) h84_5 r2) fun v93 r93=>?_
   refine Ak rfl (Ax Hu rfl r93) fun v94 r94=>?_
   have g95:=Val.len r94
   refine Aa rfl (Ce (el:=9) Tryd.underlying22 rfl r94) ?_
   refine Aa rfl (y_rem (p:=(pick:Int)) (q:=((m.houses.length:Nat):Int)) rfl rfl (by omega) (z:=(((pick % m.houses.length):Nat):Int)) rfl) ?_
   refine Aa rfl (Ek (p:=(h:Int)) (q:=(((pick % m.houses.length):Nat):Int)) rfl rfl) ?_
   refine l_M (.bool ((h:Int) == (((pick % m.houses.length):Nat):Int))) rfl rfl ?_
   refine Cn ((h:Int) == (((pick % m.houses.length):Nat):Int)) (fun b96=>?_) (fun b96=>?_)
   ·have q96:=Jo b96
    refine Ap (Bl rfl rfl rfl b96) ?_
    refine Ap (Bl rfl rfl rfl b96) ?_
    refine Ap (Bl rfl rfl rfl b96) ?_
    refine Ap (Bl rfl rfl rfl b96) ?_
    refine Ap (Bl rfl rfl rfl b96) ?_
    refine Ap (Bl rfl rfl rfl b96) ?_
    refine Ap (Bl rfl rfl rfl b96) ?_
    refine Ap (Bl rfl rfl rfl b96) ?_
    refine Aa rfl (Bt rfl b96 (v:=(.bool (true))) rfl) ?_
    apply Ac
    apply k92
    refine Co rfl rfl ?_
    refine o_begin ((ho84 ++ ((k29,Res.obj (Obj.cells #[c30_0,c30_1,c30_2,v78] 26 (0,0))) :: []))) [0,1,2,3,4,5,6,7,8,9,10,11,13] (by kernel_rfl) rfl rfl ?_
    refine o_val (i:=0) Anc rfl (by kernel_rfl) rfl ⟨Ary,(by repeat first | exact subN | refine subC ?_ | refine subG ?_ | refine subB ?_ | refine subL ?_)⟩ rfl (Yld.o (Cb Tryd.underlying26 rfl rfl ⟨_,Ab Tryd.typeInfo24,rfl⟩ (by decide) h84_17 rfl)) ?_
    refine o_val (i:=1) Aop rfl (by kernel_rfl) rfl ⟨Ary,(by repeat first | exact subN | refine subC ?_ | refine subG ?_ | refine subB ?_ | refine subL ?_)⟩ rfl (y_loadOC (v:=v78) ⟨_,Tryd.underlying24,rfl⟩ rfl (List.mem_append_right _ (List.mem_cons_self ..)) rfl) ?_
    refine o_val (i:=2) And rfl (by kernel_rfl) rfl ⟨Ary,(by repeat first | exact subN | refine subC ?_ | refine subG ?_ | refine subB ?_ | refine subL ?_)⟩ rfl (Yld.o (Ah (v:=(iV ((i:Int)))) h84_18)) ?_
    refine o_val (i:=3) Aot rfl (by kernel_rfl) rfl ⟨Ary,(by repeat first | exact subN | refine subC ?_ | refine subG ?_ | refine subB ?_ | refine subL ?_)⟩ rfl (Yld.o (Cb Tryd.underlying26 rfl rfl ⟨_,Ab Tryd.typeInfo24,rfl⟩ (by decide) h84_17 rfl)) ?_
    refine o_val (i:=4) Apg rfl (by kernel_rfl) rfl ⟨Ary,(by repeat first | exact subN | refine subC ?_ | refine subG ?_ | refine subB ?_ | refine subL ?_)⟩ rfl (y_loadOC (v:=v78) ⟨_,Tryd.underlying24,rfl⟩ rfl (List.mem_append_right _ (List.mem_cons_self ..)) rfl) ?_
    refine o_val (i:=5) Anx rfl (by kernel_rfl) rfl ⟨Ary,(by repeat first | exact subN | refine subC ?_ | refine subG ?_ | refine subB ?_ | refine subL ?_)⟩ rfl (Yld.o (Ah (v:=(iV ((i:Int)))) h84_18)) ?_
    refine o_val (i:=6) Amz rfl (by kernel_rfl) rfl ⟨Ary,(by repeat first | exact subN | refine subC ?_ | refine subG ?_ | refine subB ?_ | refine subL ?_)⟩ rfl (Yld.o (y_indexGS Tryd.underlying24 Su.info rfl HS84 (q:=(i:Int)) rfl rfl rfl)) ?_
    refine o_val (i:=7) [o1,o1,o1,o1,o1,o1,o1,o1,o0,o0,o0,o0,o0,o0,o0] rfl (by kernel_rfl) rfl ⟨Ary,(by repeat first | exact subN | refine subC ?_ | refine subG ?_ | refine subB ?_ | refine subL ?_)⟩ rfl (Yld.o (Cb (off':=i * 2 + 1) Tryd.underlying59 rfl rfl ⟨_,Ab Tryd.typeInfo30,rfl⟩ (by decide) rfl rfl)) ?_
    refine o_val (i:=8) [o1,o1,o1,o1,o1,o1,o1,o1,o1,o0,o0,o0,o0,o0,o0] rfl (by kernel_rfl) rfl ⟨Ary,(by repeat first | exact subN | refine subC ?_ | refine subG ?_ | refine subB ?_ | refine subL ?_)⟩ rfl (y_loadGS ⟨_,Tryd.underlying30,rfl⟩ rfl HS84 (fun p hp=>List.mem_append_left _ hp) rfl) ?_
    refine o_val1 (i:=9) [o1,o1,o1,o1,o1,o1,o1,o1,o1,o1,o0,o0,o0,o0,o0] rfl (by kernel_rfl) rfl ⟨Ary,(by repeat first | exact subN | refine subC ?_ | refine subG ?_ | refine subB ?_ | refine subL ?_)⟩ rfl (Yld.o (Ah (v:=(iV ((h:Int)))) h84_25)) ⟨Ary,(by repeat first | exact subN | refine subC ?_ | refine subG ?_ | refine subB ?_ | refine subL ?_)⟩ ?_
    refine o_run (i:=10) [o1,o1,o1,o1,o1,o1,o1,o1,o1,o1,o1,o0,o0,o0,o0] rfl (by kernel_rfl) rfl rfl (Bi (α:=Int) (xs:=[(h:Int)]) (vs:=[(iV ((h:Int)))]) Tryd.underlying30 ty3 zr3 rfl (by decide) (Dl (os:=[.tmp 208]) ⟨rfl,trivial⟩) ⟨(Cv.2 ⟨rfl,by constructor <;> omega⟩),trivial⟩ rfl (by decide) fun k97 cs97 R97=>⟨⟨Ary,(by repeat first | exact subN | refine subC ?_ | refine subG ?_ | refine subB ?_ | refine subL ?_)⟩,?_⟩)
    have G97:Grow ρ84 3 (.slice (some ⟨k97,0,none⟩) 1 1) ([(h:Int)]:List Int) [(k97,Res.obj (.cells cs97.toArray 3 (0,0)))]:=Bs R97 rfl (by decide)
    refine o_freezeG G97 (by repeat first | exact subN | refine subC ?_ | refine subG ?_ | refine subB ?_ | refine subL ?_) fun ρ99 l99 r99=>?_
    replace hg:=Glob.mono l99 hg
    replace r2:=Arv l99 r2
    replace r3:=Arv l99 r3
    replace i30_1:=Asa l99 i30_1
    replace i30_2:=Asa l99 i30_2
    replace i30_3:=Asa l99 i30_3
    replace HW84:=Grow.mono l99 HW84
    replace HS84:=GrowS.mono l99 HS84
    refine o_run (i:=11) [o1,o1,o1,o1,o1,o1,o1,o1,o1,o1,o1,o1,o0,o0,o0] rfl (by kernel_rfl) rfl rfl (Fx (σ:=(ho84 ++ ((k29,Res.obj (Obj.cells #[c30_0,c30_1,c30_2,v78] 26 (0,0))) :: σ))) (gr:=hs84) (xs:=wideTo a62 (pick % m.houses.length) h) (ys:=([(h:Int)]:List Int)) Tryd.underlying30 Tryd.underlying30 (Ab Tryd.typeInfo3) rfl (Nat.le_of_ble_eq_true rfl) rfl rfl rfl rfl HW84 r99 (by simp only [List.length_append,List.length_cons,List.length_nil,List.length_map,List.length_take,List.length_drop] at *; omega) fun v98 gr98 G98=>⟨⟨l99,(by repeat first | exact subN | refine subC ?_ | refine subG ?_ | refine subB ?_ | refine subL ?_)⟩,?_⟩)
    refine o_val1 (i:=12) Aod rfl (by kernel_rfl) rfl ⟨l99,(by repeat first | exact subN | refine subC ?_ | refine subG ?_ | refine subB ?_ | refine subL ?_)⟩ rfl (Yld.o (y_indexGS Tryd.underlying24 Su.info rfl HS84 (q:=(i:Int)) rfl rfl rfl)) ⟨Ary,(by repeat first | exact subN | refine subC ?_ | refine subG ?_ | refine subB ?_ | refine subL ?_)⟩ ?_
    refine o_val1 (i:=13) Aoc rfl (by kernel_rfl) rfl ⟨l99,(by repeat first | exact subN | refine subC ?_ | refine subG ?_ | refine subB ?_ | refine subL ?_)⟩ rfl (Yld.o (Cb (off':=i * 2 + 1) Tryd.underlying59 rfl rfl ⟨_,Ab Tryd.typeInfo30,rfl⟩ (by decide) rfl rfl)) ⟨Ary,(by repeat first | exact subN | refine subC ?_ | refine subG ?_ | refine subB ?_ | refine subL ?_)⟩ ?_
    refine o_perm (σ':=(ho84 ++ (gr98 ++ ((k29,Res.obj (Obj.cells #[c30_0,c30_1,c30_2,v78] 26 (0,0))) :: σ)))) (List.perm_append_comm_assoc gr98 ho84 _) ?_
    refine o_runLN (i:=14) Aoe rfl (by kernel_rfl) (by kernel_rfl) rfl rfl (w_storeGS (σ:=(gr98 ++ ((k29,Res.obj (Obj.cells #[c30_0,c30_1,c30_2,v78] 26 (0,0))) :: σ))) (gr:=ho84) (v:=v78) (w':=v98) ⟨_,Ab Tryd.typeInfo30,rfl⟩ rfl rfl rfl (Grow.single G98) HS84 fun gr100 GS100=>?_)
    refine o_end rfl ?_
    apply k91
    refine Ag rfl rfl ?_
    refine Aa rfl (Ah (v:=(iV ((h:Int)))) h84_25) ?_
    refine Aa rfl (Br (p:=(h:Int)) (q:=1) rfl rfl (z:=(((h + 1):Nat):Int)) (Bo (by first | rfl | omega | (push_cast; rfl)) (by omega) (by omega))) ?_
    refine l_A (iV ((((h + 1):Nat):Int))) rfl rfl ?_
    refine Bj (σ':=((k29,Res.obj (Obj.cells #[c30_0,c30_1,c30_2,v78] 26 (0,0))) :: (gr100 ++ (gr98 ++ σ)))) (Arx ((List.Perm.append_left gr100 (List.perm_append_comm_assoc gr98 ([(k29,Res.obj (Obj.cells #[c30_0,c30_1,c30_2,v78] 26 (0,0)))]) _)).trans (List.perm_append_comm_assoc gr100 ([(k29,Res.obj (Obj.cells #[c30_0,c30_1,c30_2,v78] 26 (0,0)))]) _))) ?_
    refine Bj (σ':=(gr100 ++ ((k29,Res.obj (Obj.cells #[c30_0,c30_1,c30_2,v78] 26 (0,0))) :: (gr98 ++ σ)))) (Arx (List.perm_append_comm_assoc ([(k29,Res.obj (Obj.cells #[c30_0,c30_1,c30_2,v78] 26 (0,0)))]) gr100 _)) ?_
    refine Bj (σ':=(gr98 ++ (gr100 ++ ((k29,Res.obj (Obj.cells #[c30_0,c30_1,c30_2,v78] 26 (0,0))) :: σ)))) (Arx ((List.Perm.append_left gr100 (List.perm_append_comm_assoc ([(k29,Res.obj (Obj.cells #[c30_0,c30_1,c30_2,v78] 26 (0,0)))]) gr98 _)).trans (List.perm_append_comm_assoc gr100 gr98 _))) ?_
    apply Ac
    refine ⟨_,?_,((h + 1)),v98,gr98,gr100,rfl,rfl,(Arz l84 l99),rfl,h84_3,h84_4,h84_5,h84_6,h84_11,h84_14,h84_17,h84_18,rfl,(by omega),(Ga (wide_y (wide_t b96)) G98),GS100,trivial⟩
    omega
   have q96:=La b96
   refine Ak (Ar rfl rfl rfl b96) (Ay Market.f_sales Tryd.underlying26 rfl rfl Pq (by decide) h84_5 r2) fun v101 r101=>?_
   refine Ak (Ar rfl rfl rfl b96) (Ax Pq rfl r101) fun v102 r102=>?_
   refine Aa (Ar rfl rfl rfl b96) (Ah (v:=(iV ((i:Int)))) h84_18) ?_
   refine Ak (Ar rfl rfl rfl b96) (Ci i Tryd.underlying24 Su rfl r102 (q:=(i:Int)) rfl rfl hs_a62) fun v103 r103=>?_
   refine Ak (Ar rfl rfl rfl b96) (Ay Sale.f_sellers Tryd.underlying59 rfl rfl Vg (by decide) rfl r103) fun v104 r104=>?_
   refine Ak (Ar rfl rfl rfl b96) (Ax Vg rfl r104) fun v105 r105=>?_
   refine Aa (Ar rfl rfl rfl b96) (Ah (v:=(iV ((h:Int)))) h84_25) ?_
   refine Ae (Ar rfl rfl rfl b96) (Bn (vs:=[v105,(iV ((h:Int)))]) (v:=(.bool (decide ((h:Int) ∈ a62.sellers)))) (c_has r105) Tryd.func33 rfl rfl ⟨rfl,rfl,trivial⟩ ?_)
   refine Aa rfl (Bm rfl b96 (v:=(.bool (decide ((h:Int) ∈ a62.sellers)))) rfl) ?_
   apply Ac
   apply k92
   refine As (t:=decide ((h:Int) ∈ a62.sellers)) rfl (fun b106=>?_) (fun b106=>?_)
   ·have q106:=of_decide_eq_true b106
    refine o_begin ((ho84 ++ ((k29,Res.obj (Obj.cells #[c30_0,c30_1,c30_2,v78] 26 (0,0))) :: []))) [0,1,2,3,4,5,6,7,8,9,10,11,13] (by kernel_rfl) rfl rfl ?_
    refine o_val (i:=0) Anc rfl (by kernel_rfl) rfl ⟨Ary,(by repeat first | exact subN | refine subC ?_ | refine subG ?_ | refine subB ?_ | refine subL ?_)⟩ rfl (Yld.o (Cb Tryd.underlying26 rfl rfl ⟨_,Ab Tryd.typeInfo24,rfl⟩ (by decide) h84_17 rfl)) ?_
    refine o_val (i:=1) Aop rfl (by kernel_rfl) rfl ⟨Ary,(by repeat first | exact subN | refine subC ?_ | refine subG ?_ | refine subB ?_ | refine subL ?_)⟩ rfl (y_loadOC (v:=v78) ⟨_,Tryd.underlying24,rfl⟩ rfl (List.mem_append_right _ (List.mem_cons_self ..)) rfl) ?_
    refine o_val (i:=2) And rfl (by kernel_rfl) rfl ⟨Ary,(by repeat first | exact subN | refine subC ?_ | refine subG ?_ | refine subB ?_ | refine subL ?_)⟩ rfl (Yld.o (Ah (v:=(iV ((i:Int)))) h84_18)) ?_
    refine o_val (i:=3) Aot rfl (by kernel_rfl) rfl ⟨Ary,(by repeat first | exact subN | refine subC ?_ | refine subG ?_ | refine subB ?_ | refine subL ?_)⟩ rfl (Yld.o (Cb Tryd.underlying26 rfl rfl ⟨_,Ab Tryd.typeInfo24,rfl⟩ (by decide) h84_17 rfl)) ?_
    refine o_val (i:=4) Apg rfl (by kernel_rfl) rfl ⟨Ary,(by repeat first | exact subN | refine subC ?_ | refine subG ?_ | refine subB ?_ | refine subL ?_)⟩ rfl (y_loadOC (v:=v78) ⟨_,Tryd.underlying24,rfl⟩ rfl (List.mem_append_right _ (List.mem_cons_self ..)) rfl) ?_
    refine o_val (i:=5) Anx rfl (by kernel_rfl) rfl ⟨Ary,(by repeat first | exact subN | refine subC ?_ | refine subG ?_ | refine subB ?_ | refine subL ?_)⟩ rfl (Yld.o (Ah (v:=(iV ((i:Int)))) h84_18)) ?_
    refine o_val (i:=6) Amz rfl (by kernel_rfl) rfl ⟨Ary,(by repeat first | exact subN | refine subC ?_ | refine subG ?_ | refine subB ?_ | refine subL ?_)⟩ rfl (Yld.o (y_indexGS Tryd.underlying24 Su.info rfl HS84 (q:=(i:Int)) rfl rfl rfl)) ?_
    refine o_val (i:=7) [o1,o1,o1,o1,o1,o1,o1,o1,o0,o0,o0,o0,o0,o0,o0] rfl (by kernel_rfl) rfl ⟨Ary,(by repeat first | exact subN | refine subC ?_ | refine subG ?_ | refine subB ?_ | refine subL ?_)⟩ rfl (Yld.o (Cb (off':=i * 2 + 1) Tryd.underlying59 rfl rfl ⟨_,Ab Tryd.typeInfo30,rfl⟩ (by decide) rfl rfl)) ?_
    refine o_val (i:=8) [o1,o1,o1,o1,o1,o1,o1,o1,o1,o0,o0,o0,o0,o0,o0] rfl (by kernel_rfl) rfl ⟨Ary,(by repeat first | exact subN | refine subC ?_ | refine subG ?_ | refine subB ?_ | refine subL ?_)⟩ rfl (y_loadGS ⟨_,Tryd.underlying30,rfl⟩ rfl HS84 (fun p hp=>List.mem_append_left _ hp) rfl) ?_
    refine o_val1 (i:=9) [o1,o1,o1,o1,o1,o1,o1,o1,o1,o1,o0,o0,o0,o0,o0] rfl (by kernel_rfl) rfl ⟨Ary,(by repeat first | exact subN | refine subC ?_ | refine subG ?_ | refine subB ?_ | refine subL ?_)⟩ rfl (Yld.o (Ah (v:=(iV ((h:Int)))) h84_25)) ⟨Ary,(by repeat first | exact subN | refine subC ?_ | refine subG ?_ | refine subB ?_ | refine subL ?_)⟩ ?_
    refine o_run (i:=10) [o1,o1,o1,o1,o1,o1,o1,o1,o1,o1,o1,o0,o0,o0,o0] rfl (by kernel_rfl) rfl rfl (Bi (α:=Int) (xs:=[(h:Int)]) (vs:=[(iV ((h:Int)))]) Tryd.underlying30 ty3 zr3 rfl (by decide) (Dl (os:=[.tmp 208]) ⟨rfl,trivial⟩) ⟨(Cv.2 ⟨rfl,by constructor <;> omega⟩),trivial⟩ rfl (by decide) fun k107 cs107 R107=>⟨⟨Ary,(by repeat first | exact subN | refine subC ?_ | refine subG ?_ | refine subB ?_ | refine subL ?_)⟩,?_⟩)
    have G107:Grow ρ84 3 (.slice (some ⟨k107,0,none⟩) 1 1) ([(h:Int)]:List Int) [(k107,Res.obj (.cells cs107.toArray 3 (0,0)))]:=Bs R107 rfl (by decide)
    refine o_freezeG G107 (by repeat first | exact subN | refine subC ?_ | refine subG ?_ | refine subB ?_ | refine subL ?_) fun ρ109 l109 r109=>?_
    replace hg:=Glob.mono l109 hg
    replace r2:=Arv l109 r2
    replace r3:=Arv l109 r3
    replace i30_1:=Asa l109 i30_1
    replace i30_2:=Asa l109 i30_2
    replace i30_3:=Asa l109 i30_3
    replace HW84:=Grow.mono l109 HW84
    replace HS84:=GrowS.mono l109 HS84
    refine o_run (i:=11) [o1,o1,o1,o1,o1,o1,o1,o1,o1,o1,o1,o1,o0,o0,o0] rfl (by kernel_rfl) rfl rfl (Fx (σ:=(ho84 ++ ((k29,Res.obj (Obj.cells #[c30_0,c30_1,c30_2,v78] 26 (0,0))) :: σ))) (gr:=hs84) (xs:=wideTo a62 (pick % m.houses.length) h) (ys:=([(h:Int)]:List Int)) Tryd.underlying30 Tryd.underlying30 (Ab Tryd.typeInfo3) rfl (Nat.le_of_ble_eq_true rfl) rfl rfl rfl rfl HW84 r109 (by simp only [List.length_append,List.length_cons,List.length_nil,List.length_map,List.length_take,List.length_drop] at *; omega) fun v108 gr108 G108=>⟨⟨l109,(by repeat first | exact subN | refine subC ?_ | refine subG ?_ | refine subB ?_ | refine subL ?_)⟩,?_⟩)
    refine o_val1 (i:=12) Aod rfl (by kernel_rfl) rfl ⟨l109,(by repeat first | exact subN | refine subC ?_ | refine subG ?_ | refine subB ?_ | refine subL ?_)⟩ rfl (Yld.o (y_indexGS Tryd.underlying24 Su.info rfl HS84 (q:=(i:Int)) rfl rfl rfl)) ⟨Ary,(by repeat first | exact subN | refine subC ?_ | refine subG ?_ | refine subB ?_ | refine subL ?_)⟩ ?_
    refine o_val1 (i:=13) Aoc rfl (by kernel_rfl) rfl ⟨l109,(by repeat first | exact subN | refine subC ?_ | refine subG ?_ | refine subB ?_ | refine subL ?_)⟩ rfl (Yld.o (Cb (off':=i * 2 + 1) Tryd.underlying59 rfl rfl ⟨_,Ab Tryd.typeInfo30,rfl⟩ (by decide) rfl rfl)) ⟨Ary,(by repeat first | exact subN | refine subC ?_ | refine subG ?_ | refine subB ?_ | refine subL ?_)⟩ ?_
    refine o_perm (σ':=(ho84 ++ (gr108 ++ ((k29,Res.obj (Obj.cells #[c30_0,c30_1,c30_2,v78] 26 (0,0))) :: σ)))) (List.perm_append_comm_assoc gr108 ho84 _) ?_
    refine o_runLN (i:=14) Aoe rfl (by kernel_rfl) (by kernel_rfl) rfl rfl (w_storeGS (σ:=(gr108 ++ ((k29,Res.obj (Obj.cells #[c30_0,c30_1,c30_2,v78] 26 (0,0))) :: σ))) (gr:=ho84) (v:=v78) (w':=v108) ⟨_,Ab Tryd.typeInfo30,rfl⟩ rfl rfl rfl (Grow.single G108) HS84 fun gr110 GS110=>?_)
    refine o_end rfl ?_
    apply k91
    refine Ag rfl rfl ?_
    refine Aa rfl (Ah (v:=(iV ((h:Int)))) h84_25) ?_
    refine Aa rfl (Br (p:=(h:Int)) (q:=1) rfl rfl (z:=(((h + 1):Nat):Int)) (Bo (by first | rfl | omega | (push_cast; rfl)) (by omega) (by omega))) ?_
    refine l_A (iV ((((h + 1):Nat):Int))) rfl rfl ?_
    refine Bj (σ':=((k29,Res.obj (Obj.cells #[c30_0,c30_1,c30_2,v78] 26 (0,0))) :: (gr110 ++ (gr108 ++ σ)))) (Arx ((List.Perm.append_left gr110 (List.perm_append_comm_assoc gr108 ([(k29,Res.obj (Obj.cells #[c30_0,c30_1,c30_2,v78] 26 (0,0)))]) _)).trans (List.perm_append_comm_assoc gr110 ([(k29,Res.obj (Obj.cells #[c30_0,c30_1,c30_2,v78] 26 (0,0)))]) _))) ?_
    refine Bj (σ':=(gr110 ++ ((k29,Res.obj (Obj.cells #[c30_0,c30_1,c30_2,v78] 26 (0,0))) :: (gr108 ++ σ)))) (Arx (List.perm_append_comm_assoc ([(k29,Res.obj (Obj.cells #[c30_0,c30_1,c30_2,v78] 26 (0,0)))]) gr110 _)) ?_
    refine Bj (σ':=(gr108 ++ (gr110 ++ ((k29,Res.obj (Obj.cells #[c30_0,c30_1,c30_2,v78] 26 (0,0))) :: σ)))) (Arx ((List.Perm.append_left gr110 (List.perm_append_comm_assoc ([(k29,Res.obj (Obj.cells #[c30_0,c30_1,c30_2,v78] 26 (0,0)))]) gr108 _)).trans (List.perm_append_comm_assoc gr110 gr108 _))) ?_
    apply Ac
    refine ⟨_,?_,((h + 1)),v108,gr108,gr110,rfl,rfl,(Arz l84 l109),rfl,h84_3,h84_4,h84_5,h84_6,h84_11,h84_14,h84_17,h84_18,rfl,(by omega),(Ga (wide_y (wide_h b96 b106)) G108),GS110,trivial⟩
    omega
   have q106:=of_decide_eq_false b106
   refine Al ?_
   apply k91
   refine Ag rfl rfl ?_
   refine Aa rfl (Ah (v:=(iV ((h:Int)))) h84_25) ?_
   refine Aa rfl (Br (p:=(h:Int)) (q:=1) rfl rfl (z:=(((h + 1):Nat):Int)) (Bo (by first | rfl | omega | (push_cast; rfl)) (by omega) (by omega))) ?_
   refine l_A (iV ((((h + 1):Nat):Int))) rfl rfl ?_
   apply Ac
   refine ⟨_,?_,((h + 1)),hv84,hs84,ho84,rfl,rfl,l84,rfl,h84_3,h84_4,h84_5,h84_6,h84_11,h84_14,h84_17,h84_18,rfl,(by omega),(Ga (wide_n (wide_h b96 b106)) HW84),HS84,trivial⟩
   omega
  have q90:=of_decide_eq_false b90
  refine Bx ?_
  apply k82
  refine w_q rfl rfl fun K111 k111=>?_
  refine Ca HW84 fun ρ112 l112 r112=>?_
  replace hg:=Glob.mono l112 hg
  replace r2:=Arv l112 r2
  replace r3:=Arv l112 r3
  replace i30_1:=Asa l112 i30_1
  replace i30_2:=Asa l112 i30_2
  replace i30_3:=Asa l112 i30_3
  replace HS84:=GrowS.mono l112 HS84
  have G113:=grow_shut HS84 ha62 r112
  replace G113:Grow ρ112 59 v78 (((([]:List Sale) ++ m.sales)).set i (⟨a62.grams,wideTo a62 (pick % m.houses.length) h⟩:Sale)) ho84:=G113
  refine Ca G113 fun ρ114 l114 r114=>?_
  replace hg:=Glob.mono l114 hg
  replace r2:=Arv l114 r2
  replace r3:=Arv l114 r3
  replace i30_1:=Asa l114 i30_1
  replace i30_2:=Asa l114 i30_2
  replace i30_3:=Asa l114 i30_3
  refine Ae rfl (Xt (i:=0) (cs:=[c30_0,c30_1,c30_2,v78]) (rs:=[]) ⟨_,Tryd.underlying26,rfl⟩ ⟨_,Ab Tryd.typeInfo26,rfl⟩ h84_17 rfl rfl rfl ?_)
  have r115:Val ρ114 (.agg #[c30_0,c30_1,c30_2,v78]) (⟨m.houses,m.marks,m.fields,(((([]:List Sale) ++ m.sales)).set i (⟨a62.grams,wideTo a62 (pick % m.houses.length) h⟩:Sale))⟩:Market):=Market.shut (x:=(⟨m.houses,m.marks,m.fields,(((([]:List Sale) ++ m.sales)).set i (⟨a62.grams,wideTo a62 (pick % m.houses.length) h⟩:Sale))⟩:Market)) i30_1 i30_2 i30_3 r114
  have hhp:=houses_pos ok hs_a62
  obtain ⟨hz_wide,hp0_wide,hq0_wide⟩:=wide_law hm0 hs_a62 (show pick % m.houses.length < m.houses.length from Nat.mod_lt _ (by omega))
  obtain ⟨p_wide,hp_wide⟩:∃ z,Aik (⟨m.houses,m.marks,m.fields,m.sales.set i ⟨a62.grams,wideTo a62 (pick % m.houses.length) m.houses.length⟩⟩:Market) = z:=⟨_,rfl⟩
  obtain ⟨q_wide,hq_wide⟩:∃ z,Akj (⟨m.houses,m.marks,m.fields,m.sales.set i ⟨a62.grams,wideTo a62 (pick % m.houses.length) m.houses.length⟩⟩:Market) = z:=⟨_,rfl⟩
  rw [hp_wide] at hp0_wide; rw [hq_wide] at hq0_wide
  refine Ae rfl (Cm (vs:=[(.agg #[c30_0,c30_1,c30_2,v78])]) (c_ExcessE (m:=(⟨m.houses,m.marks,m.fields,m.sales.set i ⟨a62.grams,wideTo a62 (pick % m.houses.length) m.houses.length⟩⟩:Market)) (by simp only [List.nil_append]; rw [show h = m.houses.length by omega]) hp_wide hz_wide r115) Tryd.func32 rfl rfl ⟨rfl,trivial⟩ fun w117 ρ117 σ117 hc117=>?_)
  obtain ⟨l117,s117,v117_0,w117e,r117_0⟩:=hc117
  replace s117:=s117.symm; subst s117 w117e
  replace hg:=Glob.mono l117 hg
  replace r2:=Arv l117 r2
  replace r3:=Arv l117 r3
  replace i30_1:=Asa l117 i30_1
  replace i30_2:=Asa l117 i30_2
  replace i30_3:=Asa l117 i30_3
  replace r114:=Asa l117 r114
  replace r115:=Asa l117 r115
  refine l_M (.tuple #[(iV (p_wide)),v117_0,(iV (0))]) rfl rfl ?_
  refine Aa rfl (Bk (vs:=#[(iV (p_wide)),v117_0,(iV (0))]) rfl (v:=(iV (p_wide))) rfl) ?_
  refine Aa rfl (Bk (vs:=#[(iV (p_wide)),v117_0,(iV (0))]) rfl (v:=v117_0) rfl) ?_
  refine Aa rfl (Bk (vs:=#[(iV (p_wide)),v117_0,(iV (0))]) rfl (v:=(iV (0))) rfl) ?_
  refine l_A (iV (p_wide)) rfl rfl ?_
  refine l_A (iV (0)) rfl rfl ?_
  apply Ac
  apply k111
  refine w_q rfl rfl fun K118 k118=>?_
  refine Ae rfl (Xt (i:=0) (cs:=[c30_0,c30_1,c30_2,v78]) (rs:=[]) ⟨_,Tryd.underlying26,rfl⟩ ⟨_,Ab Tryd.typeInfo26,rfl⟩ h84_17 rfl rfl rfl ?_)
  have r119:Val ρ117 (.agg #[c30_0,c30_1,c30_2,v78]) (⟨m.houses,m.marks,m.fields,(((([]:List Sale) ++ m.sales)).set i (⟨a62.grams,wideTo a62 (pick % m.houses.length) h⟩:Sale))⟩:Market):=Market.shut (x:=(⟨m.houses,m.marks,m.fields,(((([]:List Sale) ++ m.sales)).set i (⟨a62.grams,wideTo a62 (pick % m.houses.length) h⟩:Sale))⟩:Market)) i30_1 i30_2 i30_3 r114
  refine Ae rfl (Cm (vs:=[(.agg #[c30_0,c30_1,c30_2,v78])]) (c_CheatsE (m:=(⟨m.houses,m.marks,m.fields,m.sales.set i ⟨a62.grams,wideTo a62 (pick % m.houses.length) m.houses.length⟩⟩:Market)) (by simp only [List.nil_append]; rw [show h = m.houses.length by omega]) hq_wide rfl hz_wide r119 (noRecv_obj hnr)) Tryd.func31 rfl rfl ⟨rfl,trivial⟩ fun w120 ρ120 σ120 hc120=>?_)
  obtain ⟨l120,s120,v120_0,w120e,r120_0⟩:=hc120
  replace s120:=s120.symm; subst s120 w120e
  replace hg:=Glob.mono l120 hg
  replace r2:=Arv l120 r2
  replace r3:=Arv l120 r3
  replace i30_1:=Asa l120 i30_1
  replace i30_2:=Asa l120 i30_2
  replace i30_3:=Asa l120 i30_3
  replace r114:=Asa l120 r114
  replace r119:=Asa l120 r119
  refine l_M (.tuple #[(iV (q_wide)),v120_0,(iV (0))]) rfl rfl ?_
  refine Aa rfl (Bk (vs:=#[(iV (q_wide)),v120_0,(iV (0))]) rfl (v:=(iV (q_wide))) rfl) ?_
  refine Aa rfl (Bk (vs:=#[(iV (q_wide)),v120_0,(iV (0))]) rfl (v:=v120_0) rfl) ?_
  refine Aa rfl (Bk (vs:=#[(iV (q_wide)),v120_0,(iV (0))]) rfl (v:=(iV (0))) rfl) ?_
  refine l_A (iV (q_wide)) rfl rfl ?_
  refine l_A (iV (0)) rfl rfl ?_
  apply Ac
  apply k118
  refine w_q rfl rfl fun K121 k121=>?_
  refine l_M (iV (0)) rfl rfl ?_
  refine Aa rfl (Dg (p:=0) (q:=0) rfl rfl) ?_
  refine l_M (.bool (false)) rfl rfl ?_
  refine l_M (iV (0)) (Ar rfl rfl rfl rfl) rfl ?_
  refine Aa (Ar rfl rfl rfl rfl) (Dg (p:=0) (q:=0) rfl rfl) ?_
  refine Aa rfl (Bm rfl rfl (v:=(.bool (false))) rfl) ?_
  refine l_M (.bool (false)) rfl rfl ?_
  refine l_M (iV (p_wide)) (Ar rfl rfl rfl rfl) rfl ?_
  refine Aa (Ar rfl rfl rfl rfl) (Ah (v:=(iV (Aik m))) h84_11) ?_
  refine Aa (Ar rfl rfl rfl rfl) (Gk (p:=p_wide) (q:=Aik m) rfl rfl) ?_
  refine Aa rfl (Bm rfl rfl (v:=(.bool (decide (p_wide > Aik m)))) rfl) ?_
  refine l_M (.bool (decide (p_wide > Aik m))) rfl rfl ?_
  refine l_M (iV (q_wide)) (Ar rfl rfl rfl (decide_eq_false (by omega))) rfl ?_
  refine Aa (Ar rfl rfl rfl (decide_eq_false (by omega))) (Ah (v:=(iV (Akj m))) h84_14) ?_
  refine Aa (Ar rfl rfl rfl (decide_eq_false (by omega))) (Gk (p:=q_wide) (q:=Akj m) rfl rfl) ?_
  refine Aa rfl (Bm rfl (decide_eq_false (by omega)) (v:=(.bool (decide (q_wide > Akj m)))) rfl) ?_
  apply Ac
  apply k121
  refine Cg rfl (decide_eq_false (by omega)) ?_
  refine Al ?_
  apply k21
  refine w_q rfl rfl fun K122 k122=>?_
  refine Ak rfl (Ax Lj h84_5 r2) fun v123 r123=>?_
  refine Ae rfl (Ct Aoj fun k124=>?_)
  obtain ⟨c125_0,c125_1,c125_2,c125_3,e125_,i125_1,i125_2,i125_3,i125_4⟩:=Market.open_ r123
  have e125_c:v123.cells = [c125_0,c125_1,c125_2,c125_3].toArray:=by rw [e125_]; rfl
  refine Cx rfl (Ld (i:=0) (vs:=[c125_0,c125_1,c125_2,c125_3]) (c':=[c125_0,c125_1,c125_2,c125_3]) ⟨_,Ab Tryd.typeInfo26,rfl⟩ rfl rfl e125_c rfl (Xv ⟨(Val.single_l i125_1),(Val.single_l i125_2),(Val.single_l i125_3),(Val.single_l i125_4),trivial⟩) rfl (Nat.le_of_ble_eq_true rfl) rfl ?_)
  apply Ac
  apply k122
  refine w_q rfl rfl fun K126 k126=>?_
  refine Aa rfl (Cb Tryd.underlying26 rfl rfl ⟨_,Ab Tryd.typeInfo23,rfl⟩ (by decide) rfl rfl) ?_
  refine Cx rfl (Cz (j:=0) (v:=(.slice none 0 0)) ⟨_,Ab Tryd.typeInfo23,rfl⟩ rfl rfl rfl rfl (Nat.le_of_ble_eq_true rfl) ?_)
  apply Ac
  apply k126
  refine Ai fun K127 k127=>?_
  refine w_q rfl rfl fun K128 k128=>?_
  refine l_A (iV (0)) rfl rfl ?_
  apply Ac
  apply k128
  refine Ao ?_
  refine Cc (fun mm ee dd ρ' σ'=>∃ (j:Nat) (ov129_26c2:Value) (og129_26c2:Own),(m.fields.length - j) = mm∧[] = dd∧Ro.le ρ120 ρ'∧(og129_26c2 ++ ((k124,Res.obj (Obj.cells #[c125_0,c125_1,ov129_26c2,c125_3] 26 (0,0))) :: ((k29,Res.obj (Obj.cells #[c30_0,c30_1,c30_2,v78] 26 (0,0))) :: σ))) = σ'∧ee 3 = (.int .u8 ((pick:Int)))∧ee 4 = (.int .u16 ((more:Int)))∧ee 5 = (.pointer (some ⟨k2,0,none⟩))∧ee 6 = (.pointer (some ⟨k3,0,none⟩))∧ee 11 = (iV (Aik m))∧ee 14 = (iV (Akj m))∧ee 26 = (.pointer (some ⟨k124,0,none⟩))∧ee 27 = (iV ((j:Int)))∧(j ≤ m.fields.length)∧Grow ρ' 67 ov129_26c2 ((m.fields.take j).map (growF (more % (pick + 1)))) og129_26c2∧True) (m:=_) ⟨0,(.slice none 0 0),[],rfl,rfl,Ary,rfl,h84_3,h84_4,h84_5,h84_6,h84_11,h84_14,rfl,rfl,(Nat.zero_le _),(Ga (by simp) Hn),trivial⟩ ?_
  rintro m129 e129 _ ρ129 _ ⟨j,ov129_26c2,og129_26c2,rfl,rfl,l129,rfl,h129_3,h129_4,h129_5,h129_6,h129_11,h129_14,h129_26,h129_27,p129_0,OG129_26c2,_⟩
  replace hg:=Glob.mono l129 hg
  replace r2:=Arv l129 r2
  replace r3:=Arv l129 r3
  replace i30_1:=Asa l129 i30_1
  replace i30_2:=Asa l129 i30_2
  replace i30_3:=Asa l129 i30_3
  replace r114:=Asa l129 r114
  replace i125_1:=Asa l129 i125_1
  replace i125_2:=Asa l129 i125_2
  replace i125_4:=Asa l129 i125_4
  refine Ai fun K130 k130=>?_
  refine w_q rfl rfl fun K131 k131=>?_
  refine Aa rfl (Ah (v:=(iV ((j:Int)))) h129_27) ?_
  refine Ak rfl (Ay Market.f_fields Tryd.underlying26 rfl rfl Se (by decide) h129_5 r2) fun v132 r132=>?_
  refine Ak rfl (Ax Se rfl r132) fun v133 r133=>?_
  have g134:=Val.len r133
  refine Aa rfl (Ce (el:=67) Tryd.underlying23 rfl r133) ?_
  refine Aa rfl (Da (p:=(j:Int)) (q:=((m.fields.length:Nat):Int)) rfl rfl) ?_
  apply Ac
  apply k131
  refine As (t:=decide ((j:Int) < ((m.fields.length:Nat):Int))) rfl (fun b135=>?_) (fun b135=>?_)
  ·have q135:=of_decide_eq_true b135
   refine Al ?_
   apply k130
   refine Ai fun K136 k136=>?_
   refine Ao ?_
   refine w_q rfl rfl fun K137 k137=>?_
   refine Ak rfl (Ay Market.f_fields Tryd.underlying26 rfl rfl Se (by decide) h129_5 r2) fun v138 r138=>?_
   refine Ak rfl (Ax Se rfl r138) fun v139 r139=>?_
   refine Aa rfl (Ah (v:=(iV ((j:Int)))) h129_27) ?_
   obtain ⟨a141,ha141⟩:=Ed (xs:=m.fields) (i:=j) (by first | omega | (simp only [List.nil_append]; omega))
   have gf_a141:=(ok.field _ _ ha141).2.2.2.1
   refine Ak rfl (Ci j Tryd.underlying23 Ln rfl r139 (q:=(j:Int)) rfl rfl ha141) fun v140 r140=>?_
   refine Ak rfl (Ax Ln rfl r140) fun v142 r142=>?_
   refine Ae rfl (Ct Xg fun k143=>?_)
   obtain ⟨c144_0,e144_,i144_1,⟨i144_2a,i144_2b⟩,⟨i144_3a,i144_3b⟩,⟨i144_4a,i144_4b⟩,i144_5⟩:=FField.open_ r142
   have e144_c:v142.cells = [(.string (a141.name)),(iV (a141.house)),(iV (a141.grows.low)),(iV (a141.grows.high)),c144_0].toArray:=by rw [e144_]; rfl
   refine Cx rfl (Ld (i:=0) (vs:=[(.string (a141.name)),(iV (a141.house)),(iV (a141.grows.low)),(iV (a141.grows.high)),c144_0]) (c':=[(.string (a141.name)),(iV (a141.house)),(iV (a141.grows.low)),(iV (a141.grows.high)),c144_0]) ⟨_,Ab Tryd.typeInfo67,rfl⟩ rfl rfl e144_c rfl (Xv ⟨rfl,rfl,rfl,rfl,(Val.single_l i144_5),trivial⟩) rfl (Nat.le_of_ble_eq_true rfl) rfl ?_)
   apply Ac
   apply k137
   refine Ai fun K145 k145=>?_
   refine o_begin (((k143,Res.obj (Obj.cells #[(.string (a141.name)),(iV (a141.house)),(iV (a141.grows.low)),(iV (a141.grows.high)),c144_0] 67 (0,0))) :: (og129_26c2 ++ ((k124,Res.obj (Obj.cells #[c125_0,c125_1,ov129_26c2,c125_3] 26 (0,0))) :: ((k29,Res.obj (Obj.cells #[c30_0,c30_1,c30_2,v78] 26 (0,0))) :: []))))) [0,1,2,3,4,5,6,7,8,9,10,11,12,13,14,15] (by kernel_rfl) rfl rfl ?_
   refine o_val (i:=0) [o1,o0,o0,o0,o0,o0,o0,o0,o0,o0,o0,o0,o0,o0,o0,o0,o0] rfl (by kernel_rfl) rfl ⟨Ary,(by repeat first | exact subN | refine subC ?_ | refine subG ?_ | refine subB ?_ | refine subL ?_)⟩ rfl (Yld.o (Cb Tryd.underlying67 rfl rfl ⟨_,Ab Tryd.typeInfo65,rfl⟩ (by decide) rfl rfl)) ?_
   refine o_val (i:=1) [o1,o1,o0,o0,o0,o0,o0,o0,o0,o0,o0,o0,o0,o0,o0,o0,o0] rfl (by kernel_rfl) rfl ⟨Ary,(by repeat first | exact subN | refine subC ?_ | refine subG ?_ | refine subB ?_ | refine subL ?_)⟩ rfl (Yld.o (Cb Tryd.underlying65 rfl rfl ⟨_,Ab Tryd.typeInfo3,rfl⟩ (by decide) rfl rfl)) ?_
   refine o_val (i:=2) [o1,o1,o1,o0,o0,o0,o0,o0,o0,o0,o0,o0,o0,o0,o0,o0,o0] rfl (by kernel_rfl) rfl ⟨Ary,(by repeat first | exact subN | refine subC ?_ | refine subG ?_ | refine subB ?_ | refine subL ?_)⟩ rfl (y_loadOC (v:=(iV (a141.grows.low))) ⟨_,Tryd.underlying3,rfl⟩ rfl (List.mem_cons_self ..) rfl) ?_
   refine o_val (i:=3) [o1,o1,o1,o1,o0,o0,o0,o0,o0,o0,o0,o0,o0,o0,o0,o0,o0] rfl (by kernel_rfl) rfl ⟨Ary,(by repeat first | exact subN | refine subC ?_ | refine subG ?_ | refine subB ?_ | refine subL ?_)⟩ rfl (Yld.o (Cb Tryd.underlying67 rfl rfl ⟨_,Ab Tryd.typeInfo65,rfl⟩ (by decide) rfl rfl)) ?_
   refine o_val (i:=4) [o1,o1,o1,o1,o1,o0,o0,o0,o0,o0,o0,o0,o0,o0,o0,o0,o0] rfl (by kernel_rfl) rfl ⟨Ary,(by repeat first | exact subN | refine subC ?_ | refine subG ?_ | refine subB ?_ | refine subL ?_)⟩ rfl (Yld.o (Cb Tryd.underlying65 rfl rfl ⟨_,Ab Tryd.typeInfo3,rfl⟩ (by decide) rfl rfl)) ?_
   refine o_val (i:=5) [o1,o1,o1,o1,o1,o1,o0,o0,o0,o0,o0,o0,o0,o0,o0,o0,o0] rfl (by kernel_rfl) rfl ⟨Ary,(by repeat first | exact subN | refine subC ?_ | refine subG ?_ | refine subB ?_ | refine subL ?_)⟩ rfl (y_loadOC (v:=(iV (a141.grows.high))) ⟨_,Tryd.underlying3,rfl⟩ rfl (List.mem_cons_self ..) rfl) ?_
   refine o_val (i:=6) [o1,o1,o1,o1,o1,o1,o1,o0,o0,o0,o0,o0,o0,o0,o0,o0,o0] rfl (by kernel_rfl) rfl ⟨Ary,(by repeat first | exact subN | refine subC ?_ | refine subG ?_ | refine subB ?_ | refine subL ?_)⟩ rfl (Yld.o (Ah (v:=(.int .u16 ((more:Int)))) h129_4)) ?_
   refine o_val (i:=7) [o1,o1,o1,o1,o1,o1,o1,o1,o0,o0,o0,o0,o0,o0,o0,o0,o0] rfl (by kernel_rfl) rfl ⟨Ary,(by repeat first | exact subN | refine subC ?_ | refine subG ?_ | refine subB ?_ | refine subL ?_)⟩ rfl (Yld.o (Abu (p:=(more:Int)) (z:=(more:Int)) Tryd.underlying68 Tryd.underlying3 rfl (Bo rfl (by omega) (by omega)))) ?_
   refine o_val1 (i:=8) [o1,o1,o1,o1,o1,o1,o1,o1,o1,o0,o0,o0,o0,o0,o0,o0,o0] rfl (by kernel_rfl) rfl ⟨Ary,(by repeat first | exact subN | refine subC ?_ | refine subG ?_ | refine subB ?_ | refine subL ?_)⟩ rfl (Yld.o (Ah (v:=(.int .u8 ((pick:Int)))) h129_3)) ⟨Ary,(by repeat first | exact subN | refine subC ?_ | refine subG ?_ | refine subB ?_ | refine subL ?_)⟩ ?_
   refine o_val1 (i:=9) [o1,o1,o1,o1,o1,o1,o1,o1,o1,o1,o0,o0,o0,o0,o0,o0,o0] rfl (by kernel_rfl) rfl ⟨Ary,(by repeat first | exact subN | refine subC ?_ | refine subG ?_ | refine subB ?_ | refine subL ?_)⟩ rfl (Yld.o (Abu (p:=(pick:Int)) (z:=(pick:Int)) Tryd.underlying5 Tryd.underlying3 rfl (Bo rfl (by omega) (by omega)))) ⟨Ary,(by repeat first | exact subN | refine subC ?_ | refine subG ?_ | refine subB ?_ | refine subL ?_)⟩ ?_
   refine o_val1 (i:=10) [o1,o1,o1,o1,o1,o1,o1,o1,o1,o1,o1,o0,o0,o0,o0,o0,o0] rfl (by kernel_rfl) rfl ⟨Ary,(by repeat first | exact subN | refine subC ?_ | refine subG ?_ | refine subB ?_ | refine subL ?_)⟩ rfl (Yld.o (Br (p:=(pick:Int)) (q:=1) rfl rfl (z:=(((pick + 1):Nat):Int)) (Bo (by first | rfl | omega | (push_cast; rfl)) (by omega) (by omega)))) ⟨Ary,(by repeat first | exact subN | refine subC ?_ | refine subG ?_ | refine subB ?_ | refine subL ?_)⟩ ?_
   refine o_val1 (i:=11) [o1,o1,o1,o1,o1,o1,o1,o1,o1,o1,o1,o1,o0,o0,o0,o0,o0] rfl (by kernel_rfl) rfl ⟨Ary,(by repeat first | exact subN | refine subC ?_ | refine subG ?_ | refine subB ?_ | refine subL ?_)⟩ rfl (Yld.o (y_rem (p:=(more:Int)) (q:=(((pick + 1):Nat):Int)) rfl rfl (by omega) (z:=(((more % (pick + 1)):Nat):Int)) rfl)) ⟨Ary,(by repeat first | exact subN | refine subC ?_ | refine subG ?_ | refine subB ?_ | refine subL ?_)⟩ ?_
   refine o_val1 (i:=12) [o1,o1,o1,o1,o1,o1,o1,o1,o1,o1,o1,o1,o1,o0,o0,o0,o0] rfl (by kernel_rfl) rfl ⟨Ary,(by repeat first | exact subN | refine subC ?_ | refine subG ?_ | refine subB ?_ | refine subL ?_)⟩ rfl (Yld.o (Br (p:=a141.grows.high) (q:=(((more % (pick + 1)):Nat):Int)) rfl rfl (z:=(a141.grows.high + (((more % (pick + 1)):Nat):Int))) (Bo (by rfl) (by omega) (by omega)))) ⟨Ary,(by repeat first | exact subN | refine subC ?_ | refine subG ?_ | refine subB ?_ | refine subL ?_)⟩ ?_
   refine o_val1 (i:=13) [o1,o1,o1,o1,o1,o1,o1,o1,o1,o1,o1,o1,o1,o1,o0,o0,o0] rfl (by kernel_rfl) rfl ⟨Ary,(by repeat first | exact subN | refine subC ?_ | refine subG ?_ | refine subB ?_ | refine subL ?_)⟩ rfl (Yld.o (Aju (p:=1000000) (q:=(a141.grows.high + (((more % (pick + 1)):Nat):Int))) rfl rfl)) ⟨Ary,(by repeat first | exact subN | refine subC ?_ | refine subG ?_ | refine subB ?_ | refine subL ?_)⟩ ?_
   refine o_run (i:=14) [o1,o1,o1,o1,o1,o1,o1,o1,o1,o1,o1,o1,o1,o1,o1,o0,o0] rfl (by kernel_rfl) rfl rfl (Cm (vs:=[(iV (a141.grows.low)),(iV ((min 1000000 ((a141.grows.high + (((more % (pick + 1)):Nat):Int))))))]) (Hy (a:=a141.grows.low) (b:=(min 1000000 ((a141.grows.high + (((more % (pick + 1)):Nat):Int))))) (by constructor <;> omega) (by constructor <;> omega)) Tryd.func34 rfl rfl ⟨rfl,rfl,trivial⟩ fun v146 ρ146 σ146 hc146=>?_)
   obtain ⟨l146,s146,r146⟩:=hc146
   replace s146:=s146.symm; subst s146
   replace hg:=Glob.mono l146 hg
   replace r2:=Arv l146 r2
   replace r3:=Arv l146 r3
   replace i30_1:=Asa l146 i30_1
   replace i30_2:=Asa l146 i30_2
   replace i30_3:=Asa l146 i30_3
   replace r114:=Asa l146 r114
   replace i125_1:=Asa l146 i125_1
   replace i125_2:=Asa l146 i125_2
   replace i125_4:=Asa l146 i125_4
   replace OG129_26c2:=Grow.mono l146 OG129_26c2
   replace i144_5:=Asa l146 i144_5
   refine ⟨⟨l146,(by repeat first | exact subN | refine subC ?_ | refine subG ?_ | refine subB ?_ | refine subL ?_)⟩,?_⟩
   refine o_val1 (i:=15) [o1,o1,o1,o1,o1,o1,o1,o1,o1,o1,o1,o1,o1,o1,o1,o1,o0] rfl (by kernel_rfl) rfl ⟨l146,(by repeat first | exact subN | refine subC ?_ | refine subG ?_ | refine subB ?_ | refine subL ?_)⟩ rfl (Yld.o (Cb Tryd.underlying67 rfl rfl ⟨_,Ab Tryd.typeInfo65,rfl⟩ (by decide) rfl rfl)) ⟨Ary,(by repeat first | exact subN | refine subC ?_ | refine subG ?_ | refine subB ?_ | refine subL ?_)⟩ ?_
   obtain ⟨e147_,⟨i147_1a,i147_1b⟩,⟨i147_2a,i147_2b⟩⟩:=Span.open_ r146
   have e147_c:v146.cells = [(iV (a141.grows.low)),(iV ((min 1000000 ((a141.grows.high + (((more % (pick + 1)):Nat):Int))))))].toArray:=by rw [e147_]; rfl
   refine o_runLN (i:=16) [o1,o1,o1,o1,o1,o1,o1,o1,o1,o1,o1,o1,o1,o1,o1,o1,o1] rfl (by kernel_rfl) (by kernel_rfl) rfl rfl (Ld (i:=0) (vs:=[(iV (a141.grows.low)),(iV ((min 1000000 ((a141.grows.high + (((more % (pick + 1)):Nat):Int))))))]) (c':=[(.string (a141.name)),(iV (a141.house)),(iV (a141.grows.low)),(iV ((min 1000000 ((a141.grows.high + (((more % (pick + 1)):Nat):Int)))))),c144_0]) ⟨_,Ab Tryd.typeInfo65,rfl⟩ rfl rfl e147_c rfl (Xv ⟨rfl,rfl,trivial⟩) rfl (Nat.le_of_ble_eq_true rfl) rfl ?_)
   refine o_end rfl ?_
   apply k145
   refine Ag rfl rfl ?_
   refine Aa rfl (Cb Tryd.underlying26 rfl rfl ⟨_,Ab Tryd.typeInfo23,rfl⟩ (by decide) h129_26 rfl) ?_
   refine Ae rfl (Gv (v:=ov129_26c2) ⟨_,Tryd.underlying23,rfl⟩ rfl (List.mem_cons_of_mem _ (List.mem_append_right _ (List.mem_cons_self ..))) rfl ?_)
   refine Ae rfl (Xt (i:=0) (cs:=[(.string (a141.name)),(iV (a141.house)),(iV (a141.grows.low)),(iV ((min 1000000 ((a141.grows.high + (((more % (pick + 1)):Nat):Int)))))),c144_0]) (rs:=[]) ⟨_,Tryd.underlying67,rfl⟩ ⟨_,Ab Tryd.typeInfo67,rfl⟩ rfl rfl rfl rfl ?_)
   have r148:Val ρ146 (.agg #[(.string (a141.name)),(iV (a141.house)),(iV (a141.grows.low)),(iV ((min 1000000 ((a141.grows.high + (((more % (pick + 1)):Nat):Int)))))),c144_0]) (⟨a141.name,a141.house,⟨a141.grows.low,(min 1000000 ((a141.grows.high + (((more % (pick + 1)):Nat):Int))))⟩,a141.marks⟩:FField):=FField.shut (x:=(⟨a141.name,a141.house,⟨a141.grows.low,(min 1000000 ((a141.grows.high + (((more % (pick + 1)):Nat):Int))))⟩,a141.marks⟩:FField)) (show (a141.name).size < 2 ^ 60 by omega) (show I64 (a141.house) from by constructor <;> omega) (show I64 (a141.grows.low) from by constructor <;> omega) (show I64 ((min 1000000 ((a141.grows.high + (((more % (pick + 1)):Nat):Int))))) from by constructor <;> omega) i144_5
   refine Ae rfl (Bi (α:=FField) (xs:=[(⟨a141.name,a141.house,⟨a141.grows.low,(min 1000000 ((a141.grows.high + (((more % (pick + 1)):Nat):Int))))⟩,a141.marks⟩:FField)]) (vs:=[(.agg #[(.string (a141.name)),(iV (a141.house)),(iV (a141.grows.low)),(iV ((min 1000000 ((a141.grows.high + (((more % (pick + 1)):Nat):Int)))))),c144_0])]) Tryd.underlying23 Ln Xg rfl (by decide) (Dl (os:=[.tmp 273]) ⟨rfl,trivial⟩) ⟨r148,trivial⟩ rfl (by decide) fun k149 cs149 R149=>?_)
   have G149:Grow ρ146 67 (.slice (some ⟨k149,0,none⟩) 1 1) ([(⟨a141.name,a141.house,⟨a141.grows.low,(min 1000000 ((a141.grows.high + (((more % (pick + 1)):Nat):Int))))⟩,a141.marks⟩:FField)]:List FField) [(k149,Res.obj (.cells cs149.toArray 67 (0,0)))]:=Bs R149 rfl (by decide)
   have sv151_hg:=hg
   have sv151_r2:=r2
   have sv151_r3:=r3
   have sv151_i30_1:=i30_1
   have sv151_i30_2:=i30_2
   have sv151_i30_3:=i30_3
   have sv151_r114:=r114
   have sv151_i125_1:=i125_1
   have sv151_i125_2:=i125_2
   have sv151_i125_4:=i125_4
   have sv151_OG129_26c2:=OG129_26c2
   have sv151_i144_5:=i144_5
   have sv151_r146:=r146
   have sv151_r148:=r148
   have sv151_G149:=G149
   refine l_lend G149 fun ρ151 l151 r151 L151=>?_
   replace hg:=Glob.mono l151 hg
   replace r2:=Arv l151 r2
   replace r3:=Arv l151 r3
   replace i30_1:=Asa l151 i30_1
   replace i30_2:=Asa l151 i30_2
   replace i30_3:=Asa l151 i30_3
   replace r114:=Asa l151 r114
   replace i125_1:=Asa l151 i125_1
   replace i125_2:=Asa l151 i125_2
   replace i125_4:=Asa l151 i125_4
   replace OG129_26c2:=Grow.mono l151 OG129_26c2
   replace i144_5:=Asa l151 i144_5
   replace r148:=Asa l151 r148
   replace G149:=Grow.mono l151 G149
   refine Bj (σ':=(og129_26c2 ++ ((k143,Res.obj (Obj.cells #[(.string (a141.name)),(iV (a141.house)),(iV (a141.grows.low)),(iV ((min 1000000 ((a141.grows.high + (((more % (pick + 1)):Nat):Int)))))),c144_0] 67 (0,0))) :: ((k124,Res.obj (Obj.cells #[c125_0,c125_1,ov129_26c2,c125_3] 26 (0,0))) :: ((k29,Res.obj (Obj.cells #[c30_0,c30_1,c30_2,v78] 26 (0,0))) :: σ))))) (Arx (List.perm_append_comm_assoc ([(k143,Res.obj (Obj.cells #[(.string (a141.name)),(iV (a141.house)),(iV (a141.grows.low)),(iV ((min 1000000 ((a141.grows.high + (((more % (pick + 1)):Nat):Int)))))),c144_0] 67 (0,0)))]) og129_26c2 _)) ?_
   refine Ae rfl (Fx (σ:=((k143,Res.obj (Obj.cells #[(.string (a141.name)),(iV (a141.house)),(iV (a141.grows.low)),(iV ((min 1000000 ((a141.grows.high + (((more % (pick + 1)):Nat):Int)))))),c144_0] 67 (0,0))) :: ((k124,Res.obj (Obj.cells #[c125_0,c125_1,ov129_26c2,c125_3] 26 (0,0))) :: ((k29,Res.obj (Obj.cells #[c30_0,c30_1,c30_2,v78] 26 (0,0))) :: σ)))) (gr:=og129_26c2) (xs:=(m.fields.take j).map (growF (more % (pick + 1)))) (ys:=([(⟨a141.name,a141.house,⟨a141.grows.low,(min 1000000 ((a141.grows.high + (((more % (pick + 1)):Nat):Int))))⟩,a141.marks⟩:FField)]:List FField)) Tryd.underlying23 Tryd.underlying23 (Ab Tryd.typeInfo67) rfl (Nat.le_of_ble_eq_true rfl) rfl rfl rfl rfl OG129_26c2 r151 (by simp only [List.length_append,List.length_cons,List.length_nil,List.length_map,List.length_take,List.length_drop] at *; omega) fun v150 gr150 G150=>?_)
   refine Aa rfl (Cb Tryd.underlying26 rfl rfl ⟨_,Ab Tryd.typeInfo23,rfl⟩ (by decide) h129_26 rfl) ?_
   refine Bj (σ':=((k124,Res.obj (Obj.cells #[c125_0,c125_1,ov129_26c2,c125_3] 26 (0,0))) :: (gr150 ++ ((k143,Res.obj (Obj.cells #[(.string (a141.name)),(iV (a141.house)),(iV (a141.grows.low)),(iV ((min 1000000 ((a141.grows.high + (((more % (pick + 1)):Nat):Int)))))),c144_0] 67 (0,0))) :: ((k29,Res.obj (Obj.cells #[c30_0,c30_1,c30_2,v78] 26 (0,0))) :: σ))))) (Arx ((List.Perm.append_left gr150 (List.perm_append_comm_assoc ([(k143,Res.obj (Obj.cells #[(.string (a141.name)),(iV (a141.house)),(iV (a141.grows.low)),(iV ((min 1000000 ((a141.grows.high + (((more % (pick + 1)):Nat):Int)))))),c144_0] 67 (0,0)))]) ([(k124,Res.obj (Obj.cells #[c125_0,c125_1,ov129_26c2,c125_3] 26 (0,0)))]) _)).trans (List.perm_append_comm_assoc gr150 ([(k124,Res.obj (Obj.cells #[c125_0,c125_1,ov129_26c2,c125_3] 26 (0,0)))]) _))) ?_
   refine Cx rfl (Cz (j:=0) (v:=v150) ⟨_,Ab Tryd.typeInfo23,rfl⟩ rfl rfl (Grow.single G150) rfl (Nat.le_of_ble_eq_true rfl) ?_)
   apply Ac
   apply k136
   refine Ag rfl rfl ?_
   refine Aa rfl (Ah (v:=(iV ((j:Int)))) h129_27) ?_
   refine Aa rfl (Br (p:=(j:Int)) (q:=1) rfl rfl (z:=(((j + 1):Nat):Int)) (Bo (by first | rfl | omega | (push_cast; rfl)) (by omega) (by omega))) ?_
   refine l_A (iV ((((j + 1):Nat):Int))) rfl rfl ?_
   refine Bj (σ':=((k143,Res.obj (Obj.cells #[(.string (a141.name)),(iV (a141.house)),(iV (a141.grows.low)),(iV ((min 1000000 ((a141.grows.high + (((more % (pick + 1)):Nat):Int)))))),c144_0] 67 (0,0))) :: ((k124,Res.obj (Obj.cells #[c125_0,c125_1,v150,c125_3] 26 (0,0))) :: (gr150 ++ ((k29,Res.obj (Obj.cells #[c30_0,c30_1,c30_2,v78] 26 (0,0))) :: σ))))) (Arx ((List.Perm.append_left ([(k124,Res.obj (Obj.cells #[c125_0,c125_1,v150,c125_3] 26 (0,0)))]) (List.perm_append_comm_assoc gr150 ([(k143,Res.obj (Obj.cells #[(.string (a141.name)),(iV (a141.house)),(iV (a141.grows.low)),(iV ((min 1000000 ((a141.grows.high + (((more % (pick + 1)):Nat):Int)))))),c144_0] 67 (0,0)))]) _)).trans (List.perm_append_comm_assoc ([(k124,Res.obj (Obj.cells #[c125_0,c125_1,v150,c125_3] 26 (0,0)))]) ([(k143,Res.obj (Obj.cells #[(.string (a141.name)),(iV (a141.house)),(iV (a141.grows.low)),(iV ((min 1000000 ((a141.grows.high + (((more % (pick + 1)):Nat):Int)))))),c144_0] 67 (0,0)))]) _))) ?_
   refine Bj Ghost.drop ?_
   refine Bj (σ':=((k29,Res.obj (Obj.cells #[c30_0,c30_1,c30_2,v78] 26 (0,0))) :: ((k124,Res.obj (Obj.cells #[c125_0,c125_1,v150,c125_3] 26 (0,0))) :: (gr150 ++ σ)))) (Arx ((List.Perm.append_left ([(k124,Res.obj (Obj.cells #[c125_0,c125_1,v150,c125_3] 26 (0,0)))]) (List.perm_append_comm_assoc gr150 ([(k29,Res.obj (Obj.cells #[c30_0,c30_1,c30_2,v78] 26 (0,0)))]) _)).trans (List.perm_append_comm_assoc ([(k124,Res.obj (Obj.cells #[c125_0,c125_1,v150,c125_3] 26 (0,0)))]) ([(k29,Res.obj (Obj.cells #[c30_0,c30_1,c30_2,v78] 26 (0,0)))]) _))) ?_
   refine Bj (σ':=((k124,Res.obj (Obj.cells #[c125_0,c125_1,v150,c125_3] 26 (0,0))) :: ((k29,Res.obj (Obj.cells #[c30_0,c30_1,c30_2,v78] 26 (0,0))) :: (gr150 ++ σ)))) (Arx (List.perm_append_comm_assoc ([(k29,Res.obj (Obj.cells #[c30_0,c30_1,c30_2,v78] 26 (0,0)))]) ([(k124,Res.obj (Obj.cells #[c125_0,c125_1,v150,c125_3] 26 (0,0)))]) _)) ?_
   refine Bj (σ':=(gr150 ++ ((k124,Res.obj (Obj.cells #[c125_0,c125_1,v150,c125_3] 26 (0,0))) :: ((k29,Res.obj (Obj.cells #[c30_0,c30_1,c30_2,v78] 26 (0,0))) :: σ)))) (Arx ((List.Perm.append_left ([(k124,Res.obj (Obj.cells #[c125_0,c125_1,v150,c125_3] 26 (0,0)))]) (List.perm_append_comm_assoc ([(k29,Res.obj (Obj.cells #[c30_0,c30_1,c30_2,v78] 26 (0,0)))]) gr150 _)).trans (List.perm_append_comm_assoc ([(k124,Res.obj (Obj.cells #[c125_0,c125_1,v150,c125_3] 26 (0,0)))]) gr150 _))) ?_
   apply Ac
   refine ⟨_,?_,((j + 1)),v150,gr150,rfl,rfl,(Arz (Arz l129 l146) l151),rfl,h129_3,h129_4,h129_5,h129_6,h129_11,h129_14,h129_26,rfl,(by omega),(Ga (grown_succ ha141) G150),trivial⟩
   omega
  have q135:=of_decide_eq_false b135
  refine Bx ?_
  apply k127
  refine w_q rfl rfl fun K152 k152=>?_
  have sv153_hg:=hg
  have sv153_r2:=r2
  have sv153_r3:=r3
  have sv153_i30_1:=i30_1
  have sv153_i30_2:=i30_2
  have sv153_i30_3:=i30_3
  have sv153_r114:=r114
  have sv153_i125_1:=i125_1
  have sv153_i125_2:=i125_2
  have sv153_i125_4:=i125_4
  have sv153_OG129_26c2:=OG129_26c2
  have sv153_r132:=r132
  have sv153_r133:=r133
  refine l_lend OG129_26c2 fun ρ153 l153 r153 L153=>?_
  replace hg:=Glob.mono l153 hg
  replace r2:=Arv l153 r2
  replace r3:=Arv l153 r3
  replace i30_1:=Asa l153 i30_1
  replace i30_2:=Asa l153 i30_2
  replace i30_3:=Asa l153 i30_3
  replace r114:=Asa l153 r114
  replace i125_1:=Asa l153 i125_1
  replace i125_2:=Asa l153 i125_2
  replace i125_4:=Asa l153 i125_4
  replace OG129_26c2:=Grow.mono l153 OG129_26c2
  refine Ae rfl (Xt (i:=0) (cs:=[c125_0,c125_1,ov129_26c2,c125_3]) (rs:=[]) ⟨_,Tryd.underlying26,rfl⟩ ⟨_,Ab Tryd.typeInfo26,rfl⟩ h129_26 rfl rfl rfl ?_)
  have r154:Val ρ153 (.agg #[c125_0,c125_1,ov129_26c2,c125_3]) (⟨m.houses,m.marks,(m.fields.take j).map (growF (more % (pick + 1))),m.sales⟩:Market):=Market.shut (x:=(⟨m.houses,m.marks,(m.fields.take j).map (growF (more % (pick + 1))),m.sales⟩:Market)) i125_1 i125_2 r153 i125_4
  obtain ⟨hz_grown,hp0_grown,hq0_grown⟩:=fields_law (n:=more % (pick + 1)) hm0
  obtain ⟨p_grown,hp_grown⟩:∃ z,Aik (⟨m.houses,m.marks,m.fields.map (growF (more % (pick + 1))),m.sales⟩:Market) = z:=⟨_,rfl⟩
  obtain ⟨q_grown,hq_grown⟩:∃ z,Akj (⟨m.houses,m.marks,m.fields.map (growF (more % (pick + 1))),m.sales⟩:Market) = z:=⟨_,rfl⟩
  rw [hp_grown] at hp0_grown; rw [hq_grown] at hq0_grown
  refine Ae rfl (Cm (vs:=[(.agg #[c125_0,c125_1,ov129_26c2,c125_3])]) (c_ExcessE (m:=(⟨m.houses,m.marks,m.fields.map (growF (more % (pick + 1))),m.sales⟩:Market)) (by rw [show j = m.fields.length by omega,List.take_length]) hp_grown hz_grown r154) Tryd.func32 rfl rfl ⟨rfl,trivial⟩ fun w156 ρ156 σ156 hc156=>?_)
  obtain ⟨l156,s156,v156_0,w156e,r156_0⟩:=hc156
  replace s156:=s156.symm; subst s156 w156e
  replace hg:=Glob.mono l156 hg
  replace r2:=Arv l156 r2
  replace r3:=Arv l156 r3
  replace i30_1:=Asa l156 i30_1
  replace i30_2:=Asa l156 i30_2
  replace i30_3:=Asa l156 i30_3
  replace r114:=Asa l156 r114
  replace i125_1:=Asa l156 i125_1
  replace i125_2:=Asa l156 i125_2
  replace i125_4:=Asa l156 i125_4
  replace r153:=Asa l156 r153
  replace L153:=Lent.mono l156 L153
  replace r154:=Asa l156 r154
  refine l_M (.tuple #[(iV (p_grown)),v156_0,(iV (0))]) rfl rfl ?_
  refine Aa rfl (Bk (vs:=#[(iV (p_grown)),v156_0,(iV (0))]) rfl (v:=(iV (p_grown))) rfl) ?_
  refine Aa rfl (Bk (vs:=#[(iV (p_grown)),v156_0,(iV (0))]) rfl (v:=v156_0) rfl) ?_
  refine Aa rfl (Bk (vs:=#[(iV (p_grown)),v156_0,(iV (0))]) rfl (v:=(iV (0))) rfl) ?_
  refine l_A (iV (p_grown)) rfl rfl ?_
  refine l_A v156_0 rfl rfl ?_
  refine l_A (iV (0)) rfl rfl ?_
  apply Ac
  apply k152
  refine w_q rfl rfl fun K157 k157=>?_
  refine Ae rfl (Xt (i:=0) (cs:=[c125_0,c125_1,ov129_26c2,c125_3]) (rs:=[]) ⟨_,Tryd.underlying26,rfl⟩ ⟨_,Ab Tryd.typeInfo26,rfl⟩ h129_26 rfl rfl rfl ?_)
  have r158:Val ρ156 (.agg #[c125_0,c125_1,ov129_26c2,c125_3]) (⟨m.houses,m.marks,(m.fields.take j).map (growF (more % (pick + 1))),m.sales⟩:Market):=Market.shut (x:=(⟨m.houses,m.marks,(m.fields.take j).map (growF (more % (pick + 1))),m.sales⟩:Market)) i125_1 i125_2 r153 i125_4
  refine Ae rfl (Cm (vs:=[(.agg #[c125_0,c125_1,ov129_26c2,c125_3])]) (c_CheatsE (m:=(⟨m.houses,m.marks,m.fields.map (growF (more % (pick + 1))),m.sales⟩:Market)) (by rw [show j = m.fields.length by omega,List.take_length]) hq_grown rfl hz_grown r158 (noRecv_obj (noRecv_obj hnr))) Tryd.func31 rfl rfl ⟨rfl,trivial⟩ fun w159 ρ159 σ159 hc159=>?_)
  obtain ⟨l159,s159,v159_0,w159e,r159_0⟩:=hc159
  replace s159:=s159.symm; subst s159 w159e
  replace hg:=Glob.mono l159 hg
  replace r3:=Arv l159 r3
  replace i30_1:=Asa l159 i30_1
  replace i30_2:=Asa l159 i30_2
  replace i30_3:=Asa l159 i30_3
  replace r114:=Asa l159 r114
  replace i125_1:=Asa l159 i125_1
  replace i125_2:=Asa l159 i125_2
  replace i125_4:=Asa l159 i125_4
  replace r153:=Asa l159 r153
  replace L153:=Lent.mono l159 L153
  replace r158:=Asa l159 r158
  refine l_M (.tuple #[(iV (q_grown)),v159_0,(iV (0))]) rfl rfl ?_
  refine Aa rfl (Bk (vs:=#[(iV (q_grown)),v159_0,(iV (0))]) rfl (v:=(iV (q_grown))) rfl) ?_
  refine Aa rfl (Bk (vs:=#[(iV (q_grown)),v159_0,(iV (0))]) rfl (v:=v159_0) rfl) ?_
  refine Aa rfl (Bk (vs:=#[(iV (q_grown)),v159_0,(iV (0))]) rfl (v:=(iV (0))) rfl) ?_
  refine l_A (iV (q_grown)) rfl rfl ?_
  refine l_A v159_0 rfl rfl ?_
  refine l_A (iV (0)) rfl rfl ?_
  apply Ac
  apply k157
  refine Ai fun K160 k160=>?_
  refine w_q rfl rfl fun K161 k161=>?_
  refine l_M (iV (0)) rfl rfl ?_
  refine Aa rfl (Dg (p:=0) (q:=0) rfl rfl) ?_
  refine l_M (.bool (false)) rfl rfl ?_
  refine l_M (iV (0)) (Ar rfl rfl rfl rfl) rfl ?_
  refine Aa (Ar rfl rfl rfl rfl) (Dg (p:=0) (q:=0) rfl rfl) ?_
  refine Aa rfl (Bm rfl rfl (v:=(.bool (false))) rfl) ?_
  refine l_M (.bool (false)) rfl rfl ?_
  refine l_M (iV (p_grown)) (Ar rfl rfl rfl rfl) rfl ?_
  refine Aa (Ar rfl rfl rfl rfl) (Ah (v:=(iV (Aik m))) h129_11) ?_
  refine Aa (Ar rfl rfl rfl rfl) (Gk (p:=p_grown) (q:=Aik m) rfl rfl) ?_
  refine Aa rfl (Bm rfl rfl (v:=(.bool (decide (p_grown > Aik m)))) rfl) ?_
  refine l_M (.bool (decide (p_grown > Aik m))) rfl rfl ?_
  refine l_M (iV (q_grown)) (Ar rfl rfl rfl (decide_eq_false (by omega))) rfl ?_
  refine Aa (Ar rfl rfl rfl (decide_eq_false (by omega))) (Ah (v:=(iV (Akj m))) h129_14) ?_
  refine Aa (Ar rfl rfl rfl (decide_eq_false (by omega))) (Gk (p:=q_grown) (q:=Akj m) rfl rfl) ?_
  refine Aa rfl (Bm rfl (decide_eq_false (by omega)) (v:=(.bool (decide (q_grown > Akj m)))) rfl) ?_
  apply Ac
  apply k161
  refine Cg rfl (decide_eq_false (by omega)) ?_
  refine Al ?_
  apply k160
  refine Ai fun K162 k162=>?_
  refine wp_back L153 (noRecv_obj (noRecv_obj hnr)) ?_
  replace hg:=sv153_hg
  replace r2:=sv153_r2
  replace r3:=sv153_r3
  replace i30_1:=sv153_i30_1
  replace i30_2:=sv153_i30_2
  replace i30_3:=sv153_i30_3
  replace r114:=sv153_r114
  replace i125_1:=sv153_i125_1
  replace i125_2:=sv153_i125_2
  replace i125_4:=sv153_i125_4
  replace OG129_26c2:=sv153_OG129_26c2
  replace r132:=sv153_r132
  replace r133:=sv153_r133
  refine Ag rfl rfl ?_
  refine Aa rfl (Cb Tryd.underlying26 rfl rfl ⟨_,Ab Tryd.typeInfo23,rfl⟩ (by decide) h129_26 rfl) ?_
  refine Ae rfl (Gv (v:=ov129_26c2) ⟨_,Tryd.underlying23,rfl⟩ rfl (List.mem_append_right _ (List.mem_cons_self ..)) rfl ?_)
  refine Ak rfl (Ax Ln h129_6 r3) fun v163 r163=>?_
  refine Ae rfl (Bi (α:=FField) (xs:=[x]) (vs:=[v163]) Tryd.underlying23 Ln Xg rfl (by decide) (Dl (os:=[.tmp 307]) ⟨rfl,trivial⟩) ⟨r163,trivial⟩ rfl (by decide) fun k164 cs164 R164=>?_)
  have G164:Grow ρ129 67 (.slice (some ⟨k164,0,none⟩) 1 1) ([x]:List FField) [(k164,Res.obj (.cells cs164.toArray 67 (0,0)))]:=Bs R164 rfl (by decide)
  refine Ca G164 fun ρ166 l166 r166=>?_
  replace hg:=Glob.mono l166 hg
  replace r3:=Arv l166 r3
  replace i30_1:=Asa l166 i30_1
  replace i30_2:=Asa l166 i30_2
  replace i30_3:=Asa l166 i30_3
  replace r114:=Asa l166 r114
  replace i125_1:=Asa l166 i125_1
  replace i125_2:=Asa l166 i125_2
  replace i125_4:=Asa l166 i125_4
  replace OG129_26c2:=Grow.mono l166 OG129_26c2
  replace r163:=Asa l166 r163
  refine Ae rfl (Fx (σ:=((k124,Res.obj (Obj.cells #[c125_0,c125_1,ov129_26c2,c125_3] 26 (0,0))) :: ((k29,Res.obj (Obj.cells #[c30_0,c30_1,c30_2,v78] 26 (0,0))) :: σ))) (gr:=og129_26c2) (xs:=(m.fields.take j).map (growF (more % (pick + 1)))) (ys:=([x]:List FField)) Tryd.underlying23 Tryd.underlying23 (Ab Tryd.typeInfo67) rfl (Nat.le_of_ble_eq_true rfl) rfl rfl rfl rfl OG129_26c2 r166 (by simp only [List.length_append,List.length_cons,List.length_nil,List.length_map,List.length_take,List.length_drop] at *; omega) fun v165 gr165 G165=>?_)
  refine Aa rfl (Cb Tryd.underlying26 rfl rfl ⟨_,Ab Tryd.typeInfo23,rfl⟩ (by decide) h129_26 rfl) ?_
  refine Bj (σ':=((k124,Res.obj (Obj.cells #[c125_0,c125_1,ov129_26c2,c125_3] 26 (0,0))) :: (gr165 ++ ((k29,Res.obj (Obj.cells #[c30_0,c30_1,c30_2,v78] 26 (0,0))) :: σ)))) (Arx (List.perm_append_comm_assoc gr165 ([(k124,Res.obj (Obj.cells #[c125_0,c125_1,ov129_26c2,c125_3] 26 (0,0)))]) _)) ?_
  refine Cx rfl (Cz (j:=0) (v:=v165) ⟨_,Ab Tryd.typeInfo23,rfl⟩ rfl rfl (Grow.single G165) rfl (Nat.le_of_ble_eq_true rfl) ?_)
  apply Ac
  apply k162
  refine Ai fun K167 k167=>?_
  refine w_q rfl rfl fun K168 k168=>?_
  refine Bj (σ':=(gr165 ++ ((k124,Res.obj (Obj.cells #[c125_0,c125_1,v165,c125_3] 26 (0,0))) :: ((k29,Res.obj (Obj.cells #[c30_0,c30_1,c30_2,v78] 26 (0,0))) :: σ)))) (Arx (List.perm_append_comm_assoc ([(k124,Res.obj (Obj.cells #[c125_0,c125_1,v165,c125_3] 26 (0,0)))]) gr165 _)) ?_
  refine Ca G165 fun ρ169 l169 r169=>?_
  replace hg:=Glob.mono l169 hg
  replace i30_1:=Asa l169 i30_1
  replace i30_2:=Asa l169 i30_2
  replace i30_3:=Asa l169 i30_3
  replace r114:=Asa l169 r114
  replace i125_1:=Asa l169 i125_1
  replace i125_2:=Asa l169 i125_2
  replace i125_4:=Asa l169 i125_4
  refine Ae rfl (Xt (i:=0) (cs:=[c125_0,c125_1,v165,c125_3]) (rs:=[]) ⟨_,Tryd.underlying26,rfl⟩ ⟨_,Ab Tryd.typeInfo26,rfl⟩ h129_26 rfl rfl rfl ?_)
  have r170:Val ρ169 (.agg #[c125_0,c125_1,v165,c125_3]) (⟨m.houses,m.marks,((m.fields.take j).map (growF (more % (pick + 1))) ++ ([x]:List FField)),m.sales⟩:Market):=Market.shut (x:=(⟨m.houses,m.marks,((m.fields.take j).map (growF (more % (pick + 1))) ++ ([x]:List FField)),m.sales⟩:Market)) i125_1 i125_2 r169 i125_4
  refine Ae rfl (Bn (vs:=[(.agg #[c125_0,c125_1,v165,c125_3])]) (v:=(iV (Ch (⟨m.houses,m.marks,m.fields.map (growF (more % (pick + 1))) ++ [x],m.sales⟩:Market)))) (c_CheckMarket (m:=(⟨m.houses,m.marks,m.fields.map (growF (more % (pick + 1))) ++ [x],m.sales⟩:Market)) (Val.cast (by rw [show j = m.fields.length by omega,List.take_length]) r170)) Tryd.func28 rfl rfl ⟨rfl,trivial⟩ ?_)
  refine Aa rfl (Dg (p:=Ch (⟨m.houses,m.marks,m.fields.map (growF (more % (pick + 1))) ++ [x],m.sales⟩:Market)) (q:=0) rfl rfl) ?_
  apply Ac
  apply k168
  refine As (t:=Ch (⟨m.houses,m.marks,m.fields.map (growF (more % (pick + 1))) ++ [x],m.sales⟩:Market) != 0) rfl (fun b171=>?_) (fun b171=>?_)
  ·have q171:=Mb b171
   refine w_q rfl rfl fun K172 k172=>?_
   refine Ae rfl (Bn (vs:=[]) (v:=(.bool (true))) (calls_up (c_tells hg (noRecv_obj (noRecv_obj hnr)))) Tryd.func17 rfl rfl trivial ?_)
   refine l_A (.bool (true)) rfl rfl ?_
   apply Ac
   apply k172
   refine Aj Ghost.drop ?_
   refine Aj Ghost.drop ?_
   refine Aj (Arw (Arz (Arz (Arz (Arz (Arz (Arz (Arz (Arz (Arz (Arz (Arz (Arz (Arz (Arz (Arz (Arz (Arz l2 l3) l15) l18) l46) l49) l52) l65) l68) l71) l84) l112) l114) l117) l120) l129) l166) l169)) ?_
   refine Aq ?_
   refine hret _ _ _ ?_
   refine ⟨rfl,rfl,Eq.trans (b:=(.bool (true))) rfl ?_⟩
   rfl
  have hz9:Ch (⟨m.houses,m.marks,m.fields.map (growF (more % (pick + 1))) ++ [x],m.sales⟩:Market) = 0:=Jh b171
  have q171:=Jh b171
  refine Al ?_
  apply k167
  refine w_q rfl rfl fun K173 k173=>?_
  refine Ae rfl (Xt (i:=0) (cs:=[c125_0,c125_1,v165,c125_3]) (rs:=[]) ⟨_,Tryd.underlying26,rfl⟩ ⟨_,Ab Tryd.typeInfo26,rfl⟩ h129_26 rfl rfl rfl ?_)
  have r174:Val ρ169 (.agg #[c125_0,c125_1,v165,c125_3]) (⟨m.houses,m.marks,((m.fields.take j).map (growF (more % (pick + 1))) ++ ([x]:List FField)),m.sales⟩:Market):=Market.shut (x:=(⟨m.houses,m.marks,((m.fields.take j).map (growF (more % (pick + 1))) ++ ([x]:List FField)),m.sales⟩:Market)) i125_1 i125_2 r169 i125_4
  have hz_more:=hz9
  obtain ⟨hp0_more,hq0_more⟩:=fields2_law hm0 hz_more
  obtain ⟨p_more,hp_more⟩:∃ z,Aik (⟨m.houses,m.marks,m.fields.map (growF (more % (pick + 1))) ++ [x],m.sales⟩:Market) = z:=⟨_,rfl⟩
  obtain ⟨q_more,hq_more⟩:∃ z,Akj (⟨m.houses,m.marks,m.fields.map (growF (more % (pick + 1))) ++ [x],m.sales⟩:Market) = z:=⟨_,rfl⟩
  rw [hp_more] at hp0_more; rw [hq_more] at hq0_more
  refine Ae rfl (Cm (vs:=[(.agg #[c125_0,c125_1,v165,c125_3])]) (c_ExcessE (m:=(⟨m.houses,m.marks,m.fields.map (growF (more % (pick + 1))) ++ [x],m.sales⟩:Market)) (by rw [show j = m.fields.length by omega,List.take_length]) hp_more hz_more r174) Tryd.func32 rfl rfl ⟨rfl,trivial⟩ fun w176 ρ176 σ176 hc176=>?_)
  obtain ⟨l176,s176,v176_0,w176e,r176_0⟩:=hc176
  replace s176:=s176.symm; subst s176 w176e
  replace hg:=Glob.mono l176 hg
  replace i30_1:=Asa l176 i30_1
  replace i30_2:=Asa l176 i30_2
  replace i30_3:=Asa l176 i30_3
  replace r114:=Asa l176 r114
  replace i125_1:=Asa l176 i125_1
  replace i125_2:=Asa l176 i125_2
  replace i125_4:=Asa l176 i125_4
  replace r169:=Asa l176 r169
  replace r174:=Asa l176 r174
  refine l_M (.tuple #[(iV (p_more)),v176_0,(iV (0))]) rfl rfl ?_
  refine Aa rfl (Bk (vs:=#[(iV (p_more)),v176_0,(iV (0))]) rfl (v:=(iV (p_more))) rfl) ?_
  refine Aa rfl (Bk (vs:=#[(iV (p_more)),v176_0,(iV (0))]) rfl (v:=v176_0) rfl) ?_
  refine Aa rfl (Bk (vs:=#[(iV (p_more)),v176_0,(iV (0))]) rfl (v:=(iV (0))) rfl) ?_
  refine l_A (iV (p_more)) rfl rfl ?_
  refine l_A (iV (0)) rfl rfl ?_
  apply Ac
  apply k173
  refine w_q rfl rfl fun K177 k177=>?_
  refine Ae rfl (Xt (i:=0) (cs:=[c125_0,c125_1,v165,c125_3]) (rs:=[]) ⟨_,Tryd.underlying26,rfl⟩ ⟨_,Ab Tryd.typeInfo26,rfl⟩ h129_26 rfl rfl rfl ?_)
  have r178:Val ρ176 (.agg #[c125_0,c125_1,v165,c125_3]) (⟨m.houses,m.marks,((m.fields.take j).map (growF (more % (pick + 1))) ++ ([x]:List FField)),m.sales⟩:Market):=Market.shut (x:=(⟨m.houses,m.marks,((m.fields.take j).map (growF (more % (pick + 1))) ++ ([x]:List FField)),m.sales⟩:Market)) i125_1 i125_2 r169 i125_4
  refine Ae rfl (Cm (vs:=[(.agg #[c125_0,c125_1,v165,c125_3])]) (c_CheatsE (m:=(⟨m.houses,m.marks,m.fields.map (growF (more % (pick + 1))) ++ [x],m.sales⟩:Market)) (by rw [show j = m.fields.length by omega,List.take_length]) hq_more rfl hz_more r178 (noRecv_obj (noRecv_obj hnr))) Tryd.func31 rfl rfl ⟨rfl,trivial⟩ fun w179 ρ179 σ179 hc179=>?_)
  obtain ⟨l179,s179,v179_0,w179e,r179_0⟩:=hc179
  replace s179:=s179.symm; subst s179 w179e
  replace hg:=Glob.mono l179 hg
  replace i30_1:=Asa l179 i30_1
  replace i30_2:=Asa l179 i30_2
  replace i30_3:=Asa l179 i30_3
  replace r114:=Asa l179 r114
  replace i125_1:=Asa l179 i125_1
  replace i125_2:=Asa l179 i125_2
  replace i125_4:=Asa l179 i125_4
  replace r169:=Asa l179 r169
  replace r178:=Asa l179 r178
  refine l_M (.tuple #[(iV (q_more)),v179_0,(iV (0))]) rfl rfl ?_
  refine Aa rfl (Bk (vs:=#[(iV (q_more)),v179_0,(iV (0))]) rfl (v:=(iV (q_more))) rfl) ?_
  refine Aa rfl (Bk (vs:=#[(iV (q_more)),v179_0,(iV (0))]) rfl (v:=v179_0) rfl) ?_
  refine Aa rfl (Bk (vs:=#[(iV (q_more)),v179_0,(iV (0))]) rfl (v:=(iV (0))) rfl) ?_
  refine l_A (iV (q_more)) rfl rfl ?_
  refine l_A (iV (0)) rfl rfl ?_
  apply Ac
  apply k177
  refine w_q rfl rfl fun K180 k180=>?_
  refine l_M (iV (0)) rfl rfl ?_
  refine Aa rfl (Ek (p:=0) (q:=0) rfl rfl) ?_
  refine l_M (.bool (true)) rfl rfl ?_
  refine l_M (iV (0)) (Ar rfl rfl rfl rfl) rfl ?_
  refine Aa (Ar rfl rfl rfl rfl) (Ek (p:=0) (q:=0) rfl rfl) ?_
  refine Aa rfl (Bt rfl rfl (v:=(.bool (true))) rfl) ?_
  refine l_M (.bool (true)) rfl rfl ?_
  refine l_M (iV (p_more)) (Ar rfl rfl rfl rfl) rfl ?_
  refine Aa (Ar rfl rfl rfl rfl) (Ah (v:=(iV (Aik m))) h129_11) ?_
  refine Aa (Ar rfl rfl rfl rfl) (Tx (p:=p_more) (q:=Aik m) rfl rfl) ?_
  refine Aa rfl (Bt rfl rfl (v:=(.bool (decide (p_more ≤ Aik m)))) rfl) ?_
  refine l_M (.bool (decide (p_more ≤ Aik m))) rfl rfl ?_
  refine l_M (iV (q_more)) (Ar rfl rfl rfl (decide_eq_true (by omega))) rfl ?_
  refine Aa (Ar rfl rfl rfl (decide_eq_true (by omega))) (Ah (v:=(iV (Akj m))) h129_14) ?_
  refine Aa (Ar rfl rfl rfl (decide_eq_true (by omega))) (Tx (p:=q_more) (q:=Akj m) rfl rfl) ?_
  refine Aa rfl (Bt rfl (decide_eq_true (by omega)) (v:=(.bool (decide (q_more ≤ Akj m)))) rfl) ?_
  refine l_M (.bool (decide (q_more ≤ Akj m))) rfl rfl ?_
  refine Ae (Ar rfl rfl rfl (decide_eq_true (by omega))) (Bn (vs:=[]) (v:=(.bool (true))) (calls_up (c_tells hg (noRecv_obj (noRecv_obj hnr)))) Tryd.func17 rfl rfl trivial ?_)
  refine Aa rfl (Bt rfl (decide_eq_true (by omega)) (v:=(.bool (true))) rfl) ?_
  refine l_A (.bool (true)) rfl rfl ?_
  apply Ac
  apply k180
  refine Aj Ghost.drop ?_
  refine Aj Ghost.drop ?_
  refine Aj (Arw (Arz (Arz (Arz (Arz (Arz (Arz (Arz (Arz (Arz (Arz (Arz (Arz (Arz (Arz (Arz (Arz (Arz (Arz (Arz l2 l3) l15) l18) l46) l49) l52) l65) l68) l71) l84) l112) l114) l117) l120) l129) l166) l169) l176) l179)) ?_
  refine Aq ?_
  refine hret _ _ _ ?_
  refine ⟨rfl,rfl,Eq.trans (b:=(.bool (true))) rfl ?_⟩
  rfl
 have q26:=of_decide_eq_false b26
 refine Al ?_
 apply k21
 refine w_q rfl rfl fun K181 k181=>?_
 refine Ak rfl (Ax Lj rfl r2) fun v182 r182=>?_
 refine Ae rfl (Ct Aoj fun k183=>?_)
 obtain ⟨c184_0,c184_1,c184_2,c184_3,e184_,i184_1,i184_2,i184_3,i184_4⟩:=Market.open_ r182
 have e184_c:v182.cells = [c184_0,c184_1,c184_2,c184_3].toArray:=by rw [e184_]; rfl
 refine Cx rfl (Ld (i:=0) (vs:=[c184_0,c184_1,c184_2,c184_3]) (c':=[c184_0,c184_1,c184_2,c184_3]) ⟨_,Ab Tryd.typeInfo26,rfl⟩ rfl rfl e184_c rfl (Xv ⟨(Val.single_l i184_1),(Val.single_l i184_2),(Val.single_l i184_3),(Val.single_l i184_4),trivial⟩) rfl (Nat.le_of_ble_eq_true rfl) rfl ?_)
 apply Ac
 apply k181
 refine w_q rfl rfl fun K185 k185=>?_
 refine Aa rfl (Cb Tryd.underlying26 rfl rfl ⟨_,Ab Tryd.typeInfo23,rfl⟩ (by decide) rfl rfl) ?_
 refine Cx rfl (Cz (j:=0) (v:=(.slice none 0 0)) ⟨_,Ab Tryd.typeInfo23,rfl⟩ rfl rfl rfl rfl (Nat.le_of_ble_eq_true rfl) ?_)
 apply Ac
 apply k185
 refine Ai fun K186 k186=>?_
 refine w_q rfl rfl fun K187 k187=>?_
 refine l_A (iV (0)) rfl rfl ?_
 apply Ac
 apply k187
 refine Ao ?_
 refine Cc (fun mm ee dd ρ' σ'=>∃ (j:Nat) (ov188_26c2:Value) (og188_26c2:Own),(m.fields.length - j) = mm∧[] = dd∧Ro.le ρ18 ρ'∧(og188_26c2 ++ ((k183,Res.obj (Obj.cells #[c184_0,c184_1,ov188_26c2,c184_3] 26 (0,0))) :: σ)) = σ'∧ee 3 = (.int .u8 ((pick:Int)))∧ee 4 = (.int .u16 ((more:Int)))∧ee 5 = (.pointer (some ⟨k2,0,none⟩))∧ee 6 = (.pointer (some ⟨k3,0,none⟩))∧ee 11 = (iV (Aik m))∧ee 14 = (iV (Akj m))∧ee 26 = (.pointer (some ⟨k183,0,none⟩))∧ee 27 = (iV ((j:Int)))∧(j ≤ m.fields.length)∧Grow ρ' 67 ov188_26c2 ((m.fields.take j).map (growF (more % (pick + 1)))) og188_26c2∧True) (m:=_) ⟨0,(.slice none 0 0),[],rfl,rfl,Ary,rfl,rfl,rfl,rfl,rfl,rfl,rfl,rfl,rfl,(Nat.zero_le _),(Ga (by simp) Hn),trivial⟩ ?_
 rintro m188 e188 _ ρ188 _ ⟨j,ov188_26c2,og188_26c2,rfl,rfl,l188,rfl,h188_3,h188_4,h188_5,h188_6,h188_11,h188_14,h188_26,h188_27,p188_0,OG188_26c2,_⟩
 replace hg:=Glob.mono l188 hg
 replace r2:=Arv l188 r2
 replace r3:=Arv l188 r3
 replace i184_1:=Asa l188 i184_1
 replace i184_2:=Asa l188 i184_2
 replace i184_4:=Asa l188 i184_4
 refine Ai fun K189 k189=>?_
 refine w_q rfl rfl fun K190 k190=>?_
 refine Aa rfl (Ah (v:=(iV ((j:Int)))) h188_27) ?_
 refine Ak rfl (Ay Market.f_fields Tryd.underlying26 rfl rfl Se (by decide) h188_5 r2) fun v191 r191=>?_
 refine Ak rfl (Ax Se rfl r191) fun v192 r192=>?_
 have g193:=Val.len r192
 refine Aa rfl (Ce (el:=67) Tryd.underlying23 rfl r192) ?_
 refine Aa rfl (Da (p:=(j:Int)) (q:=((m.fields.length:Nat):Int)) rfl rfl) ?_
 apply Ac
 apply k190
 refine As (t:=decide ((j:Int) < ((m.fields.length:Nat):Int))) rfl (fun b194=>?_) (fun b194=>?_)
 ·have q194:=of_decide_eq_true b194
  refine Al ?_
  apply k189
  refine Ai fun K195 k195=>?_
  refine Ao ?_
  refine w_q rfl rfl fun K196 k196=>?_
  refine Ak rfl (Ay Market.f_fields Tryd.underlying26 rfl rfl Se (by decide) h188_5 r2) fun v197 r197=>?_
  refine Ak rfl (Ax Se rfl r197) fun v198 r198=>?_
  refine Aa rfl (Ah (v:=(iV ((j:Int)))) h188_27) ?_
  obtain ⟨a200,ha200⟩:=Ed (xs:=m.fields) (i:=j) (by first | omega | (simp only [List.nil_append]; omega))
  have gf_a200:=(ok.field _ _ ha200).2.2.2.1
  refine Ak rfl (Ci j Tryd.underlying23 Ln rfl r198 (q:=(j:Int)) rfl rfl ha200) fun v199 r199=>?_
  refine Ak rfl (Ax Ln rfl r199) fun v201 r201=>?_
  refine Ae rfl (Ct Xg fun k202=>?_)
  obtain ⟨c203_0,e203_,i203_1,⟨i203_2a,i203_2b⟩,⟨i203_3a,i203_3b⟩,⟨i203_4a,i203_4b⟩,i203_5⟩:=FField.open_ r201
  have e203_c:v201.cells = [(.string (a200.name)),(iV (a200.house)),(iV (a200.grows.low)),(iV (a200.grows.high)),c203_0].toArray:=by rw [e203_]; rfl
  refine Cx rfl (Ld (i:=0) (vs:=[(.string (a200.name)),(iV (a200.house)),(iV (a200.grows.low)),(iV (a200.grows.high)),c203_0]) (c':=[(.string (a200.name)),(iV (a200.house)),(iV (a200.grows.low)),(iV (a200.grows.high)),c203_0]) ⟨_,Ab Tryd.typeInfo67,rfl⟩ rfl rfl e203_c rfl (Xv ⟨rfl,rfl,rfl,rfl,(Val.single_l i203_5),trivial⟩) rfl (Nat.le_of_ble_eq_true rfl) rfl ?_)
  apply Ac
  apply k196
  refine Ai fun K204 k204=>?_
  refine o_begin (((k202,Res.obj (Obj.cells #[(.string (a200.name)),(iV (a200.house)),(iV (a200.grows.low)),(iV (a200.grows.high)),c203_0] 67 (0,0))) :: (og188_26c2 ++ ((k183,Res.obj (Obj.cells #[c184_0,c184_1,ov188_26c2,c184_3] 26 (0,0))) :: [])))) [0,1,2,3,4,5,6,7,8,9,10,11,12,13,14,15] (by kernel_rfl) rfl rfl ?_
  refine o_val (i:=0) [o1,o0,o0,o0,o0,o0,o0,o0,o0,o0,o0,o0,o0,o0,o0,o0,o0] rfl (by kernel_rfl) rfl ⟨Ary,(by repeat first | exact subN | refine subC ?_ | refine subG ?_ | refine subB ?_ | refine subL ?_)⟩ rfl (Yld.o (Cb Tryd.underlying67 rfl rfl ⟨_,Ab Tryd.typeInfo65,rfl⟩ (by decide) rfl rfl)) ?_
  refine o_val (i:=1) [o1,o1,o0,o0,o0,o0,o0,o0,o0,o0,o0,o0,o0,o0,o0,o0,o0] rfl (by kernel_rfl) rfl ⟨Ary,(by repeat first | exact subN | refine subC ?_ | refine subG ?_ | refine subB ?_ | refine subL ?_)⟩ rfl (Yld.o (Cb Tryd.underlying65 rfl rfl ⟨_,Ab Tryd.typeInfo3,rfl⟩ (by decide) rfl rfl)) ?_
  refine o_val (i:=2) [o1,o1,o1,o0,o0,o0,o0,o0,o0,o0,o0,o0,o0,o0,o0,o0,o0] rfl (by kernel_rfl) rfl ⟨Ary,(by repeat first | exact subN | refine subC ?_ | refine subG ?_ | refine subB ?_ | refine subL ?_)⟩ rfl (y_loadOC (v:=(iV (a200.grows.low))) ⟨_,Tryd.underlying3,rfl⟩ rfl (List.mem_cons_self ..) rfl) ?_
  refine o_val (i:=3) [o1,o1,o1,o1,o0,o0,o0,o0,o0,o0,o0,o0,o0,o0,o0,o0,o0] rfl (by kernel_rfl) rfl ⟨Ary,(by repeat first | exact subN | refine subC ?_ | refine subG ?_ | refine subB ?_ | refine subL ?_)⟩ rfl (Yld.o (Cb Tryd.underlying67 rfl rfl ⟨_,Ab Tryd.typeInfo65,rfl⟩ (by decide) rfl rfl)) ?_
  refine o_val (i:=4) [o1,o1,o1,o1,o1,o0,o0,o0,o0,o0,o0,o0,o0,o0,o0,o0,o0] rfl (by kernel_rfl) rfl ⟨Ary,(by repeat first | exact subN | refine subC ?_ | refine subG ?_ | refine subB ?_ | refine subL ?_)⟩ rfl (Yld.o (Cb Tryd.underlying65 rfl rfl ⟨_,Ab Tryd.typeInfo3,rfl⟩ (by decide) rfl rfl)) ?_
  refine o_val (i:=5) [o1,o1,o1,o1,o1,o1,o0,o0,o0,o0,o0,o0,o0,o0,o0,o0,o0] rfl (by kernel_rfl) rfl ⟨Ary,(by repeat first | exact subN | refine subC ?_ | refine subG ?_ | refine subB ?_ | refine subL ?_)⟩ rfl (y_loadOC (v:=(iV (a200.grows.high))) ⟨_,Tryd.underlying3,rfl⟩ rfl (List.mem_cons_self ..) rfl) ?_
  refine o_val (i:=6) [o1,o1,o1,o1,o1,o1,o1,o0,o0,o0,o0,o0,o0,o0,o0,o0,o0] rfl (by kernel_rfl) rfl ⟨Ary,(by repeat first | exact subN | refine subC ?_ | refine subG ?_ | refine subB ?_ | refine subL ?_)⟩ rfl (Yld.o (Ah (v:=(.int .u16 ((more:Int)))) h188_4)) ?_
  refine o_val (i:=7) [o1,o1,o1,o1,o1,o1,o1,o1,o0,o0,o0,o0,o0,o0,o0,o0,o0] rfl (by kernel_rfl) rfl ⟨Ary,(by repeat first | exact subN | refine subC ?_ | refine subG ?_ | refine subB ?_ | refine subL ?_)⟩ rfl (Yld.o (Abu (p:=(more:Int)) (z:=(more:Int)) Tryd.underlying68 Tryd.underlying3 rfl (Bo rfl (by omega) (by omega)))) ?_
  refine o_val1 (i:=8) [o1,o1,o1,o1,o1,o1,o1,o1,o1,o0,o0,o0,o0,o0,o0,o0,o0] rfl (by kernel_rfl) rfl ⟨Ary,(by repeat first | exact subN | refine subC ?_ | refine subG ?_ | refine subB ?_ | refine subL ?_)⟩ rfl (Yld.o (Ah (v:=(.int .u8 ((pick:Int)))) h188_3)) ⟨Ary,(by repeat first | exact subN | refine subC ?_ | refine subG ?_ | refine subB ?_ | refine subL ?_)⟩ ?_
  refine o_val1 (i:=9) [o1,o1,o1,o1,o1,o1,o1,o1,o1,o1,o0,o0,o0,o0,o0,o0,o0] rfl (by kernel_rfl) rfl ⟨Ary,(by repeat first | exact subN | refine subC ?_ | refine subG ?_ | refine subB ?_ | refine subL ?_)⟩ rfl (Yld.o (Abu (p:=(pick:Int)) (z:=(pick:Int)) Tryd.underlying5 Tryd.underlying3 rfl (Bo rfl (by omega) (by omega)))) ⟨Ary,(by repeat first | exact subN | refine subC ?_ | refine subG ?_ | refine subB ?_ | refine subL ?_)⟩ ?_
  refine o_val1 (i:=10) [o1,o1,o1,o1,o1,o1,o1,o1,o1,o1,o1,o0,o0,o0,o0,o0,o0] rfl (by kernel_rfl) rfl ⟨Ary,(by repeat first | exact subN | refine subC ?_ | refine subG ?_ | refine subB ?_ | refine subL ?_)⟩ rfl (Yld.o (Br (p:=(pick:Int)) (q:=1) rfl rfl (z:=(((pick + 1):Nat):Int)) (Bo (by first | rfl | omega | (push_cast; rfl)) (by omega) (by omega)))) ⟨Ary,(by repeat first | exact subN | refine subC ?_ | refine subG ?_ | refine subB ?_ | refine subL ?_)⟩ ?_
  refine o_val1 (i:=11) [o1,o1,o1,o1,o1,o1,o1,o1,o1,o1,o1,o1,o0,o0,o0,o0,o0] rfl (by kernel_rfl) rfl ⟨Ary,(by repeat first | exact subN | refine subC ?_ | refine subG ?_ | refine subB ?_ | refine subL ?_)⟩ rfl (Yld.o (y_rem (p:=(more:Int)) (q:=(((pick + 1):Nat):Int)) rfl rfl (by omega) (z:=(((more % (pick + 1)):Nat):Int)) rfl)) ⟨Ary,(by repeat first | exact subN | refine subC ?_ | refine subG ?_ | refine subB ?_ | refine subL ?_)⟩ ?_
  refine o_val1 (i:=12) [o1,o1,o1,o1,o1,o1,o1,o1,o1,o1,o1,o1,o1,o0,o0,o0,o0] rfl (by kernel_rfl) rfl ⟨Ary,(by repeat first | exact subN | refine subC ?_ | refine subG ?_ | refine subB ?_ | refine subL ?_)⟩ rfl (Yld.o (Br (p:=a200.grows.high) (q:=(((more % (pick + 1)):Nat):Int)) rfl rfl (z:=(a200.grows.high + (((more % (pick + 1)):Nat):Int))) (Bo (by rfl) (by omega) (by omega)))) ⟨Ary,(by repeat first | exact subN | refine subC ?_ | refine subG ?_ | refine subB ?_ | refine subL ?_)⟩ ?_
  refine o_val1 (i:=13) [o1,o1,o1,o1,o1,o1,o1,o1,o1,o1,o1,o1,o1,o1,o0,o0,o0] rfl (by kernel_rfl) rfl ⟨Ary,(by repeat first | exact subN | refine subC ?_ | refine subG ?_ | refine subB ?_ | refine subL ?_)⟩ rfl (Yld.o (Aju (p:=1000000) (q:=(a200.grows.high + (((more % (pick + 1)):Nat):Int))) rfl rfl)) ⟨Ary,(by repeat first | exact subN | refine subC ?_ | refine subG ?_ | refine subB ?_ | refine subL ?_)⟩ ?_
  refine o_run (i:=14) [o1,o1,o1,o1,o1,o1,o1,o1,o1,o1,o1,o1,o1,o1,o1,o0,o0] rfl (by kernel_rfl) rfl rfl (Cm (vs:=[(iV (a200.grows.low)),(iV ((min 1000000 ((a200.grows.high + (((more % (pick + 1)):Nat):Int))))))]) (Hy (a:=a200.grows.low) (b:=(min 1000000 ((a200.grows.high + (((more % (pick + 1)):Nat):Int))))) (by constructor <;> omega) (by constructor <;> omega)) Tryd.func34 rfl rfl ⟨rfl,rfl,trivial⟩ fun v205 ρ205 σ205 hc205=>?_)
  obtain ⟨l205,s205,r205⟩:=hc205
  replace s205:=s205.symm; subst s205
  replace hg:=Glob.mono l205 hg
  replace r2:=Arv l205 r2
  replace r3:=Arv l205 r3
  replace i184_1:=Asa l205 i184_1
  replace i184_2:=Asa l205 i184_2
  replace i184_4:=Asa l205 i184_4
  replace OG188_26c2:=Grow.mono l205 OG188_26c2
  replace i203_5:=Asa l205 i203_5
  refine ⟨⟨l205,(by repeat first | exact subN | refine subC ?_ | refine subG ?_ | refine subB ?_ | refine subL ?_)⟩,?_⟩
  refine o_val1 (i:=15) [o1,o1,o1,o1,o1,o1,o1,o1,o1,o1,o1,o1,o1,o1,o1,o1,o0] rfl (by kernel_rfl) rfl ⟨l205,(by repeat first | exact subN | refine subC ?_ | refine subG ?_ | refine subB ?_ | refine subL ?_)⟩ rfl (Yld.o (Cb Tryd.underlying67 rfl rfl ⟨_,Ab Tryd.typeInfo65,rfl⟩ (by decide) rfl rfl)) ⟨Ary,(by repeat first | exact subN | refine subC ?_ | refine subG ?_ | refine subB ?_ | refine subL ?_)⟩ ?_
  obtain ⟨e206_,⟨i206_1a,i206_1b⟩,⟨i206_2a,i206_2b⟩⟩:=Span.open_ r205
  have e206_c:v205.cells = [(iV (a200.grows.low)),(iV ((min 1000000 ((a200.grows.high + (((more % (pick + 1)):Nat):Int))))))].toArray:=by rw [e206_]; rfl
  refine o_runLN (i:=16) [o1,o1,o1,o1,o1,o1,o1,o1,o1,o1,o1,o1,o1,o1,o1,o1,o1] rfl (by kernel_rfl) (by kernel_rfl) rfl rfl (Ld (i:=0) (vs:=[(iV (a200.grows.low)),(iV ((min 1000000 ((a200.grows.high + (((more % (pick + 1)):Nat):Int))))))]) (c':=[(.string (a200.name)),(iV (a200.house)),(iV (a200.grows.low)),(iV ((min 1000000 ((a200.grows.high + (((more % (pick + 1)):Nat):Int)))))),c203_0]) ⟨_,Ab Tryd.typeInfo65,rfl⟩ rfl rfl e206_c rfl (Xv ⟨rfl,rfl,trivial⟩) rfl (Nat.le_of_ble_eq_true rfl) rfl ?_)
  refine o_end rfl ?_
  apply k204
  refine Ag rfl rfl ?_
  refine Aa rfl (Cb Tryd.underlying26 rfl rfl ⟨_,Ab Tryd.typeInfo23,rfl⟩ (by decide) h188_26 rfl) ?_
  refine Ae rfl (Gv (v:=ov188_26c2) ⟨_,Tryd.underlying23,rfl⟩ rfl (List.mem_cons_of_mem _ (List.mem_append_right _ (List.mem_cons_self ..))) rfl ?_)
  refine Ae rfl (Xt (i:=0) (cs:=[(.string (a200.name)),(iV (a200.house)),(iV (a200.grows.low)),(iV ((min 1000000 ((a200.grows.high + (((more % (pick + 1)):Nat):Int)))))),c203_0]) (rs:=[]) ⟨_,Tryd.underlying67,rfl⟩ ⟨_,Ab Tryd.typeInfo67,rfl⟩ rfl rfl rfl rfl ?_)
  have r207:Val ρ205 (.agg #[(.string (a200.name)),(iV (a200.house)),(iV (a200.grows.low)),(iV ((min 1000000 ((a200.grows.high + (((more % (pick + 1)):Nat):Int)))))),c203_0]) (⟨a200.name,a200.house,⟨a200.grows.low,(min 1000000 ((a200.grows.high + (((more % (pick + 1)):Nat):Int))))⟩,a200.marks⟩:FField):=FField.shut (x:=(⟨a200.name,a200.house,⟨a200.grows.low,(min 1000000 ((a200.grows.high + (((more % (pick + 1)):Nat):Int))))⟩,a200.marks⟩:FField)) (show (a200.name).size < 2 ^ 60 by omega) (show I64 (a200.house) from by constructor <;> omega) (show I64 (a200.grows.low) from by constructor <;> omega) (show I64 ((min 1000000 ((a200.grows.high + (((more % (pick + 1)):Nat):Int))))) from by constructor <;> omega) i203_5
  refine Ae rfl (Bi (α:=FField) (xs:=[(⟨a200.name,a200.house,⟨a200.grows.low,(min 1000000 ((a200.grows.high + (((more % (pick + 1)):Nat):Int))))⟩,a200.marks⟩:FField)]) (vs:=[(.agg #[(.string (a200.name)),(iV (a200.house)),(iV (a200.grows.low)),(iV ((min 1000000 ((a200.grows.high + (((more % (pick + 1)):Nat):Int)))))),c203_0])]) Tryd.underlying23 Ln Xg rfl (by decide) (Dl (os:=[.tmp 273]) ⟨rfl,trivial⟩) ⟨r207,trivial⟩ rfl (by decide) fun k208 cs208 R208=>?_)
  have G208:Grow ρ205 67 (.slice (some ⟨k208,0,none⟩) 1 1) ([(⟨a200.name,a200.house,⟨a200.grows.low,(min 1000000 ((a200.grows.high + (((more % (pick + 1)):Nat):Int))))⟩,a200.marks⟩:FField)]:List FField) [(k208,Res.obj (.cells cs208.toArray 67 (0,0)))]:=Bs R208 rfl (by decide)
  have sv210_hg:=hg
  have sv210_r2:=r2
  have sv210_r3:=r3
  have sv210_i184_1:=i184_1
  have sv210_i184_2:=i184_2
  have sv210_i184_4:=i184_4
  have sv210_OG188_26c2:=OG188_26c2
  have sv210_i203_5:=i203_5
  have sv210_r205:=r205
  have sv210_r207:=r207
  have sv210_G208:=G208
  refine l_lend G208 fun ρ210 l210 r210 L210=>?_
  replace hg:=Glob.mono l210 hg
  replace r2:=Arv l210 r2
  replace r3:=Arv l210 r3
  replace i184_1:=Asa l210 i184_1
  replace i184_2:=Asa l210 i184_2
  replace i184_4:=Asa l210 i184_4
  replace OG188_26c2:=Grow.mono l210 OG188_26c2
  replace i203_5:=Asa l210 i203_5
  replace r207:=Asa l210 r207
  replace G208:=Grow.mono l210 G208
  refine Bj (σ':=(og188_26c2 ++ ((k202,Res.obj (Obj.cells #[(.string (a200.name)),(iV (a200.house)),(iV (a200.grows.low)),(iV ((min 1000000 ((a200.grows.high + (((more % (pick + 1)):Nat):Int)))))),c203_0] 67 (0,0))) :: ((k183,Res.obj (Obj.cells #[c184_0,c184_1,ov188_26c2,c184_3] 26 (0,0))) :: σ)))) (Arx (List.perm_append_comm_assoc ([(k202,Res.obj (Obj.cells #[(.string (a200.name)),(iV (a200.house)),(iV (a200.grows.low)),(iV ((min 1000000 ((a200.grows.high + (((more % (pick + 1)):Nat):Int)))))),c203_0] 67 (0,0)))]) og188_26c2 _)) ?_
  refine Ae rfl (Fx (σ:=((k202,Res.obj (Obj.cells #[(.string (a200.name)),(iV (a200.house)),(iV (a200.grows.low)),(iV ((min 1000000 ((a200.grows.high + (((more % (pick + 1)):Nat):Int)))))),c203_0] 67 (0,0))) :: ((k183,Res.obj (Obj.cells #[c184_0,c184_1,ov188_26c2,c184_3] 26 (0,0))) :: σ))) (gr:=og188_26c2) (xs:=(m.fields.take j).map (growF (more % (pick + 1)))) (ys:=([(⟨a200.name,a200.house,⟨a200.grows.low,(min 1000000 ((a200.grows.high + (((more % (pick + 1)):Nat):Int))))⟩,a200.marks⟩:FField)]:List FField)) Tryd.underlying23 Tryd.underlying23 (Ab Tryd.typeInfo67) rfl (Nat.le_of_ble_eq_true rfl) rfl rfl rfl rfl OG188_26c2 r210 (by simp only [List.length_append,List.length_cons,List.length_nil,List.length_map,List.length_take,List.length_drop] at *; omega) fun v209 gr209 G209=>?_)
  refine Aa rfl (Cb Tryd.underlying26 rfl rfl ⟨_,Ab Tryd.typeInfo23,rfl⟩ (by decide) h188_26 rfl) ?_
  refine Bj (σ':=((k183,Res.obj (Obj.cells #[c184_0,c184_1,ov188_26c2,c184_3] 26 (0,0))) :: (gr209 ++ ((k202,Res.obj (Obj.cells #[(.string (a200.name)),(iV (a200.house)),(iV (a200.grows.low)),(iV ((min 1000000 ((a200.grows.high + (((more % (pick + 1)):Nat):Int)))))),c203_0] 67 (0,0))) :: σ)))) (Arx ((List.Perm.append_left gr209 (List.perm_append_comm_assoc ([(k202,Res.obj (Obj.cells #[(.string (a200.name)),(iV (a200.house)),(iV (a200.grows.low)),(iV ((min 1000000 ((a200.grows.high + (((more % (pick + 1)):Nat):Int)))))),c203_0] 67 (0,0)))]) ([(k183,Res.obj (Obj.cells #[c184_0,c184_1,ov188_26c2,c184_3] 26 (0,0)))]) _)).trans (List.perm_append_comm_assoc gr209 ([(k183,Res.obj (Obj.cells #[c184_0,c184_1,ov188_26c2,c184_3] 26 (0,0)))]) _))) ?_
  refine Cx rfl (Cz (j:=0) (v:=v209) ⟨_,Ab Tryd.typeInfo23,rfl⟩ rfl rfl (Grow.single G209) rfl (Nat.le_of_ble_eq_true rfl) ?_)
  apply Ac
  apply k195
  refine Ag rfl rfl ?_
  refine Aa rfl (Ah (v:=(iV ((j:Int)))) h188_27) ?_
  refine Aa rfl (Br (p:=(j:Int)) (q:=1) rfl rfl (z:=(((j + 1):Nat):Int)) (Bo (by first | rfl | omega | (push_cast; rfl)) (by omega) (by omega))) ?_
  refine l_A (iV ((((j + 1):Nat):Int))) rfl rfl ?_
  refine Bj (σ':=((k202,Res.obj (Obj.cells #[(.string (a200.name)),(iV (a200.house)),(iV (a200.grows.low)),(iV ((min 1000000 ((a200.grows.high + (((more % (pick + 1)):Nat):Int)))))),c203_0] 67 (0,0))) :: ((k183,Res.obj (Obj.cells #[c184_0,c184_1,v209,c184_3] 26 (0,0))) :: (gr209 ++ σ)))) (Arx ((List.Perm.append_left ([(k183,Res.obj (Obj.cells #[c184_0,c184_1,v209,c184_3] 26 (0,0)))]) (List.perm_append_comm_assoc gr209 ([(k202,Res.obj (Obj.cells #[(.string (a200.name)),(iV (a200.house)),(iV (a200.grows.low)),(iV ((min 1000000 ((a200.grows.high + (((more % (pick + 1)):Nat):Int)))))),c203_0] 67 (0,0)))]) _)).trans (List.perm_append_comm_assoc ([(k183,Res.obj (Obj.cells #[c184_0,c184_1,v209,c184_3] 26 (0,0)))]) ([(k202,Res.obj (Obj.cells #[(.string (a200.name)),(iV (a200.house)),(iV (a200.grows.low)),(iV ((min 1000000 ((a200.grows.high + (((more % (pick + 1)):Nat):Int)))))),c203_0] 67 (0,0)))]) _))) ?_
  refine Bj Ghost.drop ?_
  refine Bj (σ':=(gr209 ++ ((k183,Res.obj (Obj.cells #[c184_0,c184_1,v209,c184_3] 26 (0,0))) :: σ))) (Arx (List.perm_append_comm_assoc ([(k183,Res.obj (Obj.cells #[c184_0,c184_1,v209,c184_3] 26 (0,0)))]) gr209 _)) ?_
  apply Ac
  refine ⟨_,?_,((j + 1)),v209,gr209,rfl,rfl,(Arz (Arz l188 l205) l210),rfl,h188_3,h188_4,h188_5,h188_6,h188_11,h188_14,h188_26,rfl,(by omega),(Ga (grown_succ ha200) G209),trivial⟩
  omega
 have q194:=of_decide_eq_false b194
 refine Bx ?_
 apply k186
 refine w_q rfl rfl fun K211 k211=>?_
 have sv212_hg:=hg
 have sv212_r2:=r2
 have sv212_r3:=r3
 have sv212_i184_1:=i184_1
 have sv212_i184_2:=i184_2
 have sv212_i184_4:=i184_4
 have sv212_OG188_26c2:=OG188_26c2
 have sv212_r191:=r191
 have sv212_r192:=r192
 refine l_lend OG188_26c2 fun ρ212 l212 r212 L212=>?_
 replace hg:=Glob.mono l212 hg
 replace r2:=Arv l212 r2
 replace r3:=Arv l212 r3
 replace i184_1:=Asa l212 i184_1
 replace i184_2:=Asa l212 i184_2
 replace i184_4:=Asa l212 i184_4
 replace OG188_26c2:=Grow.mono l212 OG188_26c2
 refine Ae rfl (Xt (i:=0) (cs:=[c184_0,c184_1,ov188_26c2,c184_3]) (rs:=[]) ⟨_,Tryd.underlying26,rfl⟩ ⟨_,Ab Tryd.typeInfo26,rfl⟩ h188_26 rfl rfl rfl ?_)
 have r213:Val ρ212 (.agg #[c184_0,c184_1,ov188_26c2,c184_3]) (⟨m.houses,m.marks,(m.fields.take j).map (growF (more % (pick + 1))),m.sales⟩:Market):=Market.shut (x:=(⟨m.houses,m.marks,(m.fields.take j).map (growF (more % (pick + 1))),m.sales⟩:Market)) i184_1 i184_2 r212 i184_4
 obtain ⟨hz_grown,hp0_grown,hq0_grown⟩:=fields_law (n:=more % (pick + 1)) hm0
 obtain ⟨p_grown,hp_grown⟩:∃ z,Aik (⟨m.houses,m.marks,m.fields.map (growF (more % (pick + 1))),m.sales⟩:Market) = z:=⟨_,rfl⟩
 obtain ⟨q_grown,hq_grown⟩:∃ z,Akj (⟨m.houses,m.marks,m.fields.map (growF (more % (pick + 1))),m.sales⟩:Market) = z:=⟨_,rfl⟩
 rw [hp_grown] at hp0_grown; rw [hq_grown] at hq0_grown
 refine Ae rfl (Cm (vs:=[(.agg #[c184_0,c184_1,ov188_26c2,c184_3])]) (c_ExcessE (m:=(⟨m.houses,m.marks,m.fields.map (growF (more % (pick + 1))),m.sales⟩:Market)) (by rw [show j = m.fields.length by omega,List.take_length]) hp_grown hz_grown r213) Tryd.func32 rfl rfl ⟨rfl,trivial⟩ fun w215 ρ215 σ215 hc215=>?_)
 obtain ⟨l215,s215,v215_0,w215e,r215_0⟩:=hc215
 replace s215:=s215.symm; subst s215 w215e
 replace hg:=Glob.mono l215 hg
 replace r2:=Arv l215 r2
 replace r3:=Arv l215 r3
 replace i184_1:=Asa l215 i184_1
 replace i184_2:=Asa l215 i184_2
 replace i184_4:=Asa l215 i184_4
 replace r212:=Asa l215 r212
 replace L212:=Lent.mono l215 L212
 replace r213:=Asa l215 r213
 refine l_M (.tuple #[(iV (p_grown)),v215_0,(iV (0))]) rfl rfl ?_
 refine Aa rfl (Bk (vs:=#[(iV (p_grown)),v215_0,(iV (0))]) rfl (v:=(iV (p_grown))) rfl) ?_
 refine Aa rfl (Bk (vs:=#[(iV (p_grown)),v215_0,(iV (0))]) rfl (v:=v215_0) rfl) ?_
 refine Aa rfl (Bk (vs:=#[(iV (p_grown)),v215_0,(iV (0))]) rfl (v:=(iV (0))) rfl) ?_
 refine l_A (iV (p_grown)) rfl rfl ?_
 refine l_A v215_0 rfl rfl ?_
 refine l_A (iV (0)) rfl rfl ?_
 apply Ac
 apply k211
 refine w_q rfl rfl fun K216 k216=>?_
 refine Ae rfl (Xt (i:=0) (cs:=[c184_0,c184_1,ov188_26c2,c184_3]) (rs:=[]) ⟨_,Tryd.underlying26,rfl⟩ ⟨_,Ab Tryd.typeInfo26,rfl⟩ h188_26 rfl rfl rfl ?_)
 have r217:Val ρ215 (.agg #[c184_0,c184_1,ov188_26c2,c184_3]) (⟨m.houses,m.marks,(m.fields.take j).map (growF (more % (pick + 1))),m.sales⟩:Market):=Market.shut (x:=(⟨m.houses,m.marks,(m.fields.take j).map (growF (more % (pick + 1))),m.sales⟩:Market)) i184_1 i184_2 r212 i184_4
 refine Ae rfl (Cm (vs:=[(.agg #[c184_0,c184_1,ov188_26c2,c184_3])]) (c_CheatsE (m:=(⟨m.houses,m.marks,m.fields.map (growF (more % (pick + 1))),m.sales⟩:Market)) (by rw [show j = m.fields.length by omega,List.take_length]) hq_grown rfl hz_grown r217 (noRecv_obj hnr)) Tryd.func31 rfl rfl ⟨rfl,trivial⟩ fun w218 ρ218 σ218 hc218=>?_)
 obtain ⟨l218,s218,v218_0,w218e,r218_0⟩:=hc218
 replace s218:=s218.symm; subst s218 w218e
 replace hg:=Glob.mono l218 hg
 replace r3:=Arv l218 r3
 replace i184_1:=Asa l218 i184_1
 replace i184_2:=Asa l218 i184_2
 replace i184_4:=Asa l218 i184_4
 replace r212:=Asa l218 r212
 replace L212:=Lent.mono l218 L212
 replace r217:=Asa l218 r217
 refine l_M (.tuple #[(iV (q_grown)),v218_0,(iV (0))]) rfl rfl ?_
 refine Aa rfl (Bk (vs:=#[(iV (q_grown)),v218_0,(iV (0))]) rfl (v:=(iV (q_grown))) rfl) ?_
 refine Aa rfl (Bk (vs:=#[(iV (q_grown)),v218_0,(iV (0))]) rfl (v:=v218_0) rfl) ?_
 refine Aa rfl (Bk (vs:=#[(iV (q_grown)),v218_0,(iV (0))]) rfl (v:=(iV (0))) rfl) ?_
 refine l_A (iV (q_grown)) rfl rfl ?_
 refine l_A v218_0 rfl rfl ?_
 refine l_A (iV (0)) rfl rfl ?_
 apply Ac
 apply k216
 refine Ai fun K219 k219=>?_
 refine w_q rfl rfl fun K220 k220=>?_
 refine l_M (iV (0)) rfl rfl ?_
 refine Aa rfl (Dg (p:=0) (q:=0) rfl rfl) ?_
 refine l_M (.bool (false)) rfl rfl ?_
 refine l_M (iV (0)) (Ar rfl rfl rfl rfl) rfl ?_
 refine Aa (Ar rfl rfl rfl rfl) (Dg (p:=0) (q:=0) rfl rfl) ?_
 refine Aa rfl (Bm rfl rfl (v:=(.bool (false))) rfl) ?_
 refine l_M (.bool (false)) rfl rfl ?_
 refine l_M (iV (p_grown)) (Ar rfl rfl rfl rfl) rfl ?_
 refine Aa (Ar rfl rfl rfl rfl) (Ah (v:=(iV (Aik m))) h188_11) ?_
 refine Aa (Ar rfl rfl rfl rfl) (Gk (p:=p_grown) (q:=Aik m) rfl rfl) ?_
 refine Aa rfl (Bm rfl rfl (v:=(.bool (decide (p_grown > Aik m)))) rfl) ?_
 refine l_M (.bool (decide (p_grown > Aik m))) rfl rfl ?_
 refine l_M (iV (q_grown)) (Ar rfl rfl rfl (decide_eq_false (by omega))) rfl ?_
 refine Aa (Ar rfl rfl rfl (decide_eq_false (by omega))) (Ah (v:=(iV (Akj m))) h188_14) ?_
 refine Aa (Ar rfl rfl rfl (decide_eq_false (by omega))) (Gk (p:=q_grown) (q:=Akj m) rfl rfl) ?_
 refine Aa rfl (Bm rfl (decide_eq_false (by omega)) (v:=(.bool (decide (q_grown > Akj m)))) rfl) ?_
 apply Ac
 apply k220
 refine Cg rfl (decide_eq_false (by omega)) ?_
 refine Al ?_
 apply k219
 refine Ai fun K221 k221=>?_
 refine wp_back L212 (noRecv_obj hnr) ?_
 replace hg:=sv212_hg
 replace r2:=sv212_r2
 replace r3:=sv212_r3
 replace i184_1:=sv212_i184_1
 replace i184_2:=sv212_i184_2
 replace i184_4:=sv212_i184_4
 replace OG188_26c2:=sv212_OG188_26c2
 replace r191:=sv212_r191
 replace r192:=sv212_r192
 refine Ag rfl rfl ?_
 refine Aa rfl (Cb Tryd.underlying26 rfl rfl ⟨_,Ab Tryd.typeInfo23,rfl⟩ (by decide) h188_26 rfl) ?_
 refine Ae rfl (Gv (v:=ov188_26c2) ⟨_,Tryd.underlying23,rfl⟩ rfl (List.mem_append_right _ (List.mem_cons_self ..)) rfl ?_)
 refine Ak rfl (Ax Ln h188_6 r3) fun v222 r222=>?_
 refine Ae rfl (Bi (α:=FField) (xs:=[x]) (vs:=[v222]) Tryd.underlying23 Ln Xg rfl (by decide) (Dl (os:=[.tmp 307]) ⟨rfl,trivial⟩) ⟨r222,trivial⟩ rfl (by decide) fun k223 cs223 R223=>?_)
 have G223:Grow ρ188 67 (.slice (some ⟨k223,0,none⟩) 1 1) ([x]:List FField) [(k223,Res.obj (.cells cs223.toArray 67 (0,0)))]:=Bs R223 rfl (by decide)
 refine Ca G223 fun ρ225 l225 r225=>?_
 replace hg:=Glob.mono l225 hg
 replace r3:=Arv l225 r3
 replace i184_1:=Asa l225 i184_1
 replace i184_2:=Asa l225 i184_2
 replace i184_4:=Asa l225 i184_4
 replace OG188_26c2:=Grow.mono l225 OG188_26c2
 replace r222:=Asa l225 r222
 refine Ae rfl (Fx (σ:=((k183,Res.obj (Obj.cells #[c184_0,c184_1,ov188_26c2,c184_3] 26 (0,0))) :: σ)) (gr:=og188_26c2) (xs:=(m.fields.take j).map (growF (more % (pick + 1)))) (ys:=([x]:List FField)) Tryd.underlying23 Tryd.underlying23 (Ab Tryd.typeInfo67) rfl (Nat.le_of_ble_eq_true rfl) rfl rfl rfl rfl OG188_26c2 r225 (by simp only [List.length_append,List.length_cons,List.length_nil,List.length_map,List.length_take,List.length_drop] at *; omega) fun v224 gr224 G224=>?_)
 refine Aa rfl (Cb Tryd.underlying26 rfl rfl ⟨_,Ab Tryd.typeInfo23,rfl⟩ (by decide) h188_26 rfl) ?_
 refine Bj (σ':=((k183,Res.obj (Obj.cells #[c184_0,c184_1,ov188_26c2,c184_3] 26 (0,0))) :: (gr224 ++ σ))) (Arx (List.perm_append_comm_assoc gr224 ([(k183,Res.obj (Obj.cells #[c184_0,c184_1,ov188_26c2,c184_3] 26 (0,0)))]) _)) ?_
 refine Cx rfl (Cz (j:=0) (v:=v224) ⟨_,Ab Tryd.typeInfo23,rfl⟩ rfl rfl (Grow.single G224) rfl (Nat.le_of_ble_eq_true rfl) ?_)
 apply Ac
 apply k221
 refine Ai fun K226 k226=>?_
 refine w_q rfl rfl fun K227 k227=>?_
 refine Bj (σ':=(gr224 ++ ((k183,Res.obj (Obj.cells #[c184_0,c184_1,v224,c184_3] 26 (0,0))) :: σ))) (Arx (List.perm_append_comm_assoc ([(k183,Res.obj (Obj.cells #[c184_0,c184_1,v224,c184_3] 26 (0,0)))]) gr224 _)) ?_
 refine Ca G224 fun ρ228 l228 r228=>?_
 replace hg:=Glob.mono l228 hg
 replace i184_1:=Asa l228 i184_1
 replace i184_2:=Asa l228 i184_2
 replace i184_4:=Asa l228 i184_4
 refine Ae rfl (Xt (i:=0) (cs:=[c184_0,c184_1,v224,c184_3]) (rs:=[]) ⟨_,Tryd.underlying26,rfl⟩ ⟨_,Ab Tryd.typeInfo26,rfl⟩ h188_26 rfl rfl rfl ?_)
 have r229:Val ρ228 (.agg #[c184_0,c184_1,v224,c184_3]) (⟨m.houses,m.marks,((m.fields.take j).map (growF (more % (pick + 1))) ++ ([x]:List FField)),m.sales⟩:Market):=Market.shut (x:=(⟨m.houses,m.marks,((m.fields.take j).map (growF (more % (pick + 1))) ++ ([x]:List FField)),m.sales⟩:Market)) i184_1 i184_2 r228 i184_4
 refine Ae rfl (Bn (vs:=[(.agg #[c184_0,c184_1,v224,c184_3])]) (v:=(iV (Ch (⟨m.houses,m.marks,m.fields.map (growF (more % (pick + 1))) ++ [x],m.sales⟩:Market)))) (c_CheckMarket (m:=(⟨m.houses,m.marks,m.fields.map (growF (more % (pick + 1))) ++ [x],m.sales⟩:Market)) (Val.cast (by rw [show j = m.fields.length by omega,List.take_length]) r229)) Tryd.func28 rfl rfl ⟨rfl,trivial⟩ ?_)
 refine Aa rfl (Dg (p:=Ch (⟨m.houses,m.marks,m.fields.map (growF (more % (pick + 1))) ++ [x],m.sales⟩:Market)) (q:=0) rfl rfl) ?_
 apply Ac
 apply k227
 refine As (t:=Ch (⟨m.houses,m.marks,m.fields.map (growF (more % (pick + 1))) ++ [x],m.sales⟩:Market) != 0) rfl (fun b230=>?_) (fun b230=>?_)
 ·have q230:=Mb b230
  refine w_q rfl rfl fun K231 k231=>?_
  refine Ae rfl (Bn (vs:=[]) (v:=(.bool (true))) (calls_up (c_tells hg (noRecv_obj hnr))) Tryd.func17 rfl rfl trivial ?_)
  refine l_A (.bool (true)) rfl rfl ?_
  apply Ac
  apply k231
  refine Aj Ghost.drop ?_
  refine Aj (Arw (Arz (Arz (Arz (Arz (Arz (Arz l2 l3) l15) l18) l188) l225) l228)) ?_
  refine Aq ?_
  refine hret _ _ _ ?_
  refine ⟨rfl,rfl,Eq.trans (b:=(.bool (true))) rfl ?_⟩
  rfl
 have hz9:Ch (⟨m.houses,m.marks,m.fields.map (growF (more % (pick + 1))) ++ [x],m.sales⟩:Market) = 0:=Jh b230
 have q230:=Jh b230
 refine Al ?_
 apply k226
 refine w_q rfl rfl fun K232 k232=>?_
 refine Ae rfl (Xt (i:=0) (cs:=[c184_0,c184_1,v224,c184_3]) (rs:=[]) ⟨_,Tryd.underlying26,rfl⟩ ⟨_,Ab Tryd.typeInfo26,rfl⟩ h188_26 rfl rfl rfl ?_)
 have r233:Val ρ228 (.agg #[c184_0,c184_1,v224,c184_3]) (⟨m.houses,m.marks,((m.fields.take j).map (growF (more % (pick + 1))) ++ ([x]:List FField)),m.sales⟩:Market):=Market.shut (x:=(⟨m.houses,m.marks,((m.fields.take j).map (growF (more % (pick + 1))) ++ ([x]:List FField)),m.sales⟩:Market)) i184_1 i184_2 r228 i184_4
 have hz_more:=hz9
 obtain ⟨hp0_more,hq0_more⟩:=fields2_law hm0 hz_more
 obtain ⟨p_more,hp_more⟩:∃ z,Aik (⟨m.houses,m.marks,m.fields.map (growF (more % (pick + 1))) ++ [x],m.sales⟩:Market) = z:=⟨_,rfl⟩
 obtain ⟨q_more,hq_more⟩:∃ z,Akj (⟨m.houses,m.marks,m.fields.map (growF (more % (pick + 1))) ++ [x],m.sales⟩:Market) = z:=⟨_,rfl⟩
 rw [hp_more] at hp0_more; rw [hq_more] at hq0_more
 refine Ae rfl (Cm (vs:=[(.agg #[c184_0,c184_1,v224,c184_3])]) (c_ExcessE (m:=(⟨m.houses,m.marks,m.fields.map (growF (more % (pick + 1))) ++ [x],m.sales⟩:Market)) (by rw [show j = m.fields.length by omega,List.take_length]) hp_more hz_more r233) Tryd.func32 rfl rfl ⟨rfl,trivial⟩ fun w235 ρ235 σ235 hc235=>?_)
 obtain ⟨l235,s235,v235_0,w235e,r235_0⟩:=hc235
 replace s235:=s235.symm; subst s235 w235e
 replace hg:=Glob.mono l235 hg
 replace i184_1:=Asa l235 i184_1
 replace i184_2:=Asa l235 i184_2
 replace i184_4:=Asa l235 i184_4
 replace r228:=Asa l235 r228
 replace r233:=Asa l235 r233
 refine l_M (.tuple #[(iV (p_more)),v235_0,(iV (0))]) rfl rfl ?_
 refine Aa rfl (Bk (vs:=#[(iV (p_more)),v235_0,(iV (0))]) rfl (v:=(iV (p_more))) rfl) ?_
 refine Aa rfl (Bk (vs:=#[(iV (p_more)),v235_0,(iV (0))]) rfl (v:=v235_0) rfl) ?_
 refine Aa rfl (Bk (vs:=#[(iV (p_more)),v235_0,(iV (0))]) rfl (v:=(iV (0))) rfl) ?_
 refine l_A (iV (p_more)) rfl rfl ?_
 refine l_A (iV (0)) rfl rfl ?_
 apply Ac
 apply k232
 refine w_q rfl rfl fun K236 k236=>?_
 refine Ae rfl (Xt (i:=0) (cs:=[c184_0,c184_1,v224,c184_3]) (rs:=[]) ⟨_,Tryd.underlying26,rfl⟩ ⟨_,Ab Tryd.typeInfo26,rfl⟩ h188_26 rfl rfl rfl ?_)
 have r237:Val ρ235 (.agg #[c184_0,c184_1,v224,c184_3]) (⟨m.houses,m.marks,((m.fields.take j).map (growF (more % (pick + 1))) ++ ([x]:List FField)),m.sales⟩:Market):=Market.shut (x:=(⟨m.houses,m.marks,((m.fields.take j).map (growF (more % (pick + 1))) ++ ([x]:List FField)),m.sales⟩:Market)) i184_1 i184_2 r228 i184_4
 refine Ae rfl (Cm (vs:=[(.agg #[c184_0,c184_1,v224,c184_3])]) (c_CheatsE (m:=(⟨m.houses,m.marks,m.fields.map (growF (more % (pick + 1))) ++ [x],m.sales⟩:Market)) (by rw [show j = m.fields.length by omega,List.take_length]) hq_more rfl hz_more r237 (noRecv_obj hnr)) Tryd.func31 rfl rfl ⟨rfl,trivial⟩ fun w238 ρ238 σ238 hc238=>?_)
 obtain ⟨l238,s238,v238_0,w238e,r238_0⟩:=hc238
 replace s238:=s238.symm; subst s238 w238e
 replace hg:=Glob.mono l238 hg
 replace i184_1:=Asa l238 i184_1
 replace i184_2:=Asa l238 i184_2
 replace i184_4:=Asa l238 i184_4
 replace r228:=Asa l238 r228
 replace r237:=Asa l238 r237
 refine l_M (.tuple #[(iV (q_more)),v238_0,(iV (0))]) rfl rfl ?_
 refine Aa rfl (Bk (vs:=#[(iV (q_more)),v238_0,(iV (0))]) rfl (v:=(iV (q_more))) rfl) ?_
 refine Aa rfl (Bk (vs:=#[(iV (q_more)),v238_0,(iV (0))]) rfl (v:=v238_0) rfl) ?_
 refine Aa rfl (Bk (vs:=#[(iV (q_more)),v238_0,(iV (0))]) rfl (v:=(iV (0))) rfl) ?_
 refine l_A (iV (q_more)) rfl rfl ?_
 refine l_A (iV (0)) rfl rfl ?_
 apply Ac
 apply k236
 refine w_q rfl rfl fun K239 k239=>?_
 refine l_M (iV (0)) rfl rfl ?_
 refine Aa rfl (Ek (p:=0) (q:=0) rfl rfl) ?_
 refine l_M (.bool (true)) rfl rfl ?_
 refine l_M (iV (0)) (Ar rfl rfl rfl rfl) rfl ?_
 refine Aa (Ar rfl rfl rfl rfl) (Ek (p:=0) (q:=0) rfl rfl) ?_
 refine Aa rfl (Bt rfl rfl (v:=(.bool (true))) rfl) ?_
 refine l_M (.bool (true)) rfl rfl ?_
 refine l_M (iV (p_more)) (Ar rfl rfl rfl rfl) rfl ?_
 refine Aa (Ar rfl rfl rfl rfl) (Ah (v:=(iV (Aik m))) h188_11) ?_
 refine Aa (Ar rfl rfl rfl rfl) (Tx (p:=p_more) (q:=Aik m) rfl rfl) ?_
 refine Aa rfl (Bt rfl rfl (v:=(.bool (decide (p_more ≤ Aik m)))) rfl) ?_
 refine l_M (.bool (decide (p_more ≤ Aik m))) rfl rfl ?_
 refine l_M (iV (q_more)) (Ar rfl rfl rfl (decide_eq_true (by omega))) rfl ?_
 refine Aa (Ar rfl rfl rfl (decide_eq_true (by omega))) (Ah (v:=(iV (Akj m))) h188_14) ?_
 refine Aa (Ar rfl rfl rfl (decide_eq_true (by omega))) (Tx (p:=q_more) (q:=Akj m) rfl rfl) ?_
 refine Aa rfl (Bt rfl (decide_eq_true (by omega)) (v:=(.bool (decide (q_more ≤ Akj m)))) rfl) ?_
 refine l_M (.bool (decide (q_more ≤ Akj m))) rfl rfl ?_
 refine Ae (Ar rfl rfl rfl (decide_eq_true (by omega))) (Bn (vs:=[]) (v:=(.bool (true))) (calls_up (c_tells hg (noRecv_obj hnr))) Tryd.func17 rfl rfl trivial ?_)
 refine Aa rfl (Bt rfl (decide_eq_true (by omega)) (v:=(.bool (true))) rfl) ?_
 refine l_A (.bool (true)) rfl rfl ?_
 apply Ac
 apply k239
 refine Aj Ghost.drop ?_
 refine Aj (Arw (Arz (Arz (Arz (Arz (Arz (Arz (Arz (Arz l2 l3) l15) l18) l188) l225) l228) l235) l238)) ?_
 refine Aq ?_
 refine hret _ _ _ ?_
 refine ⟨rfl,rfl,Eq.trans (b:=(.bool (true))) rfl ?_⟩
 rfl
end Go.Proofs.YtoefdnbaklajeaaDoor

namespace Go.Proofs.YtoefdnbaklajeaaDoor
open Go Go.WideShapes
/-- A number without a sign of two bytes. -/
structure UH where
  n:Nat
  lt:n < 65536
instance:Dat UH where
  k:=1
  agg:=false
  rep _ cs x:=cs = [.int .u16 (x.n:Int)]
  mono _ h:=h
  len h:=by rw [h]; rfl
  sgl h:=by rw [h]; simp [single]
  one _:=rfl
section
variable {H:Type} {enc:TypeId × Value→H} {W:World} {r:Reach} {base t:Nat} {v:Value} {d:DataW H} {p:List MemPlace}
set_option maxRecDepth 100000 in
theorem arg_u8 (ht:Tryd.prog.underlying t = some (.int .u8)) (hv:Value.okWide Tryd.prog W r base t v) (h:DataW.Trod enc Tryd.prog W 0 (fun _=>true) true t v d p):∃ n:Nat,v = .int .u8 (n:Int)∧n < 256:=by
  obtain ⟨n,rfl⟩:=okWide_int ht hv
  obtain ⟨fuel,hf⟩:=h
  obtain ⟨m,h1,_,h3⟩:=DataW.trod_int (cs:=[.int .u8 n]) ht hf
  simp [Lit.wf,IntKind.min,IntKind.max,IntKind.signed,IntKind.bits] at h3
  obtain rfl:n = m:=by simpa using h1
  exact ⟨n.toNat,by rw [Int.toNat_of_nonneg (by omega)],by omega⟩
set_option maxRecDepth 100000 in
theorem arg_u16 (ht:Tryd.prog.underlying t = some (.int .u16)) (hv:Value.okWide Tryd.prog W r base t v) (h:DataW.Trod enc Tryd.prog W 0 (fun _=>true) true t v d p):∃ n:Nat,v = .int .u16 (n:Int)∧n < 65536:=by
  obtain ⟨n,rfl⟩:=okWide_int ht hv
  obtain ⟨fuel,hf⟩:=h
  obtain ⟨m,h1,_,h3⟩:=DataW.trod_int (cs:=[.int .u16 n]) ht hf
  simp [Lit.wf,IntKind.min,IntKind.max,IntKind.signed,IntKind.bits] at h3
  obtain rfl:n = m:=by simpa using h1
  exact ⟨n.toNat,by rw [Int.toNat_of_nonneg (by omega)],by omega⟩
end
end Go.Proofs.YtoefdnbaklajeaaDoor

namespace Go.Proofs.YtoefdnbaklajeaaDoor
open Go Go.WideShapes Go.ChangeShapes Go.RowKit Go.Conc
set_option maxRecDepth 100000
theorem fakeGrown_lifted (os:Os) (started:os.Started) (H:Type) (enc:TypeId × Value→H):ReturnsInLeavingWide {} Tryd.checked os 6 .any (Aqs H enc Rows.fakeGrownSpec Tryd.f6) (Rows.fakeGrownSpec.post enc Tryd.prog Tryd.f6 false true false false):=by
  refine law_liftY (r:=10) os started H enc Tryd.func6 rfl rfl (by kernel_rfl) (by decide) (fun ds hd=>?_)
    (ChangeSpec.witness_shaped (enc:=enc) (C:=Tryd.checked) (os:=os) (X:=fun w _=>laidMetH Tryd.prog laidL w) false (World.doorLaid Tryd.prog 2000 os) #[.agg #[.slice none 0 0,.slice none 0 0,.slice none 0 0,.slice none 0 0],.agg #[.string (ByteArray.mk #[]),.int .i64 0,.int .i64 0,.int .i64 0,.slice none 0 0],.int .u8 0,.int .u8 0,.int .u16 0] 8 rfl (World.shaped_of_RefB (by kernel_rfl) (by kernel_rfl)) (by kernel_rfl) (by kernel_rfl) (by kernel_rfl) (door_met os _)) ?_
  · match ds,hd with
    | [d1,d2,d3,d4,d5],_=>rfl
  · intro W args ds ps hv hA hw hg
    obtain ⟨hl1,hl2⟩:=Sa hA
    match args,hl1,ds,hl2,hA with
    | [v1,v2,v3,v4,v5],_,[d1,d2,d3,d4,d5],_,⟨p1,q1,h1,⟨p2,q2,h2,⟨p3,q3,h3,⟨p4,q4,h4,⟨p5,q5,h5,_,_⟩,_⟩,_⟩,_⟩,_⟩ =>
      obtain ⟨b1,k1⟩:=hv 0 26 v1 rfl rfl
      obtain ⟨b2,k2⟩:=hv 1 67 v2 rfl rfl
      obtain ⟨b3,k3⟩:=hv 2 5 v3 rfl rfl
      obtain ⟨b4,k4⟩:=hv 3 5 v4 rfl rfl
      obtain ⟨b5,k5⟩:=hv 4 68 v5 rfl rfl
      obtain ⟨x1,rx1⟩:=arg_struct dec26 rfl Tryd.underlying26 k1 h1 (weights_at hw (j:=0) rfl rfl)
      obtain ⟨x2,rx2⟩:=arg_struct dec67 rfl Tryd.underlying67 k2 h2 (weights_at hw (j:=1) rfl rfl)
      obtain ⟨x3,rfl,lx3⟩:=arg_u8 Tryd.underlying5 k3 h3
      obtain ⟨x4,rfl,lx4⟩:=arg_u8 Tryd.underlying5 k4 h4
      obtain ⟨x5,rfl,lx5⟩:=arg_u16 Tryd.underlying68 k5 h5
      exact c_FakeGrown hg (fun c vs h=>by cases h) rx1 rx2 lx3 lx4 lx5
theorem fakeGrown_row:Rows.FakeGrownSaid :=
  OpenClaim.holds_of_wide_leaving 6 Tryd.f6 rfl rfl rfl rfl rfl rfl rfl ⟨rfl,rfl,rfl,rfl,rfl⟩ rfl rfl rfl rfl rfl (by kernel_rfl) Tryd.func6 (by kernel_rfl)
    (of_decide_eq_true (by kernel_rfl)) (by unfold Func.isWrapper; first | (rw [if_pos (by decide +kernel)]; kernel_rfl) | (rw [if_neg (by decide +kernel)]; exact ⟨rfl,rfl⟩))
    (fun os started H enc _=>fakeGrown_lifted os started H enc)
theorem fakeGrown_holds:Rows.FakeGrownCardSaid :=
  tied_goes .later [.funcs,.data] true (true,"5ad7a6b1106c4d9dff1ffa762e242e88c7338921ee0cf2e26581c2f653fcb6c6") false fakeGrown_row (by kernel_rfl) fakeGrown_row_tie rfl ⟨rfl,rfl⟩ (by kernel_rfl) rfl
    (fun f fn hf hfn=>by
      obtain rfl:f = 6:=Option.some.inj ((show Tryd.prog.funcNamed "crocus/crocuslaw08.FakeGrown" = some 6 by kernel_rfl).symm.trans hf) |>.symm
      obtain rfl:fn = Tryd.f6:=(Option.some.inj (Tryd.func6.symm.trans hfn)).symm
      exact ⟨by kernel_rfl,fun j t ht=>by
        have h2:t = 26∨t = 67∨t = 5∨t = 68:=by
          match j,ht with
          | 0,h=>exact .inl (Option.some.inj h).symm
          | 1,h=>exact .inr (.inl (Option.some.inj h).symm)
          | 2,h=>exact .inr (.inr (.inl (Option.some.inj h).symm))
          | 3,h=>exact .inr (.inr (.inl (Option.some.inj h).symm))
          | 4,h=>exact .inr (.inr (.inr ((Option.some.inj h).symm)))
        rcases h2 with rfl | rfl | rfl | rfl
        · exact (show Tryd.prog.wantsStandIn 26 = false by kernel_rfl)
        · exact (show Tryd.prog.wantsStandIn 67 = false by kernel_rfl)
        · exact (show Tryd.prog.wantsStandIn 5 = false by kernel_rfl)
        · exact (show Tryd.prog.wantsStandIn 68 = false by kernel_rfl)⟩)
    (by kernel_rfl)
end Go.Proofs.YtoefdnbaklajeaaDoor
