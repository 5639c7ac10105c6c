/- Part 6 of what all laws of layer 8 need: a logic of programs that start goroutines, and what the functions yield. -/
import Derived.Test.YtphgjjmlnkgghaaDoorB5
set_option linter.unusedVariables false
set_option linter.unusedSimpArgs false
set_option maxRecDepth 100000
namespace Go.Proofs.YtphgjjmlnkgghaaDoor
section
open Go
def Atw (m:Morn) (h:Nat) (p:Pick):Int:=match m.baskets[p.basket.toNat]? with | some b=>if b.house = (h:Int) then b.worth else 0 | none=>0
/-- What was picked for a house. -/
def Atn (m:Morn) (l:List Pick) (h:Nat):Int:=(l.map (Atw m h)).sum
def Atb (m:Morn) (l:List Pick) (h:Nat):FField:=⟨m.houses.getD h (ByteArray.mk #[]),(h:Int),⟨Atn m l h,Atn m l h⟩,[]⟩
def Asl (m:Morn) (l:List Pick) (n:Nat):List FField:=(List.range n).map (Atb m l)
def Awb (m:Morn) (p:Pick):Sale:=match m.baskets[p.basket.toNat]? with | some b=>⟨b.worth,[b.house]⟩ | none=>⟨0,[]⟩
def Aso (m:Morn) (l:List Pick):List Sale:=l.map (Awb m)
def Asz (m:Morn) (l:List Pick) (ss:List Sale):Market:=⟨m.houses,[],Asl m l m.houses.length,ss⟩
theorem Atg {m:Morn} {l:List Pick} {n i:Nat}:(Asl m l n)[i]? = if i < n then some (Atb m l i) else none:=by
 unfold Asl
 rw [List.getElem?_map]
 by_cases h:i < n
 ·rw [List.getElem?_range h,if_pos h]; rfl
 ·rw [if_neg h,List.getElem?_eq_none (by simp; omega)]; rfl
theorem Aud {m:Morn} {l:List Pick} {n:Nat}:(Asl m l n).length = n:=by simp [Asl]
theorem Ath {m:Morn} {l:List Pick}:(Aso m l).length = l.length:=by simp [Aso]
theorem Axd {m:Morn} {i:Nat} {x:ByteArray} (hx:m.houses[i]? = some x):Asl m [] i ++ [(⟨x,(i:Int),(⟨0,0⟩:Span),[]⟩:FField)] = Asl m [] (i + 1):=by
 unfold Asl
 rw [List.range_succ,List.map_append]
 congr 1
 simp only [List.map_cons,List.map_nil,Atb,Atn,List.sum_nil,List.getD_eq_getElem?_getD,hx,Option.getD_some]
theorem Ayi {α:Type} {l:List α} {i:Nat} {x:α} (h:l[i]? = some x):l.take (i + 1) = l.take i ++ [x]:=by
 rw [List.take_add_one,h]; rfl
theorem Axi {m:Morn} {l:List Pick} {p:Pick} {h:Nat}:Atn m (l ++ [p]) h = Atn m l h + Atw m h p:=by
 unfold Atn; simp
theorem Avl {m:Morn} {l:List Pick} {n i k:Nat} {p:Pick} {b:Basket} {x:FField} (hp:l[i]? = some p) (hb:m.baskets[p.basket.toNat]? = some b) (hk:b.house = (k:Int)) (hx:(Asl m (l.take i) n)[k]? = some x) :
  (Asl m (l.take i) n).set k ⟨x.name,x.house,⟨x.grows.high + b.worth,x.grows.high + b.worth⟩,x.marks⟩ = Asl m (l.take (i + 1)) n:=by
 have hkn:k < n:=by
  rw [Atg] at hx
  by_cases h:k < n
  ·exact h
  ·rw [if_neg h] at hx; cases hx
 rw [Atg,if_pos hkn] at hx
 obtain rfl:=Option.some.inj hx
 apply List.ext_getElem?
 intro j
 rw [List.getElem?_set,Aud,Atg,Atg]
 by_cases hj:k = j
 ·subst hj
  rw [if_pos rfl,if_pos hkn,if_pos hkn,Ayi hp]
  unfold Atb
  rw [Axi,show Atw m k p = b.worth by unfold Atw; rw [hb]; simp only; rw [if_pos hk]]
 ·rw [if_neg hj]
  by_cases hn:j < n
  ·rw [if_pos hn,if_pos hn,Ayi hp]
   unfold Atb
   rw [Axi,show Atw m j p = 0 by unfold Atw; rw [hb]; simp only; rw [if_neg (by omega)],Int.add_zero]
  ·rw [if_neg hn,if_neg hn]
theorem Avm {m:Morn} {l:List Pick} {i:Nat} {p:Pick} {b:Basket} (hp:l[i]? = some p) (hb:m.baskets[p.basket.toNat]? = some b):Aso m (l.take i) ++ [(⟨b.worth,[b.house]⟩:Sale)] = Aso m (l.take (i + 1)):=by
 unfold Aso
 rw [Ayi hp,List.map_append]
 congr 1
 simp only [List.map_cons,List.map_nil,Awb,hb]
theorem Atx {m:Morn} (ok:MornOk m) {i:Nat} {b:Basket} (h:m.baskets[i]? = some b):(0 ≤ b.house∧b.house ≤ (m.houses.length:Int) - 1)∧0 ≤ b.worth∧b.worth ≤ 10000:=by
 have h1:=ok.basket i (List.getElem?_eq_some_iff.1 h).1 b h
 exact ⟨h1.2.1,h1.2.2.2.2.1⟩
theorem Bal {m:Morn} (ok:MornOk m) {h:Nat} {p:Pick}:0 ≤ Atw m h p∧Atw m h p ≤ 10000:=by
 unfold Atw
 split
 ·rename_i b hb
  have:=(Atx ok hb).2
  split <;> omega
 ·omega
theorem Awi {m:Morn} (ok:MornOk m) {h:Nat}:∀ {l:List Pick},0 ≤ Atn m l h∧Atn m l h ≤ 10000 * (l.length:Int)
 | []=>⟨Int.le_refl _,Int.le_refl _⟩
 | p :: l=>by
  have h1:=Awi ok (h:=h) (l:=l)
  have h2:=Bal ok (h:=h) (p:=p)
  unfold Atn at h1 ⊢
  rw [List.map_cons,List.sum_cons,List.length_cons]
  omega
theorem Awj {m:Morn} (ok:MornOk m) {h:Nat} (hh:m.houses.length ≤ h):∀ {l:List Pick},Atn m l h = 0
 | []=>rfl
 | p :: l=>by
  have h1:=Awj ok hh (l:=l)
  unfold Atn at h1 ⊢
  rw [List.map_cons,List.sum_cons,h1,Int.add_zero]
  unfold Atw
  split
  ·rename_i b hb
   have:=(Atx ok hb).1
   rw [if_neg (by omega)]
  ·rfl
theorem Awo {m:Morn} {h:Nat}:∀ {l:List Pick},Atl h (Aso m l) = Atn m l h
 | []=>rfl
 | p :: l=>by
  have h1:=Awo (m:=m) (h:=h) (l:=l)
  unfold Aso Atn at h1 ⊢
  rw [List.map_cons,Ats,h1,List.map_cons,List.sum_cons]
  congr 1
  unfold Awb Atw
  split
  ·rename_i b hb
   by_cases e:b.house = (h:Int)
   ·rw [if_pos e,if_pos (by rw [e])]
   ·rw [if_neg e,if_neg (fun hc=>e (by injection hc))]
  ·rfl
theorem Azl {m:Morn} (ok:MornOk m) {l:List Pick} {ss:List Sale} {h:Nat}:Em (Asz m l ss) (h:Int) = Atn m l h:=by
 by_cases hh:h < m.houses.length
 ·unfold Em
  show ((Asl m l m.houses.length).map (Es (h:Int))).sum = _
  unfold Asl
  rw [List.map_map,Axr]
  have e:∀ i:Nat,(Es (h:Int) ∘ Atb m l) i = if i = h then Atn m l h else 0:=fun i=>by
   show (if (i:Int) = (h:Int) then Atn m l i else 0) = _
   by_cases e:i = h
   ·rw [if_pos e,if_pos (by omega),e]
   ·rw [if_neg e,if_neg (by omega)]
  rw [Et (fun i _=>e i)]
  have:=Mb (n:=m.houses.length) (k:=h) (f:=fun _=>0) (g:=fun i=>if i = h then Atn m l h else 0) hh fun i _ hi=>if_neg hi
  rw [this,Ii fun _ _=>rfl,if_pos rfl]; omega
 ·rw [Awj ok (by omega)]
  unfold Em
  show ((Asl m l m.houses.length).map (Es (h:Int))).sum = _
  unfold Asl
  rw [List.map_map,Axr]
  exact Ii fun i hi=>by
   show (if (i:Int) = (h:Int) then Atn m l i else 0) = _
   rw [if_neg (by omega)]
theorem Bau {m:Morn} (ok:MornOk m) {l:List Pick} (hl:l.length ≤ 9) {ss:List Sale} (hn:ss.length ≤ 8) (hs:∀ s ∈ ss,(0 ≤ s.grams∧s.grams ≤ 10000)∧∃ h:Int,s.sellers = [h]∧0 ≤ h∧h ≤ (m.houses.length:Int) - 1):Cf (Asz m l ss) = 0:=by
 obtain ⟨hn1,hn2⟩:=Axl ok.fields.1
 have h4:(m.houses.length:Int) ≤ 4:=Ua ok.fields.1
 have h1:Dd m.houses 5 = 0:=by
  have:=ok.fields.1
  unfold Dd at this ⊢
  rw [if_neg (by omega)] at this
  rw [if_neg (by omega)]; exact this
 have h3:Ew (Asz m l ss) = 0:=by
  unfold Ew
  have hl1:(Asz m l ss).fields.length = m.houses.length:=Aud
  rw [if_neg (by omega),Fx]
  intro i hi
  rw [hl1] at hi
  have hx:(Asz m l ss).fields[i]? = some (Atb m l i):=by show (Asl m l _)[i]? = _; rw [Atg,if_pos hi]
  have hnm:∀ k,k < m.houses.length→m.houses[k]? = some (Atb m l k).name:=fun k hk=>by
   show _ = some (m.houses.getD k _)
   rw [List.getD_eq_getElem?_getD,List.getElem?_eq_getElem hk]; rfl
  have e1:Hg (Atb m l i).name = true:=hn1 i _ (hnm i hi)
  have e2:(Cl i (Mk (Asz m l ss) (Atb m l i).name)).isSome = false:=Fs.2 fun j hj=>by
   have hy:(Asz m l ss).fields[j]? = some (Atb m l j):=by show (Asl m l _)[j]? = _; rw [Atg,if_pos (by omega)]
   simp only [Mk,hy]
   exact beq_eq_false_iff_ne.2 (hn2 i j _ _ (hnm i hi) hj (hnm j (by omega)))
  have e3:inR (Atb m l i).house 0 (((Asz m l ss).houses.length:Int) - 1) = true:=Fz.2 (by show 0 ≤ (i:Int)∧(i:Int) ≤ (m.houses.length:Int) - 1; omega)
  have e4:Ef (Atb m l i).grows 0 1000000 = true:=Re.2 (by have:=Awi ok (h:=i) (l:=l); exact ⟨this.1,Int.le_refl _,by show Atn m l i ≤ _; omega⟩)
  have e5:Fm (Atb m l i).marks (((Asz m l ss).marks.length:Nat):Int) = 0:=rfl
  simp only [fieldAt,hx]
  rw [e1,e2,e3,e4,e5]; rfl
 have h5:Jc (Asz m l ss) = 0:=by
  unfold Jc
  rw [if_neg (by show ¬ ((ss.length:Nat):Int) > 8; omega),Fx]
  intro i hi
  obtain ⟨s,hsi⟩:∃ s,(Asz m l ss).sales[i]? = some s:=⟨_,List.getElem?_eq_getElem hi⟩
  obtain ⟨hg,h,hse,hh⟩:=hs s (List.mem_of_getElem? (show ss[i]? = some s from hsi))
  simp only [Jb,hsi]
  rw [if_pos (Fz.2 ⟨hg.1,by omega⟩),hse,if_neg (by simp),Fx]
  intro k hk
  have:k = 0:=by simp at hk; exact hk
  subst this
  have hx:s.sellers[0]? = some h:=by rw [hse]; rfl
  simp only [Gt,hx]
  show (if inR h 0 ((m.houses.length:Int) - 1) = true then _ else _) = _
  rw [if_pos (Fz.2 hh)]; rfl
 unfold Cf
 show orF (Dd m.houses 5) (orF (Dd [] 4) _) = 0
 rw [h1,h3,h5]; decide
theorem Bgo {m:Morn} {l:List Pick} (hin:Atu m l) {p:Pick} (hp:p ∈ l):∃ b,m.baskets[p.basket.toNat]? = some b:=by
 obtain ⟨i,hi⟩:=List.mem_iff_getElem?.1 hp
 have:=hin i p hi
 exact ⟨_,List.getElem?_eq_getElem (by omega)⟩
theorem Aun {m:Morn} (ok:MornOk m) {l:List Pick} (hin:Atu m l) {s:Sale} (hs:s ∈ Aso m l):(0 ≤ s.grams∧s.grams ≤ 10000)∧∃ h:Int,s.sellers = [h]∧0 ≤ h∧h ≤ (m.houses.length:Int) - 1:=by
 obtain ⟨p,hp,rfl⟩:=List.mem_map.1 hs
 obtain ⟨b,hb⟩:=Bgo hin hp
 have:=Atx ok hb
 unfold Awb
 rw [hb]
 exact ⟨this.2,b.house,rfl,this.1⟩
theorem Bcu {m:Morn} (ok:MornOk m) {ss:List Sale} (hs:∀ s ∈ ss,(0 ≤ s.grams∧s.grams ≤ 10000)∧∃ h:Int,s.sellers = [h]∧0 ≤ h∧h ≤ (m.houses.length:Int) - 1):∀ s ∈ ss,∃ h:Nat,h < 5∧s.sellers = [(h:Int)]:=fun s hm=>by
 obtain ⟨_,h,he,hh⟩:=hs s hm
 have:=Ua ok.fields.1
 exact ⟨h.toNat,by omega,by rw [he,Int.toNat_of_nonneg hh.1]⟩
theorem Azj {m:Morn} (ok:MornOk m) {l:List Pick} (hin:Atu m l) (hl:l.length ≤ 7):Cf (Asz m l (Aso m l)) = 0 :=
 Bau ok (by omega) (by rw [Ath]; omega) fun _ hs=>Aun ok hin hs
/-- Who sells what was picked for him sells nothing beyond it. -/
theorem Bek {m:Morn} (ok:MornOk m) {l:List Pick} (hin:Atu m l) (hl:l.length ≤ 7):Ahr (Asz m l (Aso m l)) = 0 :=
 Azh (k:=0) (Azj ok hin hl) ⟨fun s hs=>(Aun ok hin hs).1.1,Bcu ok fun s hs=>Aun ok hin hs,fun h _=>by rw [Azl ok]; show Atl h (Aso m l) = _; rw [Awo]; split <;> omega⟩ (by omega) (Int.le_refl _) (Or.inl rfl)
theorem Ayf {m:Morn} (ok:MornOk m) {l:List Pick} (hin:Atu m l) {k:Nat} {b:Basket} (hb:m.baskets[k]? = some b):∀ s ∈ Aso m l ++ [(⟨b.worth,[b.house]⟩:Sale)],(0 ≤ s.grams∧s.grams ≤ 10000)∧∃ h:Int,s.sellers = [h]∧0 ≤ h∧h ≤ (m.houses.length:Int) - 1:=fun s hs=>by
 rcases List.mem_append.1 hs with hs | hs
 ·exact Aun ok hin hs
 ·rw [List.mem_singleton.1 hs]
  have:=Atx ok hb
  exact ⟨this.2,b.house,rfl,this.1⟩
theorem Azk {m:Morn} (ok:MornOk m) {l:List Pick} (hin:Atu m l) (hl:l.length ≤ 7) {k:Nat} {b:Basket} (hb:m.baskets[k]? = some b):Cf (Asz m l (Aso m l ++ [(⟨b.worth,[b.house]⟩:Sale)])) = 0 :=
 Bau ok (by omega) (by rw [List.length_append,Ath]; simp only [List.length_cons,List.length_nil]; omega) fun _ hs=>Ayf ok hin hb _ hs
/-- Who sells a basket more sells just its worth beyond what he has. -/
theorem Bel {m:Morn} (ok:MornOk m) {l:List Pick} (hin:Atu m l) (hl:l.length ≤ 7) {k:Nat} {b:Basket} (hb:m.baskets[k]? = some b):Ahr (Asz m l (Aso m l ++ [(⟨b.worth,[b.house]⟩:Sale)])) = b.worth:=by
 have h1:=Atx ok hb
 have h4:=Ua ok.fields.1
 refine Azh (k:=b.house.toNat) (Azk ok hin hl hb) ⟨fun s hs=>(Ayf ok hin hb s hs).1.1,Bcu ok fun s hs=>Ayf ok hin hb s hs,fun h _=>?_⟩ (by omega) h1.2.1 (Or.inr ⟨⟨b.worth,[b.house]⟩,List.mem_append_right _ (List.mem_singleton.2 rfl),by show [b.house] = _; rw [Int.toNat_of_nonneg h1.1.1]⟩)
 rw [Azl ok]
 show Atl h (Aso m l ++ [_]) = _
 have e:Atl h (Aso m l ++ [(⟨b.worth,[b.house]⟩:Sale)]) = Atl h (Aso m l) + if b.house = (h:Int) then b.worth else 0:=by
  unfold Atl
  rw [List.map_append,List.sum_append]
  congr 1
  show (if [b.house] = [(h:Int)] then b.worth else 0) + 0 = _
  rw [Int.add_zero]
  by_cases e:b.house = (h:Int)
  ·rw [if_pos e,if_pos (by rw [e])]
  ·rw [if_neg e,if_neg (fun hc=>e (by injection hc))]
 rw [e,Awo]
 by_cases e:b.house = (h:Int)
 ·rw [if_pos e,if_pos (by omega)]
 ·rw [if_neg e,if_neg (by omega)]
end
section
set_option maxHeartbeats 1000000
open Go Go.Conc
theorem Fld.comp {α β γ:Type} [Dat α] [Dat β] [Dat γ] {o p:Nat} {f:α→β} {g:β→γ} (hf:Fld α β o f) (hg:Fld β γ p g):Fld α γ (o + p) (fun x=>g (f x)):=⟨fun ρ cs x h=>by
 obtain ⟨pre,cs',post,h1,h2,h3⟩:=hf.at_ ρ cs x h
 obtain ⟨pre',cs'',post',h4,h5,h6⟩:=hg.at_ ρ cs' (f x) h3
 exact ⟨pre ++ pre',cs'',post' ++ post,by rw [h1,h4]; simp,by rw [List.length_append,h2,h5],h6⟩⟩
theorem Azg {ca cc:List Value}:∀ {vs cb:List Value} {o:Nat},over (ca ++ (cb ++ cc)) (ca.length + o) vs = ca ++ (over cb o vs ++ cc)∨cb.length < o + vs.length
 | [],_,_=>.inl rfl
 | v :: vs,cb,o=>by
  by_cases h:cb.length < o + (v :: vs).length
  ·exact .inr h
  ·simp only [List.length_cons] at h
   have e:(ca ++ (cb ++ cc)).set (ca.length + o) v = ca ++ (cb.set o v ++ cc):=by
    rw [List.set_append_right _ _ (by omega),Nat.add_sub_cancel_left,List.set_append_left _ _ (by omega)]
   rcases Azg (ca:=ca) (cc:=cc) (vs:=vs) (cb:=cb.set o v) (o:=o + 1) with h1 | h1
   ·left
    show over ((ca ++ (cb ++ cc)).set (ca.length + o) v) (ca.length + o + 1) vs = ca ++ (over (cb.set o v) (o + 1) vs ++ cc)
    rw [e]; exact h1
   ·rw [List.length_set] at h1; omega
theorem Azb {ρ:Ro} {el:TypeId} {v:Value} {xs:List FField} {gr:Own} {i:Nat} {z:FField} (hG:Grow ρ el v xs gr) (hi:xs[i]? = some z):I64 z.grows.high:=by
 obtain ⟨_,q0,r0,f0,_,q1,r1,f1,_,q2,r2,f2,⟨q3,r3,f3,_,⟨_,b⟩⟩,_⟩:=Bcm hG hi; exact b
section
variable {P:Program} {ρ₀ ρ:Ro} {A:Own} {e:Env} {ty t t':TypeId} {x y:Operand} {v:Value}
theorem Axt {off i:Nat} {xs:List FField} {z:FField} {gr:Own} {el:TypeId} (hG:Grow ρ₀ el v xs gr) (hsub:∀ p ∈ gr,p ∈ A) (hi:xs[i]? = some z) (hT:∃ d,P.underlying t = some d∧Qv d = false) (hx:Af e x = .pointer (some ⟨Ahx v,off,none⟩)) (ho:off = i * Dat.k FField + 3):Aux P ρ₀ A e (.load t x) ty (.int .i64 z.grows.high):=by
 obtain ⟨w,h1,h2⟩:=Beq (ty:=ty) (FField.f_grows.comp Span.f_high) rfl hG hsub hi hT hx ho
 obtain ⟨rfl,_⟩:=Cv.1 h1
 exact h2
end
section
variable {C:Ctx} {e:Env} {ds:List Deferred} {ρ:Ro} {σ:Own} {K:Value→List Deferred→Ro→Own→Prop} {rd:Option Nat} {dd:Option Tmp}
variable {ty:TypeId} {pos:String} {af:Array Edge} {g:Option (Nat × Bool)} {x y:Operand} {v:Value} {t t':TypeId}
theorem Axs {α:Type} [Dat α] {xs:List α} {a z:α} {gr:Own} {el:TypeId} {w:Value} {vs:List Value} {off i o n':Nat} (hE:∃ i,C.P.info? t = some i∧i.size = n') (hx:Af e x = .pointer (some ⟨Ahx v,off,none⟩)) (ho:off = i * Dat.k α + o) (hok:o + vs.length ≤ Dat.k α) (hy:Af e y = w) (hcl:w.cells = vs.toArray) (hn:vs.length = n') (hw:∀ u ∈ vs,single u = true) (hv:Grow ρ el v xs gr) (hi:xs[i]? = some z)
  (hset:∀ cs,Dat.rep ρ cs z→Dat.rep ρ (over cs o vs) a)
  (h:∀ gr',Grow ρ el v (xs.set i a) gr'→K undef ds ρ (gr' ++ σ)):wpS C.P ρ (execOp (Af e) ⟨dd,.store t x y,ty,pos,af,g⟩) (gr ++ σ) (NextH C K rd ds ρ):=by
 have hil:i < xs.length:=(List.getElem?_eq_some_iff.1 hi).1
 rcases hv.2.2 with ⟨_,h2⟩ | ⟨r,cap,cs,rs,gb,e1,e2,hr,hl,hc⟩
 ·rw [h2] at hil; simp at hil
 ·subst e1 e2
  have hcl2:=hr.len
  have hb:i * Dat.k α + Dat.k α ≤ xs.length * Dat.k α:=by rw [← Nat.succ_mul]; exact Nat.mul_le_mul_right _ hil
  obtain ⟨ca,cb,cc,f1,f2,f3,f4⟩:∃ ca cb cc,cs = ca ++ (cb ++ cc)∧ca.length = i * Dat.k α∧cb.length = Dat.k α∧Rows ρ (ca ++ (over cb o vs ++ cc)) (xs.set i a):=by
   clear hv h hx hl hc hb hcl2 ho hil
   induction xs generalizing cs i with
   | nil=>simp at hi
   | cons z' zs ih =>
    obtain ⟨c1,c2,g1,g2,g3⟩:=hr
    have hz:=Dat.len g2
    cases i with
    | zero =>
     obtain rfl:z' = z:=by simpa using hi
     exact ⟨[],c1,c2,by simp [g1],by simp,hz,over c1 o vs,c2,rfl,hset _ g2,g3⟩
    | succ i =>
     obtain ⟨ca,cb,cc,f1,f2,f3,f4⟩:=ih (i:=i) (by simpa using hi) _ g3
     refine ⟨c1 ++ ca,cb,cc,by rw [g1,f1]; simp,by rw [List.length_append,hz,f2,Nat.add_mul,Nat.one_mul,Nat.add_comm],f3,c1,ca ++ (over cb o vs ++ cc),by simp,g2,f4⟩
  have e3:over (cs ++ rs) off vs = (ca ++ (over cb o vs ++ cc)) ++ rs:=by
   rw [f1,ho,← f2,show ca ++ (cb ++ cc) ++ rs = ca ++ (cb ++ (cc ++ rs)) by simp]
   rcases Azg (ca:=ca) (cc:=cc ++ rs) (vs:=vs) (cb:=cb) (o:=o) with h1 | h1
   ·rw [h1]; simp
   ·omega
  refine Li (i:=0) (c:=cs ++ rs) hE hx hy hcl hn hw rfl (by rw [List.length_append,hcl2,ho]; omega) e3 ?_
  have hlo:(over cb o vs).length = cb.length:=Avu _ _ _
  refine h ((r,.obj (.cells ((ca ++ (over cb o vs ++ cc)) ++ rs).toArray el (0,0))) :: gb) ⟨fun p hp=>?_,by rw [List.length_set]; exact hv.2.1,.inr ⟨r,cap,ca ++ (over cb o vs ++ cc),rs,gb,by rw [List.length_set],rfl,f4,?_,by rw [List.length_set]; exact hc⟩⟩
  ·rcases List.mem_cons.1 hp with rfl | hp
   ·exact ⟨_,rfl⟩
   ·exact hv.1 p (List.mem_cons_of_mem _ hp)
  ·rw [← hl,f1]; simp [hlo]
end
theorem Avt {ρ:Ro} {z:FField} {a b:Int} (ha:I64 a) (hb:I64 b) (cs:List Value) (h:Dat.rep ρ cs z):Dat.rep ρ (over cs 2 [.int .i64 a,.int .i64 b]) (⟨z.name,z.house,⟨a,b⟩,z.marks⟩:FField):=by
 obtain ⟨q0,r0,f0,⟨a0,b0⟩,q1,r1,f1,⟨a1,b1⟩,q2,r2,f2,⟨q3,r3,f3,⟨a3,b3⟩,⟨a4,b4⟩⟩,hr⟩:=h
 subst f0 f1 f2 f3 a0 a1 a3 a4
 exact ⟨_,_,rfl,⟨rfl,b0⟩,_,_,rfl,⟨rfl,b1⟩,[.int .i64 a,.int .i64 b],r2,rfl,⟨[.int .i64 a],[.int .i64 b],rfl,⟨rfl,ha⟩,⟨rfl,hb⟩⟩,hr⟩
end
section
set_option maxHeartbeats 1000000
open Go
theorem Bgp {m:Morn} (ok:MornOk m) {l:List Pick} {n k:Nat} {x:FField} (hl:l.length ≤ 9) (hx:(Asl m l n)[k]? = some x):0 ≤ x.grows.high∧x.grows.high ≤ 90000:=by
 rw [Atg] at hx
 split at hx
 ·obtain rfl:=Option.some.inj hx
  have:=Awi ok (h:=k) (l:=l)
  show 0 ≤ Atn m l k∧Atn m l k ≤ 90000
  omega
 ·cases hx
set_option maxHeartbeats 4000000 in
theorem Axv {W0:World} {ρ:Ro} {σ:Own} {m:Morn} {basket:Nat} {vm:Value} (hg:GlobP ρ) (hnr:Jp σ) (rm:Val ρ vm m) (hbas:basket < 256):Agd (CY W0) 3 4 [vm,(.int .u8 ((basket:Int)))] ρ σ (rP ρ σ (.bool (true))):=by
 refine Bdv (n:=171) Tryd.func3 rfl rfl rfl rfl fun Q hret hnor=>w_q rfl rfl fun K1 k1=>Arv (Eb (v:=vm) rfl fun k2=>?_)
 refine Bb (a:=m) rm fun ρ2 l2 r2=>?_
 replace hg:=GlobP.mono l2 hg
 refine Lo (.bool (false)) (Ary rfl rfl k1 fun K3 K4 k3 k4=>Arw (Ax Ata rfl r2) fun v5 r5=>Arv (Cm (vs:=[v5]) (Bcd r5) Tryd.func4 rfl rfl ⟨rfl,trivial⟩ fun w6 ρ6 σ6 hc6=>?_))
 obtain ⟨hr6,hs6,b6_,hw6⟩:=hc6
 replace hr6:=hr6.symm; replace hs6:=hs6.symm; subst hr6 hs6 hw6
 refine Asf (.bool (b6_)) (Cn (b6_) (fun b7=>?_) (fun b7=>?_))
 ·refine Ap (gN rfl b7) (Ap (gN rfl b7) (Ap (gN rfl b7) (l_v (Bt rfl b7 (v:=(.bool (true))) rfl) (Asf (.bool (true)) (Ap (gN rfl rfl) (Ap (gN rfl rfl) (Ap (gN rfl rfl) (Ap (gN rfl rfl) (l_v (Bt rfl rfl (v:=(.bool (true))) rfl) (l_k k4 (Co rfl rfl (w_q rfl rfl fun K8 k8=>Arv (Bm (Aub (Auv hg.g hnr)) Bkz rfl rfl trivial ?_)))))))))))))
  refine Lo (.bool (true)) (l_k k8 (Aj (Bmi l2) (Aq (hret _ _ _ ⟨rfl,rfl,eT (.bool (true)) ?_⟩))))
  rfl
 refine Ak (gY rfl b7) (Ax Ata rfl r2) fun v9 r9=>Ae (gY rfl b7) (Cm (vs:=[v9]) (Bbi r9) Tryd.func5 rfl rfl ⟨rfl,trivial⟩ fun w10 ρ10 σ10 hc10=>?_)
 obtain ⟨hr10,hs10,f10_,hw10,hz10⟩:=hc10
 replace hr10:=hr10.symm; replace hs10:=hs10.symm; subst hr10 hs10 hw10
 refine Aa (gY rfl b7) (Dg rfl rfl) (l_v (Bn rfl b7 (v:=(.bool (f10_ != 0))) rfl) (Asf (.bool (f10_ != 0)) (Cn (f10_ != 0) (fun b11=>?_) (fun b11=>?_))))
 ·have q11:=Ls b11
  refine Ap (gN rfl b11) (Ap (gN rfl b11) (Ap (gN rfl b11) (Ap (gN rfl b11) (l_v (Bt rfl b11 (v:=(.bool (true))) rfl) (l_k k4 (Co rfl rfl (w_q rfl rfl fun K12 k12=>Arv (Bm (Aub (Auv hg.g hnr)) Bkz rfl rfl trivial ?_))))))))
  refine Lo (.bool (true)) (l_k k12 (Aj (Bmi l2) (Aq (hret _ _ _ ⟨rfl,rfl,eT (.bool (true)) ?_⟩))))
  rfl
 have ok:=hz10 (Jh b11); have hnh:=Ua ok.fields.1; have hnb:=ok.nbaskets
 have q11:=Jh b11
 refine Ak (gY rfl b11) (Ay Morn.f_baskets Bhz rfl rfl Asu (by decide) rfl r2) fun v13 r13=>Ak (gY rfl b11) (Ax Asu rfl r13) fun v14 r14=>?_
 have g15:=Bmn r14
 refine Aa (gY rfl b11) (Ci (el:=47) Bip rfl r14) (Aa (gY rfl b11) (Ek rfl rfl) (l_v (Bn rfl b11 (v:=(.bool (((m.baskets.length:Nat):Int) == 0))) rfl) (l_k k4 (Asg (t:=((m.baskets.length:Nat):Int) == 0) rfl (fun b16=>?_) (fun b16=>?_)))))
 ·have q16:=Jr b16
  refine w_q rfl rfl fun K17 k17=>Arv (Bm (Aub (Auv hg.g hnr)) Bkz rfl rfl trivial ?_)
  refine Lo (.bool (true)) (l_k k17 (Aj (Bmi l2) (Aq (hret _ _ _ ⟨rfl,rfl,eT (.bool (true)) ?_⟩))))
  rfl
 have q16:=Jq b16
 refine Al (k3 _ _ _ _ ?_)
 refine w_q rfl rfl fun K18 k18=>Arw (Ax Ata rfl r2) fun v19 r19=>Arv (Cm (vs:=[v19]) (Bfl hg r19 ok) Tryd.func7 rfl rfl ⟨rfl,trivial⟩ fun w20 ρ20 σ20 hc20=>?_)
 obtain ⟨l20,s20,v20,pk,nn,hw20,rpk,hpk,hpn⟩:=hc20
 replace s20:=s20.symm; subst s20 hw20
 replace hg:=GlobP.mono l20 hg
 replace r2:=Bmg l20 r2
 refine Asf (.tuple #[v20,(iV (nn)),(iV (0))]) (l_v (Bk (vs:=#[v20,(iV (nn)),(iV (0))]) rfl (v:=v20) rfl) (l_v (Bk (vs:=#[v20,(iV (nn)),(iV (0))]) rfl (v:=(iV (nn))) rfl) (l_v (Bk (vs:=#[v20,(iV (nn)),(iV (0))]) rfl (v:=(iV (0))) rfl) (Lo v20 (Lo (iV (nn)) (Lo (iV (0)) (Ary rfl rfl k18 fun K21 K22 k21 k22=>Asf (iV (0)) (l_v (Dg rfl rfl) (l_k k22 (Cg rfl rfl (Al (k21 _ _ _ _ ?_))))))))))))
 refine Asb rfl rfl fun K23 K24 k23 k24=>Asf v20 ?_
 have g25:=Bmn rpk
 refine l_v (Ci (el:=45) Bji rfl rpk) (l_v (Uy rfl rfl) (l_k k24 (Asg (t:=decide (((pk.length:Nat):Int) ≥ 8)) rfl (fun b26=>?_) (fun b26=>?_))))
 ·have q26:=of_decide_eq_true b26
  refine w_q rfl rfl fun K27 k27=>Arv (Bm (Aub (Auv hg.g hnr)) Bkz rfl rfl trivial ?_)
  refine Lo (.bool (true)) (l_k k27 (Aj (Bmi (Bmm l2 l20)) (Aq (hret _ _ _ ⟨rfl,rfl,eT (.bool (true)) ?_⟩))))
  rfl
 have q26:=of_decide_eq_false b26
 refine Al (k23 _ _ _ _ ?_)
 refine w_q rfl rfl fun K28 k28=>Arw (Ay Morn.f_houses Bhz rfl rfl Hw (by decide) rfl r2) fun v29 r29=>Arw (Ax Hw rfl r29) fun v30 r30=>?_
 have r31:Val ρ20 (.agg #[v30,(nS),(nS),(nS)]) (⟨m.houses,[],[],[]⟩:Market):=Market.shut (x:=(⟨m.houses,[],[],[]⟩:Market)) r30 Gx Gx Gx
 refine l_v (Dn (ns:=[1,1,1,1]) (vs:=[(0,v30)]) (zc:=Amj) (cs:=[v30,(nS),(nS),(nS)]) Bia Apg rfl ⟨⟨_,Ab Bkp,rfl⟩,⟨_,Ab Bkp,rfl⟩,⟨_,Ab Bjt,rfl⟩,⟨_,Ab Bje,rfl⟩,trivial⟩ (EvB.map ⟨⟨rfl,rfl⟩,trivial⟩) ((Be (cs:=[v30]) (Val.cells_l r30) rfl (Nat.le_of_ble_eq_true rfl)).trans rfl)) (Arv (Ct Apg fun k32=>?_))
 refine Cx rfl (Li (i:=0) (vs:=[v30,(nS),(nS),(nS)]) (c':=[v30,(nS),(nS),(nS)]) ⟨_,Ab Bjn,rfl⟩ rfl rfl rfl rfl (Zh ⟨(Val.single_l r30),rfl,rfl,rfl,trivial⟩) rfl (Nat.le_of_ble_eq_true rfl) rfl ?_)
 refine Ary rfl rfl k28 fun K33 K34 k33 k34=>Lo (iV (0)) (l_k k34 (Ao (Cc (fun mm ee dd ρ' σ'=>∃ (i:Nat) (ov35_8c2:Value) (og35_8c2:Own),(m.houses.length - i) = mm∧[] = dd∧Ro.le ρ20 ρ'∧(og35_8c2 ++ ((k32,oC #[v30,(nS),ov35_8c2,(nS)] 40) :: σ)) = σ'∧ee 1 = (.int .u8 ((basket:Int)))∧ee 2 = (.pointer (some ⟨k2,0,none⟩))∧ee 5 = v20∧ee 8 = (.pointer (some ⟨k32,0,none⟩))∧ee 9 = (iV ((i:Int)))∧(i ≤ m.houses.length)∧Grow ρ' 43 ov35_8c2 (Asl m [] i) og35_8c2∧True) (m:=_) ⟨0,(nS),[],rfl,rfl,Bml,rfl,rfl,rfl,rfl,rfl,rfl,(Nat.zero_le _),(Fy (by simp [Asl]) Hm),trivial⟩ ?_)))
 rintro m35 e35 _ ρ35 _ ⟨i,ov35_8c2,og35_8c2,rfl,rfl,l35,rfl,h35_1,h35_2,h35_5,h35_8,h35_9,p35_0,OG35_8c2,_⟩
 replace hg:=GlobP.mono l35 hg
 replace r2:=Bmg l35 r2
 replace rpk:=Bmo l35 rpk
 replace r30:=Bmo l35 r30
 have hwl35:=Aud (m:=m) (l:=[]) (n:=i)
 refine Asb rfl rfl fun K36 K37 k36 k37=>l_v (Ah (v:=(iV ((i:Int)))) h35_9) (Arw (Ay Morn.f_houses Bhz rfl rfl Hw (by decide) h35_2 r2) fun v38 r38=>Arw (Ax Hw rfl r38) fun v39 r39=>?_)
 have g40:=Bmn r39
 refine l_v (Ci (el:=9) Bic rfl r39) (l_v (Da rfl rfl) (l_k k37 (Asg (t:=decide ((i:Int) < ((m.houses.length:Nat):Int))) rfl (fun b41=>?_) (fun b41=>?_))))
 ·have q41:=of_decide_eq_true b41
  refine Al (k36 _ _ _ _ ?_)
  refine Ai fun K42 k42=>Ao (Auc (((k32,oC #[v30,(nS),ov35_8c2,(nS)] 40) :: [])) [0,1,2,3,4,5,6,7,8,9,10,11] (by kernel_rfl) rfl rfl (Ask 0 Bhd rfl ⟨Bml,sB⟩ rfl (Yld.o (Cb Bia rfl rfl ⟨_,Ab Bjt,rfl⟩ (by decide) h35_8 rfl)) (Ask 1 Bhe rfl ⟨Bml,sB⟩ rfl (Atj (v:=ov35_8c2) ⟨_,Big,rfl⟩ rfl (List.mem_cons_self ..) rfl) (Ate 2 Bhf rfl ⟨Bml,sB⟩ rfl (Atc (Ay Morn.f_houses Bhz rfl rfl Hw (by decide) h35_2 r2)) fun v43 r43=>Ate 3 Bhg rfl ⟨Bml,sB⟩ rfl (Atc (Ax Hw rfl r43)) fun v44 r44=>Ask 4 Bhh rfl ⟨Bml,sB⟩ rfl (Yld.o (Ah (v:=(iV ((i:Int)))) h35_9)) ?_))))
  obtain ⟨a46,ha46⟩:=Ed (xs:=m.houses) (i:=i) (by omega)
  refine Ate 5 Bhi rfl ⟨Bml,sB⟩ rfl (Atc (Ch i Bic ty9 rfl r44 (q:=(i:Int)) rfl rfl ha46)) fun v45 r45=>?_
  have g47:=At.slen r45
  refine Ask 6 Bey rfl ⟨Bml,sB⟩ rfl (Yld.o (Pk ty9 rfl r45)) (Asp 7 Bez rfl ⟨Bml,sB⟩ rfl (Yld.o (Ah (v:=(iV ((i:Int)))) h35_9)) ⟨Bml,sB⟩ ?_)
  have r48:Val ρ35 (.agg #[(.string (a46)),(iV ((i:Int))),(iV (0)),(iV (0)),(nS)]) (⟨a46,(i:Int),⟨0,0⟩,[]⟩:FField):=FField.shut (x:=(⟨a46,(i:Int),⟨0,0⟩,[]⟩:FField)) (show (a46).size < 2 ^ 60 by omega) (show I64 ((i:Int)) from by constructor <;> omega) (show I64 (0) from by constructor <;> omega) (show I64 (0) from by constructor <;> omega) Gx
  refine Asp 8 Bfa rfl ⟨Bml,sB⟩ rfl (Yld.o (Dn (ns:=[1,1,2,1]) (vs:=[(0,(.string (a46))),(1,(iV ((i:Int))))]) (zc:=Aah) (cs:=[(.string (a46)),(iV ((i:Int))),(iV (0)),(iV (0)),(nS)]) Bij Xu rfl ⟨⟨_,Ab Bkd,rfl⟩,⟨_,Ab Bhx,rfl⟩,⟨_,Ab Biz,rfl⟩,⟨_,Ab Bkr,rfl⟩,trivial⟩ (EvB.map ⟨⟨rfl,rfl⟩,⟨rfl,rfl⟩,trivial⟩) ((Be (cs:=[(.string (a46))]) rfl rfl (Nat.le_of_ble_eq_true rfl)).trans ((Be (cs:=[(iV ((i:Int)))]) rfl rfl (Nat.le_of_ble_eq_true rfl)).trans rfl)))) ⟨Bml,sB⟩ (Aur 9 Bfb rfl rfl (Bi (α:=FField) (xs:=[(⟨a46,(i:Int),⟨0,0⟩,[]⟩:FField)]) (vs:=[(.agg #[(.string (a46)),(iV ((i:Int))),(iV (0)),(iV (0)),(nS)])]) Big ty67 Xu rfl (by decide) (Dk (os:=[.tmp 60]) ⟨rfl,trivial⟩) ⟨r48,trivial⟩ rfl (by decide) fun k49 cs49 R49=>⟨⟨Bml,sB⟩,?_⟩))
  have G49:Grow ρ35 43 (.slice (some ⟨k49,0,none⟩) 1 1) ([(⟨a46,(i:Int),⟨0,0⟩,[]⟩:FField)]:List FField) [(k49,oC cs49.toArray 43)]:=Bs R49 rfl (by decide)
  refine Axn G49 sB fun ρ51 l51 r51=>?_
  replace OG35_8c2:=Bmk l51 OG35_8c2
  refine Aur 10 Bfc rfl rfl (Gc (σ:=((k32,oC #[v30,(nS),ov35_8c2,(nS)] 40) :: σ)) (gr:=og35_8c2) (xs:=Asl m [] i) (ys:=([(⟨a46,(i:Int),⟨0,0⟩,[]⟩:FField)]:List FField)) Big Big (Ab Blv) rfl (Nat.le_of_ble_eq_true rfl) rfl rfl rfl rfl OG35_8c2 r51 (by have:=Ath (m:=m) (l:=pk); simp only [List.length_append,List.length_cons,List.length_nil] at *; omega) fun v50 gr50 G50=>⟨⟨l51,sB⟩,?_⟩)
  refine Asp 11 Bfd rfl ⟨l51,sB⟩ rfl (Yld.o (Cb Bia rfl rfl ⟨_,Ab Bjt,rfl⟩ (by decide) h35_8 rfl)) ⟨Bml,sB⟩ (Aye Asd (Auq 12 Bfe rfl rfl (Cz (j:=0) (v:=v50) ⟨_,Ab Bjt,rfl⟩ rfl rfl (Grow.single G50) rfl (Nat.le_of_ble_eq_true rfl) ?_)))
  refine Avk rfl (k42 _ _ _ _ ?_)
  refine Ag rfl rfl (l_v (Ah (v:=(iV ((i:Int)))) h35_9) (l_v (Br rfl rfl (z:=(((i + 1):Nat):Int)) wrE) (Lo (iV ((((i + 1):Nat):Int))) (Bj (Bmj Asc) (Ac ?_)))))
  refine ⟨_,?_,((i + 1)),v50,gr50,rfl,rfl,(Bmm l35 l51),rfl,h35_1,h35_2,h35_5,h35_8,rfl,(by omega),(Fy (Axd ha46) G50),trivial⟩
  omega
 have q41:=of_decide_eq_false b41
 refine Bx (k33 _ _ _ _ ?_)
 refine Ai fun K52 k52=>?_
 replace OG35_8c2:Grow ρ35 43 ov35_8c2 (Asl m [] m.houses.length) og35_8c2:=Fy (by rw [show i = m.houses.length by omega]) OG35_8c2
 refine Ag rfl rfl (Lo (.bool (false)) (Arx rfl rfl k52 fun K53 k53=>l_v (Ah (v:=(.int .u8 ((basket:Int)))) h35_1) (l_v (Acf (p:=(basket:Int)) (z:=(basket:Int)) Bkh Bib rfl wrR) (Arw (Ay Morn.f_baskets Bhz rfl rfl Asu (by decide) h35_2 r2) fun v54 r54=>Arw (Ax Asu rfl r54) fun v55 r55=>?_))))
 have g56:=Bmn r55
 refine l_v (Ci (el:=47) Bip rfl r55) (l_v (Bgt (p:=(basket:Int)) (q:=((m.baskets.length:Nat):Int)) rfl rfl (by omega) (z:=(((basket % m.baskets.length):Nat):Int)) rfl) ?_)
 obtain ⟨k,hk_⟩:∃ z:Nat,z = (basket % m.baskets.length):=⟨_,rfl⟩
 refine l_v (Cp (v:=(iV (k:Int))) ((show _ = Value.int .i64 ((((basket % m.baskets.length)):Nat):Int) from rfl).trans (by rw [hk_]))) ?_
 have hk:k < m.baskets.length:=by rw [hk_]; exact Nat.mod_lt _ (by omega)
 refine Ary rfl rfl k53 fun K57 K58 k57 k58=>Lo (iV (0)) (l_k k58 (Ao (Cc (fun mm ee dd ρ' σ'=>∃ (j:Nat) (is:Bool) (ov59_8c2:Value) (og59_8c2:Own) (ov59_8c3:Value) (og59_8c3:Own),(pk.length - j) = mm∧[] = dd∧Ro.le ρ35 ρ'∧(og59_8c2 ++ (og59_8c3 ++ ((k32,oC #[v30,(nS),ov59_8c2,ov59_8c3] 40) :: σ))) = σ'∧ee 2 = (.pointer (some ⟨k2,0,none⟩))∧ee 5 = v20∧ee 8 = (.pointer (some ⟨k32,0,none⟩))∧ee 11 = (iV ((k:Int)))∧ee 10 = (.bool (is))∧ee 12 = (iV ((j:Int)))∧(j ≤ pk.length)∧Grow ρ' 43 ov59_8c2 (Asl m (pk.take j) m.houses.length) og59_8c2∧Grow ρ' 51 ov59_8c3 (Aso m (pk.take j)) og59_8c3∧True) (m:=_) ⟨0,false,ov35_8c2,og35_8c2,(nS),[],rfl,rfl,Bml,rfl,h35_2,h35_5,h35_8,rfl,rfl,rfl,(Nat.zero_le _),(Fy (by rw [List.take_zero]) OG35_8c2),(Fy (by rw [List.take_zero]; rfl) Hm),trivial⟩ ?_)))
 rintro m59 e59 _ ρ59 _ ⟨j,is,ov59_8c2,og59_8c2,ov59_8c3,og59_8c3,rfl,rfl,l59,rfl,h59_2,h59_5,h59_8,h59_11,h59_10,h59_12,p59_0,OG59_8c2,OG59_8c3,_⟩
 replace hg:=GlobP.mono l59 hg
 replace r2:=Bmg l59 r2
 replace rpk:=Bmo l59 rpk
 replace r30:=Bmo l59 r30
 have hfl59:=Aud (m:=m) (l:=pk.take j) (n:=m.houses.length)
 have hsl59:=Ath (m:=m) (l:=pk.take j)
 have htl59:=List.length_take (i:=j) (l:=pk)
 refine Asb rfl rfl fun K60 K61 k60 k61=>l_v (Ah (v:=(iV ((j:Int)))) h59_12) (l_v (Ah (v:=v20) h59_5) ?_)
 have g62:=Bmn rpk
 refine l_v (Ci (el:=45) Bji rfl rpk) (l_v (Da rfl rfl) (l_k k61 (Asg (t:=decide ((j:Int) < ((pk.length:Nat):Int))) rfl (fun b63=>?_) (fun b63=>?_))))
 ·have q63:=of_decide_eq_true b63
  refine Al (k60 _ _ _ _ ?_)
  refine Ai fun K64 k64=>Ao (Ai fun K65 k65=>Ai fun K66 k66=>Atd (Ash 0 [o1,o0,o0,o0,o0,o0,o0,o0,o0,o0,o0,o0,o0,o0,o0,o0,o0] rfl (Ah (v:=v20) h59_5) (Asi 1 [o1,o1,o0,o0,o0,o0,o0,o0,o0,o0,o0,o0,o0,o0,o0,o0,o0] rfl (Ah (v:=(iV ((j:Int)))) h59_12) ?_)))
  obtain ⟨a68,ha68⟩:=Ed (xs:=pk) (i:=j) (by omega)
  have hpia68:=hpk j a68 ha68
  refine Asn 2 [o1,o1,o1,o0,o0,o0,o0,o0,o0,o0,o0,o0,o0,o0,o0,o0,o0] rfl (Ch j Bji Avr rfl rpk (q:=(j:Int)) rfl rfl ha68) fun v67 r67=>Asn 3 [o1,o1,o1,o1,o0,o0,o0,o0,o0,o0,o0,o0,o0,o0,o0,o0,o0] rfl (Ay Pick.f_basket Bkf rfl rfl ty3 (by decide) rfl r67) fun v69 r69=>?_
  have ⟨g70a,g70b⟩:=At.rng r69
  refine Asi 4 [o1,o1,o1,o1,o1,o0,o0,o0,o0,o0,o0,o0,o0,o0,o0,o0,o0] rfl (Bc ty3 rfl r69) (Asi 5 [o1,o1,o1,o1,o1,o1,o0,o0,o0,o0,o0,o0,o0,o0,o0,o0,o0] rfl (Da rfl rfl) (Asi 6 [o1,o1,o1,o1,o1,o1,o1,o0,o0,o0,o0,o0,o0,o0,o0,o0,o0] rfl (Ah (v:=(.bool (decide (a68.basket < 0)))) rfl) (Auy 7 [o1,o1,o1,o1,o1,o1,o1,o1,o0,o0,o0,o0,o0,o0,o0,o0,o0] rfl Bml (gY rfl (decide_eq_false (by omega))) (Ah (v:=v20) h59_5) (Auy 8 [o1,o1,o1,o1,o1,o1,o1,o1,o1,o0,o0,o0,o0,o0,o0,o0,o0] rfl Bml (gY rfl (decide_eq_false (by omega))) (Ah (v:=(iV ((j:Int)))) h59_12) (Atp 9 [o1,o1,o1,o1,o1,o1,o1,o1,o1,o1,o0,o0,o0,o0,o0,o0,o0] rfl Bml (gY rfl (decide_eq_false (by omega))) (Ch j Bji Avr rfl rpk (q:=(j:Int)) rfl rfl ha68) fun v71 r71=>Atp 10 [o1,o1,o1,o1,o1,o1,o1,o1,o1,o1,o1,o0,o0,o0,o0,o0,o0] rfl Bml (gY rfl (decide_eq_false (by omega))) (Ay Pick.f_basket Bkf rfl rfl ty3 (by decide) rfl r71) fun v72 r72=>?_)))))
  have ⟨g73a,g73b⟩:=At.rng r72
  refine Auy 11 [o1,o1,o1,o1,o1,o1,o1,o1,o1,o1,o1,o1,o0,o0,o0,o0,o0] rfl Bml (gY rfl (decide_eq_false (by omega))) (Bc ty3 rfl r72) (Atv 12 [o1,o1,o1,o1,o1,o1,o1,o1,o1,o1,o1,o1,o1,o0,o0,o0,o0] rfl Bml (gY rfl (decide_eq_false (by omega))) (Ay Morn.f_baskets Bhz rfl rfl Asu (by decide) h59_2 r2) fun v74 r74=>Atv 13 [o1,o1,o1,o1,o1,o1,o1,o1,o1,o1,o1,o1,o1,o1,o0,o0,o0] rfl Bml (gY rfl (decide_eq_false (by omega))) (Ax Asu rfl r74) fun v75 r75=>?_)
  have g76:=Bmn r75
  refine Ass 14 [o1,o1,o1,o1,o1,o1,o1,o1,o1,o1,o1,o1,o1,o1,o1,o0,o0] rfl Bml (gY rfl (decide_eq_false (by omega))) (Ci (el:=47) Bip rfl r75) (Ass 15 [o1,o1,o1,o1,o1,o1,o1,o1,o1,o1,o1,o1,o1,o1,o1,o1,o0] rfl Bml (gY rfl (decide_eq_false (by omega))) (Uy rfl rfl) (Asi 16 [o1,o1,o1,o1,o1,o1,o1,o1,o1,o1,o1,o1,o1,o1,o1,o1,o1] rfl (Bn rfl (decide_eq_false (by omega)) (v:=(.bool (decide (a68.basket ≥ ((m.baskets.length:Nat):Int))))) rfl) (Ec rfl (k66 _ _ _ _ ?_))))
  refine Cg rfl (decide_eq_false (by omega)) (Al (k65 _ _ _ _ ?_))
  refine Ai fun K77 k77=>Atd (Asj 0 Aob rfl (Ay Morn.f_baskets Bhz rfl rfl Asu (by decide) h59_2 r2) fun v78 r78=>Asj 1 Aoc rfl (Ax Asu rfl r78) fun v79 r79=>Ash 2 Aod rfl (Ah (v:=v20) h59_5) (Ash 3 Aoe rfl (Ah (v:=(iV ((j:Int)))) h59_12) (Asj 4 Aof rfl (Ch j Bji Avr rfl rpk (q:=(j:Int)) rfl rfl ha68) fun v80 r80=>Asj 5 Anr rfl (Ay Pick.f_basket Bkf rfl rfl ty3 (by decide) rfl r80) fun v81 r81=>?_)))
  have ⟨g82a,g82b⟩:=At.rng r81
  refine Ash 6 zZ2 rfl (Bc ty3 rfl r81) ?_
  obtain ⟨a84,ha84⟩:=Ed (xs:=m.baskets) (i:=(a68.basket).toNat) (by omega)
  have hbka84:=Atx ok ha84
  refine Asj 7 zZ3 rfl (Ch ((a68.basket).toNat) Bip Ati rfl r79 (q:=a68.basket) rfl (by omega) ha84) fun v83 r83=>Asj 8 zZ4 rfl (Ax Ati rfl r83) fun v85 r85=>Asm 9 zZ5 rfl (Ct Awx fun k86=>⟨Bml,?_⟩)
  refine Asv 10 zZ6 rfl (Dv (v:=v85) (a:=a84) (c:=Aww) Ati rfl rfl r85 rfl ⟨Bml,?_⟩)
  refine Ec rfl (k77 _ _ _ _ ?_)
  refine Nt (a:=a84) r85 fun ρ87 l87 r87=>?_
  replace hg:=GlobP.mono l87 hg
  replace r2:=Bmg l87 r2
  replace rpk:=Bmo l87 rpk
  replace r30:=Bmo l87 r30
  replace OG59_8c2:=Bmk l87 OG59_8c2
  replace OG59_8c3:=Bmk l87 OG59_8c3
  refine w_q rfl rfl fun K88 k88=>l_v (Ah (v:=(.bool (is))) h59_10) (Asf (.bool (is)) (Cn (is) (fun b89=>?_) (fun b89=>?_)))
  ·refine Ap (gN rfl b89) (Ap (gN rfl b89) (Ap (gN rfl b89) (Ap (gN rfl b89) (Ap (gN rfl b89) (Ap (gN rfl b89) (Ap (gN rfl b89) (l_v (Bt rfl b89 (v:=(.bool (true))) rfl) (Lo (.bool (true)) (Asa k88 fun K90 k90=>Auc ((og59_8c2 ++ (og59_8c3 ++ ((k32,oC #[v30,(nS),ov59_8c2,ov59_8c3] 40) :: [])))) [0,1,2,3,4,5,6,7,8,9,10,11] (by kernel_rfl) rfl rfl (Ask 0 Aqy rfl ⟨Bml,sB⟩ rfl (Yld.o (Cb Bia rfl rfl ⟨_,Ab Bjt,rfl⟩ (by decide) h59_8 rfl)) (Ask 1 Aoo rfl ⟨Bml,sB⟩ rfl (Atj (v:=ov59_8c2) ⟨_,Big,rfl⟩ rfl (List.mem_append_right _ (List.mem_append_right _ (List.mem_cons_self ..))) rfl) (Ate 2 Aop rfl ⟨Bml,sB⟩ rfl (Atc (Ay Basket.f_house Bid rfl rfl ty3 (by decide) rfl r87)) fun v91 r91=>?_))))))))))))
   have ⟨g92a,g92b⟩:=At.rng r91
   refine Ask 3 Aqz rfl ⟨Bml,sB⟩ rfl (Yld.o (Bc ty3 rfl r91)) (Ask 4 Ara rfl ⟨Bml,sB⟩ rfl (Yld.o (Nw ((a84.house).toNat) Big ty67.info rfl OG59_8c2 (q:=a84.house) rfl (by omega) (by omega) rfl)) (Ask 5 Arb rfl ⟨Bml,sB⟩ rfl (Yld.o (Cb (off':=((a84.house).toNat) * Dat.k FField + 2) Bij rfl rfl ⟨_,Ab Biz,rfl⟩ (by decide) rfl rfl)) (Ask 6 Arc rfl ⟨Bml,sB⟩ rfl (Yld.o (Cb (off':=((a84.house).toNat) * Dat.k FField + 3) Bie rfl rfl ⟨_,Ab Bhx,rfl⟩ (by decide) rfl rfl)) ?_)))
   obtain ⟨a94,ha94⟩:=Ed (xs:=Asl m (pk.take j) m.houses.length) (i:=(a84.house).toNat) (by omega)
   have hgba94:=Bgp ok (by omega) ha94
   have ⟨g93a,g93b⟩:=Azb OG59_8c2 ha94
   refine Ask 7 Aok rfl ⟨Bml,sB⟩ rfl (Axt OG59_8c2 (fun p hp=>List.mem_append_left _ hp) ha94 ⟨_,Bib,rfl⟩ rfl rfl) (Aul 8 Ans rfl ⟨Bml,sB⟩ rfl (Atc (Ay Basket.f_worth Bid rfl rfl ty3 (by decide) rfl r87)) ⟨Bml,sB⟩ fun v95 r95=>?_)
   have ⟨g96a,g96b⟩:=At.rng r95
   refine Asp 9 zZ7 rfl ⟨Bml,sB⟩ rfl (Yld.o (Bc ty3 rfl r95)) ⟨Bml,sB⟩ (Asp 10 zZ0 rfl ⟨Bml,sB⟩ rfl (Yld.o (Br rfl rfl (z:=(a94.grows.high + a84.worth)) (Bo (by rfl) (by omega) (by omega)))) ⟨Bml,sB⟩ (Asp 11 zZ1 rfl ⟨Bml,sB⟩ rfl (Yld.o (Cp (v:=(iV ((a94.grows.high + a84.worth)))) rfl)) ⟨Bml,sB⟩ (Avk rfl (k90 _ _ _ _ ?_))))
   refine Ai fun K97 k97=>Auc (((k32,oC #[v30,(nS),ov59_8c2,ov59_8c3] 40) :: [])) [0,1,2,3,4,5,6,8] (by kernel_rfl) rfl rfl (Ask 0 Ant rfl ⟨Bml,sB⟩ rfl (Yld.o (Cb Bia rfl rfl ⟨_,Ab Bjt,rfl⟩ (by decide) h59_8 rfl)) (Ask 1 Anu rfl ⟨Bml,sB⟩ rfl (Atj (v:=ov59_8c2) ⟨_,Big,rfl⟩ rfl (List.mem_cons_self ..) rfl) (Ate 2 Anv rfl ⟨Bml,sB⟩ rfl (Atc (Ay Basket.f_house Bid rfl rfl ty3 (by decide) rfl r87)) fun v98 r98=>?_)))
   have ⟨g99a,g99b⟩:=At.rng r98
   refine Ask 3 Aqw rfl ⟨Bml,sB⟩ rfl (Yld.o (Bc ty3 rfl r98)) (Ask 4 Aqx rfl ⟨Bml,sB⟩ rfl (Yld.o (Ah (v:=(iV ((a94.grows.high + a84.worth)))) rfl)) (Asp 5 Aov rfl ⟨Bml,sB⟩ rfl (Yld.o (Ah (v:=(iV ((a94.grows.high + a84.worth)))) rfl)) ⟨Bml,sB⟩ (Aur 6 Anw rfl rfl (Cm (vs:=[(iV ((a94.grows.high + a84.worth))),(iV ((a94.grows.high + a84.worth)))]) (Hy (a:=(a94.grows.high + a84.worth)) (b:=(a94.grows.high + a84.worth)) (by constructor <;> omega) (by constructor <;> omega)) Bjr rfl rfl ⟨rfl,rfl,trivial⟩ fun v100 ρ100 σ100 hc100=>?_))))
   obtain ⟨l100,s100,r100⟩:=hc100
   replace s100:=s100.symm; subst s100
   replace hg:=GlobP.mono l100 hg
   replace r2:=Bmg l100 r2
   replace rpk:=Bmo l100 rpk
   replace r30:=Bmo l100 r30
   replace OG59_8c2:=Bmk l100 OG59_8c2
   replace OG59_8c3:=Bmk l100 OG59_8c3
   replace r87:=Bmg l100 r87
   refine ⟨⟨l100,sB⟩,?_⟩
   refine Asp 7 Anx rfl ⟨l100,sB⟩ rfl (Yld.o (Nw ((a84.house).toNat) Big ty67.info rfl OG59_8c2 (q:=a84.house) rfl (by omega) (by omega) rfl)) ⟨Bml,sB⟩ (Asp 8 Anz rfl ⟨l100,sB⟩ rfl (Yld.o (Cb (off':=((a84.house).toNat) * Dat.k FField + 2) Bij rfl rfl ⟨_,Ab Biz,rfl⟩ (by decide) rfl rfl)) ⟨Bml,sB⟩ ?_)
   obtain ⟨e102_,⟨i102_1a,i102_1b⟩,⟨i102_2a,i102_2b⟩⟩:=Span.open_ r100
   have e102_c:v100.cells = [(iV ((a94.grows.high + a84.worth))),(iV ((a94.grows.high + a84.worth)))].toArray:=by rw [e102_]; rfl
   refine Auq 9 Aoa rfl rfl (Axs (σ:=(og59_8c3 ++ ((k32,oC #[v30,(nS),ov59_8c2,ov59_8c3] 40) :: σ))) (gr:=og59_8c2) (i:=(a84.house).toNat) (o:=2) (v:=ov59_8c2) (w:=v100) (z:=a94) (a:=(⟨a94.name,a94.house,⟨(a94.grows.high + a84.worth),(a94.grows.high + a84.worth)⟩,a94.marks⟩:FField)) (vs:=[(iV ((a94.grows.high + a84.worth))),(iV ((a94.grows.high + a84.worth)))]) ⟨_,Ab Biz,rfl⟩ rfl rfl (Nat.le_of_ble_eq_true rfl) rfl e102_c rfl (Zh ⟨rfl,rfl,trivial⟩) OG59_8c2 ha94 (fun cs h=>Avt (by constructor <;> omega) (by constructor <;> omega) cs h) fun gr101 G101=>?_)
   refine Avk rfl (k97 _ _ _ _ ?_)
   refine Ag rfl rfl (l_v (Cb Bia rfl rfl ⟨_,Ab Bje,rfl⟩ (by decide) h59_8 rfl) (Arv (Gu (v:=ov59_8c3) ⟨_,Bif,rfl⟩ rfl (List.mem_append_right _ (List.mem_append_right _ (List.mem_cons_self ..))) rfl ?_)))
   refine Arw (Ay Basket.f_worth Bid rfl rfl ty3 (by decide) rfl r87) fun v103 r103=>?_
   have ⟨g104a,g104b⟩:=At.rng r103
   refine l_v (Bc ty3 rfl r103) (Arw (Ay Basket.f_house Bid rfl rfl ty3 (by decide) rfl r87) fun v105 r105=>?_)
   have ⟨g106a,g106b⟩:=At.rng r105
   refine l_v (Bc ty3 rfl r105) (Arv (Bi (α:=Int) (xs:=[a84.house]) (vs:=[(iV (a84.house))]) Bhy ty3 zr3 rfl (by decide) (Dk (os:=[.tmp 137]) ⟨rfl,trivial⟩) ⟨(Cv.2 ⟨rfl,by constructor <;> omega⟩),trivial⟩ rfl (by decide) fun k107 cs107 R107=>?_))
   have G107:Grow ρ100 3 (.slice (some ⟨k107,0,none⟩) 1 1) ([a84.house]:List Int) [(k107,oC cs107.toArray 3)]:=Bs R107 rfl (by decide)
   refine Ca G107 fun ρ108 l108 r108=>?_
   replace hg:=GlobP.mono l108 hg
   replace r2:=Bmg l108 r2
   replace rpk:=Bmo l108 rpk
   replace r30:=Bmo l108 r30
   replace OG59_8c3:=Bmk l108 OG59_8c3
   replace r87:=Bmg l108 r87
   replace G101:=Bmk l108 G101
   replace r103:=Bmg l108 r103
   replace r105:=Bmg l108 r105
   have r109:Val ρ108 (.agg #[(iV (a84.worth)),(.slice (some ⟨k107,0,none⟩) 1 1)]) (⟨a84.worth,([a84.house]:List Int)⟩:Sale):=Sale.shut (x:=(⟨a84.worth,([a84.house]:List Int)⟩:Sale)) (show I64 (a84.worth) from by constructor <;> omega) r108
   refine l_v (Dn (ns:=[1,1]) (vs:=[(0,(iV (a84.worth))),(1,(.slice (some ⟨k107,0,none⟩) 1 1))]) (zc:=Akd) (cs:=[(iV (a84.worth)),(.slice (some ⟨k107,0,none⟩) 1 1)]) Bin Agb rfl ⟨⟨_,Ab Bhx,rfl⟩,⟨_,Ab Bjo,rfl⟩,trivial⟩ (EvB.map ⟨⟨rfl,rfl⟩,⟨rfl,rfl⟩,trivial⟩) ((Be (cs:=[(iV (a84.worth))]) rfl rfl (Nat.le_of_ble_eq_true rfl)).trans ((Be (cs:=[(.slice (some ⟨k107,0,none⟩) 1 1)]) (Val.cells_l r108) rfl (Nat.le_of_ble_eq_true rfl)).trans rfl))) (Arv (Bi (α:=Sale) (xs:=[(⟨a84.worth,([a84.house]:List Int)⟩:Sale)]) (vs:=[(.agg #[(iV (a84.worth)),(.slice (some ⟨k107,0,none⟩) 1 1)])]) Bif Up Agb rfl (by decide) (Dk (os:=[.tmp 139]) ⟨rfl,trivial⟩) ⟨r109,trivial⟩ rfl (by decide) fun k110 cs110 R110=>?_))
   have G110:Grow ρ108 51 (.slice (some ⟨k110,0,none⟩) 1 1) ([(⟨a84.worth,([a84.house]:List Int)⟩:Sale)]:List Sale) [(k110,oC cs110.toArray 51)]:=Bs R110 rfl (by decide)
   have sv112_hg:=hg
   have sv112_r2:=r2
   have sv112_rpk:=rpk
   have sv112_r30:=r30
   have sv112_OG59_8c3:=OG59_8c3
   have sv112_r87:=r87
   have sv112_G101:=G101
   have sv112_r103:=r103
   have sv112_r105:=r105
   have sv112_r108:=r108
   have sv112_r109:=r109
   have sv112_G110:=G110
   refine Aya G110 fun ρ112 l112 r112 L112=>?_
   replace OG59_8c3:=Bmk l112 OG59_8c3
   replace G101:=Bmk l112 G101
   refine Bj (Bmj Ase) (Arv (Gc (σ:=(gr101 ++ ((k32,oC #[v30,(nS),ov59_8c2,ov59_8c3] 40) :: σ))) (gr:=og59_8c3) (xs:=Aso m (pk.take j)) (ys:=([(⟨a84.worth,([a84.house]:List Int)⟩:Sale)]:List Sale)) Bif Bif (Ab Bks) rfl (Nat.le_of_ble_eq_true rfl) rfl rfl rfl rfl OG59_8c3 r112 (by have:=Ath (m:=m) (l:=pk); simp only [List.length_append,List.length_cons,List.length_nil] at *; omega) fun v111 gr111 G111=>?_))
   refine l_v (Cb Bia rfl rfl ⟨_,Ab Bje,rfl⟩ (by decide) h59_8 rfl) (Bj (Bmj ((p_a Asd).trans Asd)) (Cx rfl (Cz (j:=0) (v:=v111) ⟨_,Ab Bje,rfl⟩ rfl rfl (Grow.single G111) rfl (Nat.le_of_ble_eq_true rfl) ?_)))
   refine l_k k64 (Ag rfl rfl (l_v (Ah (v:=(iV ((j:Int)))) h59_12) (l_v (Br rfl rfl (z:=(((j + 1):Nat):Int)) wrE) (Lo (iV ((((j + 1):Nat):Int))) (Bj (Bmj Asc) (Bj (Bmj ((p_a Asc).trans Ase)) (Ac ?_)))))))
   refine ⟨_,?_,((j + 1)),(true),ov59_8c2,gr101,v111,gr111,rfl,rfl,(Bmm (Bmm (Bmm (Bmm l59 l87) l100) l108) l112),rfl,h59_2,h59_5,h59_8,h59_11,rfl,rfl,(by omega),(Fy (Avl ha68 ha84 (by omega) ha94) G101),(Fy (Avm ha68 ha84) G111),trivial⟩
   omega
  refine Aa (gY rfl b89) (Ah (v:=v20) h59_5) (Aa (gY rfl b89) (Ah (v:=(iV ((j:Int)))) h59_12) (Ak (gY rfl b89) (Ch j Bji Avr rfl rpk (q:=(j:Int)) rfl rfl ha68) fun v113 r113=>Ak (gY rfl b89) (Ay Pick.f_basket Bkf rfl rfl ty3 (by decide) rfl r113) fun v114 r114=>?_))
  have ⟨g115a,g115b⟩:=At.rng r114
  refine Aa (gY rfl b89) (Bc ty3 rfl r114) (Aa (gY rfl b89) (Ah (v:=(iV ((k:Int)))) h59_11) (Aa (gY rfl b89) (Ek rfl rfl) (l_v (Bn rfl b89 (v:=(.bool (a68.basket == (k:Int)))) rfl) (Lo (.bool (a68.basket == (k:Int))) (Asa k88 fun K116 k116=>Auc ((og59_8c2 ++ (og59_8c3 ++ ((k32,oC #[v30,(nS),ov59_8c2,ov59_8c3] 40) :: [])))) [0,1,2,3,4,5,6,7,8,9,10,11] (by kernel_rfl) rfl rfl (Ask 0 Aqy rfl ⟨Bml,sB⟩ rfl (Yld.o (Cb Bia rfl rfl ⟨_,Ab Bjt,rfl⟩ (by decide) h59_8 rfl)) (Ask 1 Aoo rfl ⟨Bml,sB⟩ rfl (Atj (v:=ov59_8c2) ⟨_,Big,rfl⟩ rfl (List.mem_append_right _ (List.mem_append_right _ (List.mem_cons_self ..))) rfl) (Ate 2 Aop rfl ⟨Bml,sB⟩ rfl (Atc (Ay Basket.f_house Bid rfl rfl ty3 (by decide) rfl r87)) fun v117 r117=>?_))))))))
  have ⟨g118a,g118b⟩:=At.rng r117
  refine Ask 3 Aqz rfl ⟨Bml,sB⟩ rfl (Yld.o (Bc ty3 rfl r117)) (Ask 4 Ara rfl ⟨Bml,sB⟩ rfl (Yld.o (Nw ((a84.house).toNat) Big ty67.info rfl OG59_8c2 (q:=a84.house) rfl (by omega) (by omega) rfl)) (Ask 5 Arb rfl ⟨Bml,sB⟩ rfl (Yld.o (Cb (off':=((a84.house).toNat) * Dat.k FField + 2) Bij rfl rfl ⟨_,Ab Biz,rfl⟩ (by decide) rfl rfl)) (Ask 6 Arc rfl ⟨Bml,sB⟩ rfl (Yld.o (Cb (off':=((a84.house).toNat) * Dat.k FField + 3) Bie rfl rfl ⟨_,Ab Bhx,rfl⟩ (by decide) rfl rfl)) ?_)))
  obtain ⟨a120,ha120⟩:=Ed (xs:=Asl m (pk.take j) m.houses.length) (i:=(a84.house).toNat) (by omega)
  have hgba120:=Bgp ok (by omega) ha120
  have ⟨g119a,g119b⟩:=Azb OG59_8c2 ha120
  refine Ask 7 Aok rfl ⟨Bml,sB⟩ rfl (Axt OG59_8c2 (fun p hp=>List.mem_append_left _ hp) ha120 ⟨_,Bib,rfl⟩ rfl rfl) (Aul 8 Ans rfl ⟨Bml,sB⟩ rfl (Atc (Ay Basket.f_worth Bid rfl rfl ty3 (by decide) rfl r87)) ⟨Bml,sB⟩ fun v121 r121=>?_)
  have ⟨g122a,g122b⟩:=At.rng r121
  refine Asp 9 zZ7 rfl ⟨Bml,sB⟩ rfl (Yld.o (Bc ty3 rfl r121)) ⟨Bml,sB⟩ (Asp 10 zZ0 rfl ⟨Bml,sB⟩ rfl (Yld.o (Br rfl rfl (z:=(a120.grows.high + a84.worth)) (Bo (by rfl) (by omega) (by omega)))) ⟨Bml,sB⟩ (Asp 11 zZ1 rfl ⟨Bml,sB⟩ rfl (Yld.o (Cp (v:=(iV ((a120.grows.high + a84.worth)))) rfl)) ⟨Bml,sB⟩ (Avk rfl (k116 _ _ _ _ ?_))))
  refine Ai fun K123 k123=>Auc (((k32,oC #[v30,(nS),ov59_8c2,ov59_8c3] 40) :: [])) [0,1,2,3,4,5,6,8] (by kernel_rfl) rfl rfl (Ask 0 Ant rfl ⟨Bml,sB⟩ rfl (Yld.o (Cb Bia rfl rfl ⟨_,Ab Bjt,rfl⟩ (by decide) h59_8 rfl)) (Ask 1 Anu rfl ⟨Bml,sB⟩ rfl (Atj (v:=ov59_8c2) ⟨_,Big,rfl⟩ rfl (List.mem_cons_self ..) rfl) (Ate 2 Anv rfl ⟨Bml,sB⟩ rfl (Atc (Ay Basket.f_house Bid rfl rfl ty3 (by decide) rfl r87)) fun v124 r124=>?_)))
  have ⟨g125a,g125b⟩:=At.rng r124
  refine Ask 3 Aqw rfl ⟨Bml,sB⟩ rfl (Yld.o (Bc ty3 rfl r124)) (Ask 4 Aqx rfl ⟨Bml,sB⟩ rfl (Yld.o (Ah (v:=(iV ((a120.grows.high + a84.worth)))) rfl)) (Asp 5 Aov rfl ⟨Bml,sB⟩ rfl (Yld.o (Ah (v:=(iV ((a120.grows.high + a84.worth)))) rfl)) ⟨Bml,sB⟩ (Aur 6 Anw rfl rfl (Cm (vs:=[(iV ((a120.grows.high + a84.worth))),(iV ((a120.grows.high + a84.worth)))]) (Hy (a:=(a120.grows.high + a84.worth)) (b:=(a120.grows.high + a84.worth)) (by constructor <;> omega) (by constructor <;> omega)) Bjr rfl rfl ⟨rfl,rfl,trivial⟩ fun v126 ρ126 σ126 hc126=>?_))))
  obtain ⟨l126,s126,r126⟩:=hc126
  replace s126:=s126.symm; subst s126
  replace hg:=GlobP.mono l126 hg
  replace r2:=Bmg l126 r2
  replace rpk:=Bmo l126 rpk
  replace r30:=Bmo l126 r30
  replace OG59_8c2:=Bmk l126 OG59_8c2
  replace OG59_8c3:=Bmk l126 OG59_8c3
  replace r87:=Bmg l126 r87
  refine ⟨⟨l126,sB⟩,?_⟩
  refine Asp 7 Anx rfl ⟨l126,sB⟩ rfl (Yld.o (Nw ((a84.house).toNat) Big ty67.info rfl OG59_8c2 (q:=a84.house) rfl (by omega) (by omega) rfl)) ⟨Bml,sB⟩ (Asp 8 Anz rfl ⟨l126,sB⟩ rfl (Yld.o (Cb (off':=((a84.house).toNat) * Dat.k FField + 2) Bij rfl rfl ⟨_,Ab Biz,rfl⟩ (by decide) rfl rfl)) ⟨Bml,sB⟩ ?_)
  obtain ⟨e128_,⟨i128_1a,i128_1b⟩,⟨i128_2a,i128_2b⟩⟩:=Span.open_ r126
  have e128_c:v126.cells = [(iV ((a120.grows.high + a84.worth))),(iV ((a120.grows.high + a84.worth)))].toArray:=by rw [e128_]; rfl
  refine Auq 9 Aoa rfl rfl (Axs (σ:=(og59_8c3 ++ ((k32,oC #[v30,(nS),ov59_8c2,ov59_8c3] 40) :: σ))) (gr:=og59_8c2) (i:=(a84.house).toNat) (o:=2) (v:=ov59_8c2) (w:=v126) (z:=a120) (a:=(⟨a120.name,a120.house,⟨(a120.grows.high + a84.worth),(a120.grows.high + a84.worth)⟩,a120.marks⟩:FField)) (vs:=[(iV ((a120.grows.high + a84.worth))),(iV ((a120.grows.high + a84.worth)))]) ⟨_,Ab Biz,rfl⟩ rfl rfl (Nat.le_of_ble_eq_true rfl) rfl e128_c rfl (Zh ⟨rfl,rfl,trivial⟩) OG59_8c2 ha120 (fun cs h=>Avt (by constructor <;> omega) (by constructor <;> omega) cs h) fun gr127 G127=>?_)
  refine Avk rfl (k123 _ _ _ _ ?_)
  refine Ag rfl rfl (l_v (Cb Bia rfl rfl ⟨_,Ab Bje,rfl⟩ (by decide) h59_8 rfl) (Arv (Gu (v:=ov59_8c3) ⟨_,Bif,rfl⟩ rfl (List.mem_append_right _ (List.mem_append_right _ (List.mem_cons_self ..))) rfl ?_)))
  refine Arw (Ay Basket.f_worth Bid rfl rfl ty3 (by decide) rfl r87) fun v129 r129=>?_
  have ⟨g130a,g130b⟩:=At.rng r129
  refine l_v (Bc ty3 rfl r129) (Arw (Ay Basket.f_house Bid rfl rfl ty3 (by decide) rfl r87) fun v131 r131=>?_)
  have ⟨g132a,g132b⟩:=At.rng r131
  refine l_v (Bc ty3 rfl r131) (Arv (Bi (α:=Int) (xs:=[a84.house]) (vs:=[(iV (a84.house))]) Bhy ty3 zr3 rfl (by decide) (Dk (os:=[.tmp 137]) ⟨rfl,trivial⟩) ⟨(Cv.2 ⟨rfl,by constructor <;> omega⟩),trivial⟩ rfl (by decide) fun k133 cs133 R133=>?_))
  have G133:Grow ρ126 3 (.slice (some ⟨k133,0,none⟩) 1 1) ([a84.house]:List Int) [(k133,oC cs133.toArray 3)]:=Bs R133 rfl (by decide)
  refine Ca G133 fun ρ134 l134 r134=>?_
  replace hg:=GlobP.mono l134 hg
  replace r2:=Bmg l134 r2
  replace rpk:=Bmo l134 rpk
  replace r30:=Bmo l134 r30
  replace OG59_8c3:=Bmk l134 OG59_8c3
  replace r87:=Bmg l134 r87
  replace G127:=Bmk l134 G127
  replace r129:=Bmg l134 r129
  replace r131:=Bmg l134 r131
  have r135:Val ρ134 (.agg #[(iV (a84.worth)),(.slice (some ⟨k133,0,none⟩) 1 1)]) (⟨a84.worth,([a84.house]:List Int)⟩:Sale):=Sale.shut (x:=(⟨a84.worth,([a84.house]:List Int)⟩:Sale)) (show I64 (a84.worth) from by constructor <;> omega) r134
  refine l_v (Dn (ns:=[1,1]) (vs:=[(0,(iV (a84.worth))),(1,(.slice (some ⟨k133,0,none⟩) 1 1))]) (zc:=Akd) (cs:=[(iV (a84.worth)),(.slice (some ⟨k133,0,none⟩) 1 1)]) Bin Agb rfl ⟨⟨_,Ab Bhx,rfl⟩,⟨_,Ab Bjo,rfl⟩,trivial⟩ (EvB.map ⟨⟨rfl,rfl⟩,⟨rfl,rfl⟩,trivial⟩) ((Be (cs:=[(iV (a84.worth))]) rfl rfl (Nat.le_of_ble_eq_true rfl)).trans ((Be (cs:=[(.slice (some ⟨k133,0,none⟩) 1 1)]) (Val.cells_l r134) rfl (Nat.le_of_ble_eq_true rfl)).trans rfl))) (Arv (Bi (α:=Sale) (xs:=[(⟨a84.worth,([a84.house]:List Int)⟩:Sale)]) (vs:=[(.agg #[(iV (a84.worth)),(.slice (some ⟨k133,0,none⟩) 1 1)])]) Bif Up Agb rfl (by decide) (Dk (os:=[.tmp 139]) ⟨rfl,trivial⟩) ⟨r135,trivial⟩ rfl (by decide) fun k136 cs136 R136=>?_))
  have G136:Grow ρ134 51 (.slice (some ⟨k136,0,none⟩) 1 1) ([(⟨a84.worth,([a84.house]:List Int)⟩:Sale)]:List Sale) [(k136,oC cs136.toArray 51)]:=Bs R136 rfl (by decide)
  have sv138_hg:=hg
  have sv138_r2:=r2
  have sv138_rpk:=rpk
  have sv138_r30:=r30
  have sv138_OG59_8c3:=OG59_8c3
  have sv138_r87:=r87
  have sv138_G127:=G127
  have sv138_r129:=r129
  have sv138_r131:=r131
  have sv138_r134:=r134
  have sv138_r135:=r135
  have sv138_G136:=G136
  refine Aya G136 fun ρ138 l138 r138 L138=>?_
  replace OG59_8c3:=Bmk l138 OG59_8c3
  replace G127:=Bmk l138 G127
  refine Bj (Bmj Ase) (Arv (Gc (σ:=(gr127 ++ ((k32,oC #[v30,(nS),ov59_8c2,ov59_8c3] 40) :: σ))) (gr:=og59_8c3) (xs:=Aso m (pk.take j)) (ys:=([(⟨a84.worth,([a84.house]:List Int)⟩:Sale)]:List Sale)) Bif Bif (Ab Bks) rfl (Nat.le_of_ble_eq_true rfl) rfl rfl rfl rfl OG59_8c3 r138 (by have:=Ath (m:=m) (l:=pk); simp only [List.length_append,List.length_cons,List.length_nil] at *; omega) fun v137 gr137 G137=>?_))
  refine l_v (Cb Bia rfl rfl ⟨_,Ab Bje,rfl⟩ (by decide) h59_8 rfl) (Bj (Bmj ((p_a Asd).trans Asd)) (Cx rfl (Cz (j:=0) (v:=v137) ⟨_,Ab Bje,rfl⟩ rfl rfl (Grow.single G137) rfl (Nat.le_of_ble_eq_true rfl) ?_)))
  refine l_k k64 (Ag rfl rfl (l_v (Ah (v:=(iV ((j:Int)))) h59_12) (l_v (Br rfl rfl (z:=(((j + 1):Nat):Int)) wrE) (Lo (iV ((((j + 1):Nat):Int))) (Bj (Bmj Asc) (Bj (Bmj ((p_a Asc).trans Ase)) (Ac ?_)))))))
  refine ⟨_,?_,((j + 1)),(a68.basket == (k:Int)),ov59_8c2,gr127,v137,gr137,rfl,rfl,(Bmm (Bmm (Bmm (Bmm l59 l87) l126) l134) l138),rfl,h59_2,h59_5,h59_8,h59_11,rfl,rfl,(by omega),(Fy (Avl ha68 ha84 (by omega) ha120) G127),(Fy (Avm ha68 ha84) G137),trivial⟩
  omega
 have q63:=of_decide_eq_false b63
 refine Bx (k57 _ _ _ _ ?_)
 refine Ai fun K139 k139=>Ai fun K140 k140=>?_
 replace OG59_8c2:Grow ρ59 43 ov59_8c2 (Asl m pk m.houses.length) og59_8c2:=Fy (by rw [show j = pk.length by omega,List.take_length]) OG59_8c2
 replace OG59_8c3:Grow ρ59 51 ov59_8c3 (Aso m pk) og59_8c3:=Fy (by rw [show j = pk.length by omega,List.take_length]) OG59_8c3
 refine Ag rfl rfl (Ca OG59_8c2 fun ρ141 l141 r141=>?_)
 replace hg:=GlobP.mono l141 hg
 replace r2:=Bmg l141 r2
 replace rpk:=Bmo l141 rpk
 replace r30:=Bmo l141 r30
 replace OG59_8c3:=Bmk l141 OG59_8c3
 have sv142_hg:=hg
 have sv142_r2:=r2
 have sv142_rpk:=rpk
 have sv142_r30:=r30
 have sv142_OG59_8c3:=OG59_8c3
 have sv142_r141:=r141
 refine Aya OG59_8c3 fun ρ142 l142 r142 L142=>?_
 replace hg:=GlobP.mono l142 hg
 replace r2:=Bmg l142 r2
 replace rpk:=Bmo l142 rpk
 replace r30:=Bmo l142 r30
 replace OG59_8c3:=Bmk l142 OG59_8c3
 replace r141:=Bmo l142 r141
 refine Arv (Xo (i:=0) (cs:=[v30,(nS),ov59_8c2,ov59_8c3]) (rs:=[]) ⟨_,Bia,rfl⟩ ⟨_,Ab Bjn,rfl⟩ h59_8 rfl rfl rfl ?_)
 have r143:Val ρ142 (.agg #[v30,(nS),ov59_8c2,ov59_8c3]) (⟨m.houses,[],(Asl m pk m.houses.length),(Aso m pk)⟩:Market):=Market.shut (x:=(⟨m.houses,[],(Asl m pk m.houses.length),(Aso m pk)⟩:Market)) r30 Gx r141 r142
 have hm144:Cf ((⟨m.houses,[],(Asl m pk m.houses.length),(Aso m pk)⟩:Market)) = 0:=Azj ok hpk (by omega)
 have hx144:Ahr ((⟨m.houses,[],(Asl m pk m.houses.length),(Aso m pk)⟩:Market)) = 0:=Bek ok hpk (by omega)
 refine Arv (Cm (vs:=[(.agg #[v30,(nS),ov59_8c2,ov59_8c3]),(iV (0))]) (Aub (Bch (Aue hnr) r143 hm144 hx144)) Tryd.func9 rfl rfl ⟨rfl,rfl,trivial⟩ fun w145 ρ145 σ145 hc145=>?_)
 obtain ⟨l145,s145,hw145⟩:=hc145
 replace s145:=s145.symm; subst s145 hw145
 replace hg:=GlobP.mono l145 hg
 replace r2:=Bmg l145 r2
 replace rpk:=Bmo l145 rpk
 replace r30:=Bmo l145 r30
 replace r141:=Bmo l145 r141
 replace L142:=Lent.mono l145 L142
 refine l_v (Iy rfl) (l_k k140 (Cg rfl (not_t rfl) (Al (k139 _ _ _ _ ?_))))
 refine Asb rfl rfl fun K146 K147 k146 k147=>l_v (Ah (v:=(.bool (is))) h59_10) (l_k k147 (Asg (t:=is) rfl (fun b148=>?_) (fun b148=>?_)))
 ·refine w_q rfl rfl fun K149 k149=>Arv (Bm (Aub (Auv hg.g (Aue hnr))) Bkz rfl rfl trivial ?_)
  refine Lo (.bool (true)) (l_k k149 (Aj Bmh (Aj (Bmi (Bmm (Bmm (Bmm (Bmm (Bmm (Bmm l2 l20) l35) l59) l141) l142) l145)) (Aq (hret _ _ _ ⟨rfl,rfl,eT (.bool (true)) ?_⟩)))))
  rfl
 refine Al (k146 _ _ _ _ ?_)
 refine Ai fun K150 k150=>Bep L142 (Aue hnr) ?_
 replace hg:=sv142_hg
 replace r2:=sv142_r2
 replace rpk:=sv142_rpk
 replace r30:=sv142_r30
 replace OG59_8c3:=sv142_OG59_8c3
 replace r141:=sv142_r141
 refine Ag rfl rfl (Arw (Ay Morn.f_baskets Bhz rfl rfl Asu (by decide) h59_2 r2) fun v151 r151=>Arw (Ax Asu rfl r151) fun v152 r152=>l_v (Ah (v:=(iV ((k:Int)))) h59_11) ?_)
 obtain ⟨a154,ha154⟩:=Ed (xs:=m.baskets) (i:=k) (by omega)
 have hbka154:=Atx ok ha154
 refine Arw (Ch k Bip Ati rfl r152 (q:=(k:Int)) rfl rfl ha154) fun v153 r153=>Arw (Ax Ati rfl r153) fun v155 r155=>Arv (Ct Awx fun k156=>?_)
 refine Cx rfl (Dv (v:=v155) (a:=a154) (c:=Aww) Ati rfl rfl r155 rfl ?_)
 refine Bb (a:=a154) r155 fun ρ157 l157 r157=>?_
 replace hg:=GlobP.mono l157 hg
 replace r30:=Bmo l157 r30
 replace OG59_8c3:=Bmk l157 OG59_8c3
 replace r141:=Bmo l157 r141
 refine Arx rfl rfl k150 fun K158 k158=>l_v (Cb Bia rfl rfl ⟨_,Ab Bje,rfl⟩ (by decide) h59_8 rfl) (Arv (Gu (v:=ov59_8c3) ⟨_,Bif,rfl⟩ rfl (List.mem_append_right _ (List.mem_cons_self ..)) rfl ?_))
 refine Arw (Ay Basket.f_worth Bid rfl rfl ty3 (by decide) rfl r157) fun v159 r159=>?_
 have ⟨g160a,g160b⟩:=At.rng r159
 refine l_v (Bc ty3 rfl r159) (Arw (Ay Basket.f_house Bid rfl rfl ty3 (by decide) rfl r157) fun v161 r161=>?_)
 have ⟨g162a,g162b⟩:=At.rng r161
 refine l_v (Bc ty3 rfl r161) (Arv (Bi (α:=Int) (xs:=[a154.house]) (vs:=[(iV (a154.house))]) Bhy ty3 zr3 rfl (by decide) (Dk (os:=[.tmp 158]) ⟨rfl,trivial⟩) ⟨(Cv.2 ⟨rfl,by constructor <;> omega⟩),trivial⟩ rfl (by decide) fun k163 cs163 R163=>?_))
 have G163:Grow ρ157 3 (.slice (some ⟨k163,0,none⟩) 1 1) ([a154.house]:List Int) [(k163,oC cs163.toArray 3)]:=Bs R163 rfl (by decide)
 refine Ca G163 fun ρ164 l164 r164=>?_
 replace hg:=GlobP.mono l164 hg
 replace r30:=Bmo l164 r30
 replace OG59_8c3:=Bmk l164 OG59_8c3
 replace r141:=Bmo l164 r141
 replace r157:=Bmg l164 r157
 replace r159:=Bmg l164 r159
 replace r161:=Bmg l164 r161
 have r165:Val ρ164 (.agg #[(iV (a154.worth)),(.slice (some ⟨k163,0,none⟩) 1 1)]) (⟨a154.worth,([a154.house]:List Int)⟩:Sale):=Sale.shut (x:=(⟨a154.worth,([a154.house]:List Int)⟩:Sale)) (show I64 (a154.worth) from by constructor <;> omega) r164
 refine l_v (Dn (ns:=[1,1]) (vs:=[(0,(iV (a154.worth))),(1,(.slice (some ⟨k163,0,none⟩) 1 1))]) (zc:=Akd) (cs:=[(iV (a154.worth)),(.slice (some ⟨k163,0,none⟩) 1 1)]) Bin Agb rfl ⟨⟨_,Ab Bhx,rfl⟩,⟨_,Ab Bjo,rfl⟩,trivial⟩ (EvB.map ⟨⟨rfl,rfl⟩,⟨rfl,rfl⟩,trivial⟩) ((Be (cs:=[(iV (a154.worth))]) rfl rfl (Nat.le_of_ble_eq_true rfl)).trans ((Be (cs:=[(.slice (some ⟨k163,0,none⟩) 1 1)]) (Val.cells_l r164) rfl (Nat.le_of_ble_eq_true rfl)).trans rfl))) (Arv (Bi (α:=Sale) (xs:=[(⟨a154.worth,([a154.house]:List Int)⟩:Sale)]) (vs:=[(.agg #[(iV (a154.worth)),(.slice (some ⟨k163,0,none⟩) 1 1)])]) Bif Up Agb rfl (by decide) (Dk (os:=[.tmp 160]) ⟨rfl,trivial⟩) ⟨r165,trivial⟩ rfl (by decide) fun k166 cs166 R166=>?_))
 have G166:Grow ρ164 51 (.slice (some ⟨k166,0,none⟩) 1 1) ([(⟨a154.worth,([a154.house]:List Int)⟩:Sale)]:List Sale) [(k166,oC cs166.toArray 51)]:=Bs R166 rfl (by decide)
 have sv168_hg:=hg
 have sv168_r30:=r30
 have sv168_OG59_8c3:=OG59_8c3
 have sv168_r141:=r141
 have sv168_r157:=r157
 have sv168_r159:=r159
 have sv168_r161:=r161
 have sv168_r164:=r164
 have sv168_r165:=r165
 have sv168_G166:=G166
 refine Aya G166 fun ρ168 l168 r168 L168=>?_
 replace hg:=GlobP.mono l168 hg
 replace r30:=Bmo l168 r30
 replace OG59_8c3:=Bmk l168 OG59_8c3
 replace r141:=Bmo l168 r141
 replace r157:=Bmg l168 r157
 refine Arv (Gc (σ:=((k32,oC #[v30,(nS),ov59_8c2,ov59_8c3] 40) :: σ)) (gr:=og59_8c3) (xs:=(Aso m pk)) (ys:=([(⟨a154.worth,([a154.house]:List Int)⟩:Sale)]:List Sale)) Bif Bif (Ab Bks) rfl (Nat.le_of_ble_eq_true rfl) rfl rfl rfl rfl OG59_8c3 r168 (by have:=Ath (m:=m) (l:=pk); simp only [List.length_append,List.length_cons,List.length_nil] at *; omega) fun v167 gr167 G167=>?_)
 refine l_v (Cb Bia rfl rfl ⟨_,Ab Bje,rfl⟩ (by decide) h59_8 rfl) (Bj (Bmj Asd) (Cx rfl (Cz (j:=0) (v:=v167) ⟨_,Ab Bje,rfl⟩ rfl rfl (Grow.single G167) rfl (Nat.le_of_ble_eq_true rfl) ?_)))
 refine Arx rfl rfl k158 fun K169 k169=>Bj (Bmj Asc) (Ca G167 fun ρ170 l170 r170=>?_)
 replace hg:=GlobP.mono l170 hg
 replace r30:=Bmo l170 r30
 replace r141:=Bmo l170 r141
 replace r157:=Bmg l170 r157
 refine Arv (Xo (i:=0) (cs:=[v30,(nS),ov59_8c2,v167]) (rs:=[]) ⟨_,Bia,rfl⟩ ⟨_,Ab Bjn,rfl⟩ h59_8 rfl rfl rfl ?_)
 have r171:Val ρ170 (.agg #[v30,(nS),ov59_8c2,v167]) (⟨m.houses,[],(Asl m pk m.houses.length),((Aso m pk) ++ ([(⟨a154.worth,([a154.house]:List Int)⟩:Sale)]:List Sale))⟩:Market):=Market.shut (x:=(⟨m.houses,[],(Asl m pk m.houses.length),((Aso m pk) ++ ([(⟨a154.worth,([a154.house]:List Int)⟩:Sale)]:List Sale))⟩:Market)) r30 Gx r141 r170
 refine Arw (Ay Basket.f_worth Bid rfl rfl ty3 (by decide) rfl r157) fun v172 r172=>?_
 have ⟨g173a,g173b⟩:=At.rng r172
 refine l_v (Bc ty3 rfl r172) ?_
 have hm174:Cf ((⟨m.houses,[],(Asl m pk m.houses.length),((Aso m pk) ++ ([(⟨a154.worth,([a154.house]:List Int)⟩:Sale)]:List Sale))⟩:Market)) = 0:=Azk ok hpk (by omega) ha154
 have hx174:Ahr ((⟨m.houses,[],(Asl m pk m.houses.length),((Aso m pk) ++ ([(⟨a154.worth,([a154.house]:List Int)⟩:Sale)]:List Sale))⟩:Market)) = a154.worth:=Bel ok hpk (by omega) ha154
 refine Arv (Cm (vs:=[(.agg #[v30,(nS),ov59_8c2,v167]),(iV (a154.worth))]) (Aub (Bch (Aue hnr) r171 hm174 hx174)) Tryd.func9 rfl rfl ⟨rfl,rfl,trivial⟩ fun w175 ρ175 σ175 hc175=>?_)
 obtain ⟨l175,s175,hw175⟩:=hc175
 replace s175:=s175.symm; subst s175 hw175
 replace hg:=GlobP.mono l175 hg
 refine Asf (.bool (true)) (Ae (gY rfl rfl) (Bm (Aub (Auv hg.g (Aue hnr))) Bkz rfl rfl trivial ?_))
 refine l_v (Bt rfl rfl (v:=(.bool (true))) rfl) (Lo (.bool (true)) (l_k k169 (Aj Bmh (Aj (Bmi (Bmm (Bmm (Bmm (Bmm (Bmm (Bmm (Bmm (Bmm (Bmm l2 l20) l35) l59) l141) l157) l164) l168) l170) l175)) (Aq (hret _ _ _ ⟨rfl,rfl,eT (.bool (true)) ?_⟩))))))
 rfl
end
section
set_option maxHeartbeats 1000000
open Go Go.WideShapes
theorem Bed:Api PField 55:=⟨by kernel_rfl,fun H enc W fuel cs x h hw=>by
 obtain ⟨xs,n,_,rfl,hcl,hl,hf⟩:=DataW.trod_struct Bix h
 rw [show Tryd.prog.cellsOf 55 = 3 from by kernel_rfl] at hcl
 obtain ⟨a0,r0⟩:=Asr (i:=0) Bix hl hf hw rfl rfl (show _ = 0 from rfl) (Axy Bih (by kernel_rfl))
 obtain ⟨a1,r1⟩:=Asr (i:=1) Bix hl hf hw rfl rfl (show _ = 1 from rfl) (Atq Bib (by kernel_rfl))
 obtain ⟨a2,r2⟩:=Asr (i:=2) Bix hl hf hw rfl rfl (show _ = 2 from rfl) (Atq Bib (by kernel_rfl))
 refine ⟨⟨a0,a1,a2⟩,?_⟩
 have e0:cs = cs.drop 0:=rfl
 rw [e0]
 exact ⟨(cs.drop 0).take 1,cs.drop 1,(Atr cs 0 1).trans (by rfl),r0,⟨(cs.drop 1).take 1,cs.drop 2,(Atr cs 1 1).trans (by rfl),r1,(show Dat.rep (roW W) (cs.drop 2) a2 from by (have:=r2; rw [List.take_of_length_le (by rw [List.length_drop,hcl]; decide)] at this; exact this))⟩⟩⟩
theorem Bee:Api Picker 57:=⟨by kernel_rfl,fun H enc W fuel cs x h hw=>by
 obtain ⟨xs,n,_,rfl,hcl,hl,hf⟩:=DataW.trod_struct Bik h
 rw [show Tryd.prog.cellsOf 57 = 4 from by kernel_rfl] at hcl
 obtain ⟨a0,r0⟩:=Asr (i:=0) Bik hl hf hw rfl rfl (show _ = 0 from rfl) (Axy Bih (by kernel_rfl))
 obtain ⟨a1,r1⟩:=Asr (i:=1) Bik hl hf hw rfl rfl (show _ = 1 from rfl) (Atq Bib (by kernel_rfl))
 obtain ⟨a2,r2⟩:=Asr (i:=2) Bik hl hf hw rfl rfl (show _ = 2 from rfl) (Atq Bib (by kernel_rfl))
 obtain ⟨a3,r3⟩:=Asr (i:=3) Bik hl hf hw rfl rfl (show _ = 3 from rfl) (Atq Bib (by kernel_rfl))
 refine ⟨⟨a0,a1,a2,a3⟩,?_⟩
 have e0:cs = cs.drop 0:=rfl
 rw [e0]
 exact ⟨(cs.drop 0).take 1,cs.drop 1,(Atr cs 0 1).trans (by rfl),r0,⟨(cs.drop 1).take 1,cs.drop 2,(Atr cs 1 1).trans (by rfl),r1,⟨(cs.drop 2).take 1,cs.drop 3,(Atr cs 2 1).trans (by rfl),r2,(show Dat.rep (roW W) (cs.drop 3) a3 from by (have:=r3; rw [List.take_of_length_le (by rw [List.length_drop,hcl]; decide)] at this; exact this))⟩⟩⟩⟩
theorem Bec:Api Basket 47:=⟨by kernel_rfl,fun H enc W fuel cs x h hw=>by
 obtain ⟨xs,n,_,rfl,hcl,hl,hf⟩:=DataW.trod_struct Bid h
 rw [show Tryd.prog.cellsOf 47 = 7 from by kernel_rfl] at hcl
 obtain ⟨a0,r0⟩:=Asr (i:=0) Bid hl hf hw rfl rfl (show _ = 0 from rfl) (Atq Bib (by kernel_rfl))
 obtain ⟨a1,r1⟩:=Asr (i:=1) Bid hl hf hw rfl rfl (show _ = 1 from rfl) (Atq Bib (by kernel_rfl))
 obtain ⟨a2,r2⟩:=Asr (i:=2) Bid hl hf hw rfl rfl (show _ = 2 from rfl) (Atq Bib (by kernel_rfl))
 obtain ⟨a3,r3⟩:=Asr (i:=3) Bid hl hf hw rfl rfl (show _ = 3 from rfl) Bet
 obtain ⟨a4,r4⟩:=Asr (i:=4) Bid hl hf hw rfl rfl (show _ = 5 from rfl) (Atq Bib (by kernel_rfl))
 obtain ⟨a5,r5⟩:=Asr (i:=5) Bid hl hf hw rfl rfl (show _ = 6 from rfl) (Atq Bib (by kernel_rfl))
 refine ⟨⟨a0,a1,a2,a3,a4,a5⟩,?_⟩
 have e0:cs = cs.drop 0:=rfl
 rw [e0]
 exact ⟨(cs.drop 0).take 1,cs.drop 1,(Atr cs 0 1).trans (by rfl),r0,⟨(cs.drop 1).take 1,cs.drop 2,(Atr cs 1 1).trans (by rfl),r1,⟨(cs.drop 2).take 1,cs.drop 3,(Atr cs 2 1).trans (by rfl),r2,⟨(cs.drop 3).take 2,cs.drop 5,(Atr cs 3 2).trans (by rfl),r3,⟨(cs.drop 5).take 1,cs.drop 6,(Atr cs 5 1).trans (by rfl),r4,(show Dat.rep (roW W) (cs.drop 6) a5 from by (have:=r5; rw [List.take_of_length_le (by rw [List.length_drop,hcl]; decide)] at this; exact this))⟩⟩⟩⟩⟩⟩
theorem Beb:Api Morn 29:=⟨by kernel_rfl,fun H enc W fuel cs x h hw=>by
 obtain ⟨xs,n,_,rfl,hcl,hl,hf⟩:=DataW.trod_struct Bhz h
 rw [show Tryd.prog.cellsOf 29 = 6 from by kernel_rfl] at hcl
 obtain ⟨a0,r0⟩:=Asr (i:=0) Bhz hl hf hw rfl rfl (show _ = 0 from rfl) (Avg Bic (by kernel_rfl) (Nat.le_of_ble_eq_true (by kernel_rfl)) (by decide) (Axy Bih (by kernel_rfl)))
 obtain ⟨a1,r1⟩:=Asr (i:=1) Bhz hl hf hw rfl rfl (show _ = 1 from rfl) (Avg Bim (by kernel_rfl) (Nat.le_of_ble_eq_true (by kernel_rfl)) (by decide) Bed)
 obtain ⟨a2,r2⟩:=Asr (i:=2) Bhz hl hf hw rfl rfl (show _ = 2 from rfl) (Avg Bja (by kernel_rfl) (Nat.le_of_ble_eq_true (by kernel_rfl)) (by decide) Bee)
 obtain ⟨a3,r3⟩:=Asr (i:=3) Bhz hl hf hw rfl rfl (show _ = 3 from rfl) (Avg Bip (by kernel_rfl) (Nat.le_of_ble_eq_true (by kernel_rfl)) (by decide) Bec)
 obtain ⟨a4,r4⟩:=Asr (i:=4) Bhz hl hf hw rfl rfl (show _ = 4 from rfl) Bet
 refine ⟨⟨a0,a1,a2,a3,a4⟩,?_⟩
 have e0:cs = cs.drop 0:=rfl
 rw [e0]
 exact ⟨(cs.drop 0).take 1,cs.drop 1,(Atr cs 0 1).trans (by rfl),r0,⟨(cs.drop 1).take 1,cs.drop 2,(Atr cs 1 1).trans (by rfl),r1,⟨(cs.drop 2).take 1,cs.drop 3,(Atr cs 2 1).trans (by rfl),r2,⟨(cs.drop 3).take 1,cs.drop 4,(Atr cs 3 1).trans (by rfl),r3,(show Dat.rep (roW W) (cs.drop 4) a4 from by (have:=r4; rw [List.take_of_length_le (by rw [List.length_drop,hcl]; decide)] at this; exact this))⟩⟩⟩⟩⟩
end
section
set_option maxHeartbeats 1000000
open Go Go.WideShapes Go.ChangeShapes Go.RowKit Go.Conc
def Ayb:List (String × DataW Unit):=[("crocus/fake.can",Rows.laid_crocus_fake_can),("crocus/fake.over",Rows.laid_crocus_fake_over),("crocus/pick.checks",Rows.laid_crocus_pick_checks),("crocus/pick.nowhere",Rows.laid_crocus_pick_nowhere)]
theorem gNowhere:Tryd.prog.globalNamed "crocus/pick.nowhere" = some 0:=by kernel_rfl
theorem tNowhere:(Tryd.prog.globals[0]?).map (·.type) = some 93:=by kernel_rfl
theorem Azc {P:Program} {W:World} {a:String × DataW Unit} {l:List (String × DataW Unit)} (h:laidMet P (a :: l) W):laidMet P [a] W:=by
 obtain ⟨ps,⟨g,t,cs,fuel,p,q,h1,h2,h3,h4,h5,rfl⟩,hn,hc⟩:=h
 exact ⟨MemPlace.row ⟨g,0,none⟩ cs.size ++ p ++ [],⟨g,t,cs,fuel,p,[],h1,h2,h3,h4,rfl,rfl⟩,by rw [List.append_nil]; exact (List.nodup_append.1 hn).1,fun b off hb=>hc b off (List.mem_append_left _ (by rw [List.append_nil] at hb; exact hb))⟩
theorem Azd {P:Program} {W:World} {a:String × DataW Unit} {l:List (String × DataW Unit)} (h:laidMet P (a :: l) W):laidMet P l W:=by
 obtain ⟨ps,⟨g,t,cs,fuel,p,q,h1,h2,h3,h4,h5,rfl⟩,hn,hc⟩:=h
 exact ⟨q,h5,(List.nodup_append.1 hn).2.1,fun b off hb=>hc b off (List.mem_append_right _ hb)⟩
theorem Avz {W:World} (h:laidMet Tryd.prog [("crocus/pick.nowhere",Rows.laid_crocus_pick_nowhere)] W):At (roW W) (gA 0) (⟨-1,-1⟩:Spot):=by
 obtain ⟨ps,⟨g,t,cs,fuel,p,q,hg,ht,hv,hd,_,_⟩,_,_⟩:=h
 obtain rfl:=Option.some.inj (gNowhere.symm.trans hg)
 obtain rfl:=Option.some.inj (tNowhere.symm.trans ht)
 obtain ⟨t',fz,hh⟩:=Zw hg hv
 obtain ⟨xs,n,_,h1,hcl,hl,hf⟩:=DataW.trod_struct Bjj hd
 have e1:xs.map (·.1) = [.lit (.int .i64 (-1)),.lit (.int .i64 (-1))]:=by
  have:=congrArg Prod.fst h1
  simp only [Rows.laid_crocus_pick_nowhere,DataW.agg.injEq] at this
  exact this.symm
 rw [show Tryd.prog.cellsOf 93 = 2 from by kernel_rfl] at hcl
 obtain ⟨a,b,hab⟩:∃ a b,cs.toList = [a,b]:=by
  match hm:cs.toList,hcl with
  | [a,b],_=>exact ⟨a,b,rfl⟩
 have f0:DataW.trod (fun _=>()) Tryd.prog W 0 (fun _=>true) false n 3 ((cs.toList.drop 0).take (Tryd.prog.cellsOf 3)) = xs[0]?:=hf 0 _ rfl
 have f1:DataW.trod (fun _=>()) Tryd.prog W 0 (fun _=>true) false n 3 ((cs.toList.drop 1).take (Tryd.prog.cellsOf 3)) = xs[1]?:=hf 1 _ rfl
 obtain ⟨x0,x1,hx⟩:∃ x0 x1,xs = [x0,x1]:=by
  have:xs.length = 2:=hl
  match hm:xs,this with
  | [a,b],_=>exact ⟨a,b,rfl⟩
 subst hx
 rw [hab] at f0 f1
 rw [show Tryd.prog.cellsOf 3 = 1 from by kernel_rfl] at f0 f1
 simp only [List.getElem?_cons_zero,List.getElem?_cons_succ,List.drop_zero,List.drop_succ_cons,List.take_succ_cons,List.take_zero] at f0 f1
 obtain ⟨n0,c0,d0,_⟩:=DataW.trod_int Bib f0
 obtain ⟨n1,c1,d1,_⟩:=DataW.trod_int Bib f1
 subst d0 d1
 simp only [List.map_cons,List.map_nil,List.cons.injEq,DataW.lit.injEq,Lit.int.injEq,true_and,and_true] at e1
 obtain ⟨rfl,rfl⟩:=e1
 simp only [List.cons.injEq,and_true] at c0 c1
 subst c0 c1
 have hcs:cs = #[.int .i64 (-1),.int .i64 (-1)]:=by apply Array.ext'; exact hab
 rw [hcs] at hh
 exact ⟨_,0,_,t',fz,[.int .i64 (-1),.int .i64 (-1)],[],rfl,Vz hh,⟨[.int .i64 (-1)],[.int .i64 (-1)],rfl,⟨rfl,(show I64 (-1) from by constructor <;> omega)⟩,⟨rfl,(show I64 (-1) from by constructor <;> omega)⟩⟩,rfl⟩
theorem gChecksP:Tryd.prog.globalNamed "crocus/pick.checks" = some 1:=by kernel_rfl
theorem tChecksP:(Tryd.prog.globals[1]?).map (·.type) = some 146:=by kernel_rfl
theorem Bbk (os:Os) (args:Array Value):laidMetH Tryd.prog Ayb ((World.doorLaid Tryd.prog 2000 os).forCall (fun _ _=>0) ⟨#[],args,[]⟩).memory :=
 laidMetH_of_parts3 (fuel:=8) (laidMet_of_run' 8 (by kernel_rfl) (by kernel_rfl)) (by kernel_rfl) (by kernel_rfl)
def Bby (H:Type) (enc:TypeId × Value→H) (s:ChangeSpec) (fn:Func):World→Array Value→Prop :=
 fun w args=>(s.pre enc Tryd.prog fn [] false w args∧laidMetH Tryd.prog Ayb w)∧sizedMet enc Tryd.prog fn (OpenSpec.ofChange s) false w args
theorem Axc {W:World} (h:laidMetH Tryd.prog Ayb W):GlobP (roW W):=by
 have h':laidMet Tryd.prog [("crocus/fake.over",Rows.laid_crocus_fake_over),("crocus/pick.nowhere",Rows.laid_crocus_pick_nowhere)] W∧handlesMet Tryd.prog [("crocus/fake.can",Rows.laid_crocus_fake_can),("crocus/pick.checks",Rows.laid_crocus_pick_checks)] W:=h
 have h2:laidMetH Tryd.prog Bco W:=⟨Azc h'.1,fun x hx=>h'.2 x (by rw [List.mem_singleton.1 hx]; exact List.mem_cons_self ..)⟩
 refine ⟨Xc h2,?_,Avz (Azd h'.1)⟩
 obtain ⟨g,t,cs,fuel,p,hg,ht,hv,hd⟩:=h.funcs (n:= "crocus/pick.checks") (d:=.agg [.iface "func" (.lit (.string [40,42,99,114,111,99,117,115,47,112,105,99,107,46,109,111,114,110,105,110,103,41,46,104,111,117,115,101,115])),.iface "func" (.lit (.string [40,42,99,114,111,99,117,115,47,112,105,99,107,46,109,111,114,110,105,110,103,41,46,102,105,101,108,100,115])),.iface "func" (.lit (.string [40,42,99,114,111,99,117,115,47,112,105,99,107,46,109,111,114,110,105,110,103,41,46,112,105,99,107,101,114,115])),.iface "func" (.lit (.string [40,42,99,114,111,99,117,115,47,112,105,99,107,46,109,111,114,110,105,110,103,41,46,98,97,115,107,101,116,115]))]) (List.mem_cons_of_mem _ (List.mem_cons_of_mem _ (List.mem_cons_self ..)))
 obtain rfl:=Option.some.inj (gChecksP.symm.trans hg)
 obtain rfl:=Option.some.inj (tChecksP.symm.trans ht)
 obtain ⟨t',fz,hh⟩:=Zw hg hv
 obtain ⟨xs,m,_,h1,hcl,hl,hf⟩:=DataW.trod_array Bki hd
 have e1:xs.map (·.1) = [.held [40,42,99,114,111,99,117,115,47,112,105,99,107,46,109,111,114,110,105,110,103,41,46,104,111,117,115,101,115],.held [40,42,99,114,111,99,117,115,47,112,105,99,107,46,109,111,114,110,105,110,103,41,46,102,105,101,108,100,115],.held [40,42,99,114,111,99,117,115,47,112,105,99,107,46,109,111,114,110,105,110,103,41,46,112,105,99,107,101,114,115],.held [40,42,99,114,111,99,117,115,47,112,105,99,107,46,109,111,114,110,105,110,103,41,46,98,97,115,107,101,116,115]]:=by
  have:=congrArg Prod.fst h1
  simp only [DataW.funcsOut,DataW.funcsOutAll] at this
  have h3:=(DataW.agg.inj this).symm
  simpa using h3
 rw [show Tryd.prog.cellsOf 146 = 4 from by kernel_rfl] at hcl
 obtain ⟨a,b,c,d,hab⟩:∃ a b c d,cs.toList = [a,b,c,d]:=by
  match hm:cs.toList,hcl with
  | [a,b,c,d],_=>exact ⟨a,b,c,d,rfl⟩
 have f0:=hf 0 (by decide)
 have f1:=hf 1 (by decide)
 have f2:=hf 2 (by decide)
 have f3:=hf 3 (by decide)
 obtain ⟨x0,x1,x2,x3,hx⟩:∃ x0 x1 x2 x3,xs = [x0,x1,x2,x3]:=by
  match hm:xs,hl with
  | [a,b,c,d],_=>exact ⟨a,b,c,d,rfl⟩
 subst hx
 rw [hab,show Tryd.prog.cellsOf 145 = 1 from by kernel_rfl] at f0 f1 f2 f3
 simp only [Nat.zero_mul,Nat.one_mul,Nat.mul_one,List.getElem?_cons_zero,List.getElem?_cons_succ,List.drop_zero,List.drop_succ_cons,List.take_succ_cons,List.take_zero] at f0 f1 f2 f3
 simp only [List.map_cons,List.map_nil,List.cons.injEq,and_true] at e1
 obtain ⟨d0,q0⟩:=x0
 obtain ⟨d1,q1⟩:=x1
 obtain ⟨d2,q2⟩:=x2
 obtain ⟨d3,q3⟩:=x3
 obtain ⟨e0,e1,e2,e3⟩:=e1
 simp only at e0 e1 e2 e3
 subst e0 e1 e2 e3
 obtain rfl:=func_of_trod (f0:=117) Bjy (by kernel_rfl) f0
 obtain rfl:=func_of_trod (f0:=118) Bjy (by kernel_rfl) f1
 obtain rfl:=func_of_trod (f0:=119) Bjy (by kernel_rfl) f2
 obtain rfl:=func_of_trod (f0:=114) Bjy (by kernel_rfl) f3
 have hr:=Vz hh
 exact ⟨_,0,cs,t',fz,checksP.l,[],rfl,hr,⟨rfl,rfl,by decide⟩,by rw [hab]; rfl⟩
/-- As Bbp,with four variables laid. -/
theorem Bag {f:FuncId} {r:Nat} {fn:Func} {s:ChangeSpec} (os:Os) (started:os.Started) (H:Type) (enc:TypeId × Value→H) (hfn:Tryd.prog.funcs[f]? = some fn) (hvars:s.vars = []) (hres:fn.resultTypes = #[4]) (hi:Tryd.prog.inits.idxOf? f = none)
  (hts:∀ t ∈ fn.params.toList,Tryd.prog.readableRec t = true∧t < Tryd.prog.types.size)
  (hspec:∀ ds:List (DataW H),ds.length = fn.params.toList.length→s.fn H ds = { results:=[.lit (.bool true)],args:=ds })
  (witness:∃ (w:World) (tape:Tape) (i:Input),w.os = os∧(w.forCall tape i).Shaped Tryd.prog∧i.vars = []∧Input.okWide Tryd.prog (w.forCall tape i) .any w.heap.size f i∧Bby H enc s fn (w.forCall tape i).memory i.args∧({}:Assume).holds Tryd.prog (lone (Frame.enter Tryd.prog f i.args .normal) [] (w.forCall tape i)))
  (walk:∀ (W:World) (args:List Value) (ds:List (DataW H)) (ps:List MemPlace),(∀ (j:Nat) t v,fn.params[j]? = some t→args.toArray[j]? = some v→∃ b,Value.okWide Tryd.prog W .any b t v)→DataW.TrodAll enc Tryd.prog W 0 (fun _=>true) true fn.params.toList args ds ps →
   (DataW.weightsEach Tryd.prog fn.params.toList ds).all (· ≤ reachBytes) = true→GlobP (roW W)→Agd (CY W) f r args (roW W) [] (fun w ρ' σ'=>ρ' = roW W∧σ' = []∧w = .bool true)) :
  ReturnsInLeavingWide {} Tryd.checked os f .any (Bby H enc s fn) (s.post enc Tryd.prog fn false true false false):=by
 refine returnsInLeavingWide_of_good (C:=Tryd.checked) Art started witness ?_
 intro w tape i _ _ _ hok hpre _
 obtain ⟨_,_,_,fn',hfn',_,_,_,_,hval⟩:=hok
 have e:fn' = fn:=Option.some.inj (hfn'.symm.trans hfn)
 subst e
 obtain ⟨⟨⟨ds,gs,before,hw,_⟩,hL⟩,hz⟩:=hpre
 have hsz:=hz.weights hw
 have hw':=DataW.Whole.of_heap (w':=w.forCall tape i) (by rfl) hw
 have hL':=hL.of_heap (w':=w.forCall tape i) (by rfl)
 generalize w.forCall tape i = W at *
 obtain ⟨p,q,hA,hV,hb,hnf,hnd⟩:=hw'
 have hV':DataW.TrodVars enc Tryd.prog W (fun _=>true) [] gs q:=by rw [← hvars]; exact hV
 obtain ⟨rfl,rfl⟩:=trodVars_none hV'
 simp only [List.append_nil] at hb
 replace hb:=hb.symm
 subst hb
 have hvt:s.plain.varTypes Tryd.prog = []:=by unfold DataSpec.varTypes ChangeSpec.plain; rw [hvars]; rfl
 rw [show (OpenSpec.ofChange s).bare.plain.varTypes Tryd.prog = [] from hvt,List.append_nil,List.append_nil] at hsz
 obtain ⟨hl1,hl2⟩:=Sb hA
 have hargs:i.args.toList.toArray = i.args:=by simp
 have hbody:=walk W i.args.toList ds p (fun j t v h1 h2=>⟨_,hval j t v h1 (by rw [hargs] at h2; exact h2)⟩) hA hsz (Axc hL')
 have hW0:DataW.Whole enc Tryd.prog fn'.params.toList s.vars false W i.args.toList ds [] p:=⟨p,[],hA,hV,by simp,hnf,hnd⟩
 have hlt:∀ x ∈ p,x.block < W.heap.size:=fun x hx=>by simpa using hW0.lt x hx
 have hgo:=Avo (W0:=W) (Pst:=fun v W'=>s.post enc Tryd.prog fn' false true false false W i.args v W') hbody hi fun v ρ' σ' ⟨_,hσ,hv⟩=>⟨hσ,fun W' hbw=>by
  subst hv
  have er:(s.fn H (ds ++ [])) = { results:=[.lit (.bool true)],args:=ds }:=by rw [List.append_nil]; exact hspec ds hl2
  refine ⟨ds,[],p,[],p,[],hW0,?_,?_,?_,hbw.frame _,fun h=>by cases h⟩
  ·rw [er,hres]; exact trodAll_mk1 (shut_bool Bjf true)
  ·rw [er]; exact Oo hbw hts hlt hA
  ·rw [er,hvars]; rfl⟩
 rw [hargs] at hgo
 obtain ⟨M,last,o,w',t',h1,h2,h3,h4⟩:=Avn hgo Anl
 exact ⟨M,last,o,w',t',h1,h2,h3,h4.mono fun v hp=>ChangeSpec.post_blind hp⟩
end
section
set_option maxHeartbeats 1000000
open Go Go.WideShapes Go.ChangeShapes Go.RowKit Go.Conc
set_option maxRecDepth 100000
theorem Avh (os:Os) (started:os.Started) (H:Type) (enc:TypeId × Value→H):ReturnsInLeavingWide {} Tryd.checked os 3 .any (Bby H enc Rows.fakePickedSpec Tryd.f3) (Rows.fakePickedSpec.post enc Tryd.prog Tryd.f3 false true false false):=by
 refine Bag (r:=4) os started H enc Tryd.func3 rfl rfl (by kernel_rfl) (by decide) (fun ds hd=>?_)
  (ChangeSpec.witness_shaped (enc:=enc) (C:=Tryd.checked) (os:=os) (X:=fun w _=>laidMetH Tryd.prog Ayb w) false (World.doorLaid Tryd.prog 2000 os) #[.agg #[.slice none 0 0,.slice none 0 0,.slice none 0 0,.slice none 0 0,.int .i64 0,.int .i64 0],.int .u8 0] 8 rfl (World.shaped_of_RefB (by kernel_rfl) (by kernel_rfl)) (by kernel_rfl) (by kernel_rfl) (by kernel_rfl) (Bbk os _)) ?_
 ·match ds,hd with
  | [d1,d2],_=>rfl
 ·intro W args ds ps hv hA hw hg
  obtain ⟨hl1,hl2⟩:=Sb hA
  match args,hl1,ds,hl2,hA with
  | [v1,v2],_,[d1,d2],_,⟨p1,q1,h1,⟨p2,q2,h2,_,_⟩,_⟩ =>
   obtain ⟨b1,k1⟩:=hv 0 29 v1 rfl rfl
   obtain ⟨b2,k2⟩:=hv 1 5 v2 rfl rfl
   obtain ⟨x1,rx1⟩:=Azv Beb rfl Bhz k1 h1 (Bak hw (j:=0) rfl rfl)
   obtain ⟨x2,rfl,lx2⟩:=Bfi Bkh k2 h2
   exact Axv hg (fun c vs h=>by cases h) rx1 lx2
theorem Awh:Rows.FakePickedSaid :=
 OpenClaim.holds_of_wide_leaving 3 Tryd.f3 rfl rfl rfl rfl rfl rfl rfl ⟨rfl,rfl,rfl,rfl,rfl⟩ rfl rfl rfl rfl rfl (by kernel_rfl) Tryd.func3 (by kernel_rfl)
  (of_decide_eq_true (by kernel_rfl)) (by unfold Func.isWrapper; first | (rw [if_pos (by decide +kernel)]; kernel_rfl) | (rw [if_neg (by decide +kernel)]; exact ⟨rfl,rfl⟩))
  (fun os started H enc _=>Avh os started H enc)
theorem fakePicked_holds:Rows.FakePickedCardSaid :=
 Bbv .later [.funcs,.data,.funcs,.data] true (true,"37b3dc11bbd1cbec803e64ce7911fc5abd3693f9f178cbf906c86570a2242a22") true Awh (by kernel_rfl) fakePicked_row_tie rfl ⟨rfl,rfl⟩ (by kernel_rfl) rfl
  (fun f fn hf hfn=>by
   obtain rfl:f = 3:=Option.some.inj ((show Tryd.prog.funcNamed "crocus/crocuslaw08.FakePicked" = some 3 by kernel_rfl).symm.trans hf) |>.symm
   obtain rfl:fn = Tryd.f3:=(Option.some.inj (Tryd.func3.symm.trans hfn)).symm
   exact ⟨by kernel_rfl,fun j t ht=>by
    have h2:t = 29∨t = 5:=by
     match j,ht with
     | 0,h=>exact .inl (Option.some.inj h).symm
     | 1,h=>exact .inr ((Option.some.inj h).symm)
    rcases h2 with rfl | rfl
    ·exact (show Tryd.prog.wantsStandIn 29 = false by kernel_rfl)
    ·exact (show Tryd.prog.wantsStandIn 5 = false by kernel_rfl)⟩)
  (by kernel_rfl)
end
end Go.Proofs.YtphgjjmlnkgghaaDoor
